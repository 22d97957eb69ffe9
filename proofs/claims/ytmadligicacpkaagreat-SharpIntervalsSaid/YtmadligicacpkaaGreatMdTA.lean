/- lemmas -/
import Derived.Test.YtmadligicacpkaaGreatAmF
set_option linter.all false
set_option linter.unusedSectionVars false
set_option linter.unusedVariables false
set_option linter.unusedSimpArgs false
noncomputable section
variable {ρ:Type}
set_option maxRecDepth 100000
namespace Go.Proofs.ZzM
open Go Go.Am
abbrev tI:Ty:=.int .i64
abbrev Ã:Ty:=(.pair tI tI)
abbrev Ĉ:Ty:=(.pair tI Ã)
abbrev í:Ty:=(.pair Ã Ã)
abbrev ļ:Ty:=(.pair Ã tI)
abbrev Ō:Ty:=(.pair tI ļ)
abbrev akL:Ty:=(.pair í tI)
abbrev Ð:Ty:=(.pair tI (.slice Ĉ))
abbrev ű:Ty:=(.pair Ã (.pair Ĉ Ĉ))
abbrev ank:Ty:=(.pair (.slice Ĉ) (.slice Ã))
abbrev Ó:Ty:=(.pair tI (.pair tI (.pair tI (.pair Ã ļ))))
abbrev Í:Ty:=(.pair tI (.pair tI (.pair (.slice tI) (.pair (.slice tI) (.pair tI Ĉ)))))
abbrev aBC:Ty:=(.pair tI (.pair tI (.pair tI (.pair tI (.pair tI Ĉ)))))
abbrev Å:Ty:=(.pair Ã (.pair (.slice Ó) (.pair (.slice Ã) (.pair (.slice Ō) (.pair (.slice Í) (.slice Ã))))))
abbrev Ų:Ty:=(.pair Å (.pair Ð (.pair (.slice (.slice tI)) tI)))
abbrev κ:Ty:=(.pair Å (.pair Ã (.pair .bool (.pair tI (.slice tI)))))
abbrev tyroom:Ty:=(.pair Å Ð)
abbrev a1s:Ty:=(.pair Å (.pair (.slice Ã) (.pair Ð (.slice Ã))))
abbrev eI:Ty:=(.slice Ã)
abbrev eW:Ty:=(.slice Í)
abbrev f6:Ty:=(.slice Ó)
abbrev l5:Ty:=(.slice tI)
abbrev m5:Ty:=(.slice Ō)
abbrev wi:Ty:=(.slice Ĉ)
abbrev abo:Ty:=(.pair tI (.pair tI (.pair f6 (.pair eI (.pair m5 (.pair eW eI))))))
abbrev abp:Ty:=(.pair tI (.pair tI (.pair f6 (.pair eI (.pair m5 (.pair eW (.pair eI (.pair tI (.pair tI (.pair f6 (.pair eI (.pair m5 (.pair eW (.pair eI (.pair tI (.pair tI (.pair f6 (.pair eI (.pair m5 (.pair eW (.pair eI (.pair (.map tI .bool) (.pair (.map tI .bool) f6)))))))))))))))))))))))
abbrev abq:Ty:=(.map tI .bool)
abbrev abr:Ty:=(.slice l5)
abbrev abt:Ty:=(.pair l5 (.pair tI (.pair tI (.pair tI (.pair f6 (.pair eI (.pair m5 (.pair eW (.pair eI (.pair tI (.pair tI (.pair tI (.pair tI (.pair tI (.pair tI (.pair l5 (.pair l5 (.pair tI (.pair tI (.pair tI (.pair tI (.pair eI (.pair tI (.pair tI (.pair f6 (.pair eI (.pair m5 (.pair eW (.pair eI (.pair tI (.pair wi (.pair tI (.pair tI (.pair tI (.pair tI (.pair tI (.pair tI (.pair tI (.pair tI (.pair abr (.pair abr abr)))))))))))))))))))))))))))))))))))))))))
abbrev abu:Ty:=(.map tI Ó)
abbrev abv:Ty:=(.pair tI l5)
abbrev abw:Ty:=(.pair tI (.pair tI (.pair tI (.pair f6 (.pair eI (.pair m5 (.pair eW (.pair eI (.pair tI (.pair tI (.pair tI (.pair tI (.pair tI (.pair tI (.pair l5 (.pair l5 (.pair tI (.pair tI (.pair tI (.pair tI eI))))))))))))))))))))
abbrev abx:Ty:=(.pair tI (.pair tI (.pair f6 (.pair eI (.pair m5 (.pair eW (.pair eI (.pair tI Ĉ))))))))
abbrev aby:Ty:=(.ptr tyroom)
abbrev abz:Ty:=(.pair tI (.pair tI (.pair f6 (.pair eI (.pair m5 (.pair eW (.pair eI (.pair tI (.pair tI (.pair l5 (.pair l5 (.pair tI (.pair tI (.pair tI abv))))))))))))))
abbrev abA:Ty:=(.slice .bool)
abbrev abB:Ty:=(.pair tI (.pair tI (.pair tI (.pair f6 (.pair eI (.pair m5 (.pair eW (.pair eI aBC))))))))
abbrev abC:Ty:=(.pair Å Í)
abbrev abD:Ty:=(.pair tI abo)
abbrev abE:Ty:=(.pair Å Ã)
abbrev abG:Ty:=(.pair tI eI)
abbrev abH:Ty:=(.pair l5 tI)
abbrev abI:Ty:=(.pair Å tI)
abbrev abJ:Ty:=(.pair tI Ð)
abbrev abK:Ty:=(.pair tI (.pair tI abv))
abbrev abL:Ty:=(.pair abA l5)
abbrev abM:Ty:=(.pair l5 (.pair abA (.pair l5 l5)))
abbrev abN:Ty:=(.pair tI abr)
abbrev abO:Ty:=(.pair tI ank)
abbrev abP:Ty:=(.slice abr)
abbrev abQ:Ty:=(.pair tI (.pair tI (.pair f6 (.pair eI (.pair m5 (.pair eW (.pair eI abo)))))))
abbrev abR:Ty:=(.pair aby Ã)
abbrev abS:Ty:=(.pair tI abG)
abbrev abT:Ty:=(.pair eI tI)
abbrev abU:Ty:=(.ptr Ã)
abbrev abV:Ty:=(.ptr a1s)
abbrev abW:Ty:=(.pair .bool tI)
abbrev abX:Ty:=(.pair Ã Í)
abbrev abY:Ty:=(.pair eI Ã)
abbrev abZ:Ty:=(.pair Ð Ã)
abbrev ab0:Ty:=(.pair tI aBC)
abbrev ab1:Ty:=(.pair Å í)
abbrev ab2:Ty:=(.pair l5 l5)
abbrev ab3:Ty:=(.pair Ō .bool)
abbrev ab4:Ty:=(.pair (.int .u64) (.int .u64))
abbrev ab5:Ty:=(.pair Ð l5)
abbrev ab6:Ty:=(.pair l5 abL)
abbrev ab7:Ty:=(.pair Å (.pair abu tI))
abbrev ab8:Ty:=(.pair tI (.pair tI Ĉ))
abbrev ab9:Ty:=(.pair tI (.pair tI (.pair wi Ð)))
end Go.Proofs.ZzM
end

noncomputable section
variable {ρ:Type}
set_option maxRecDepth 100000
namespace Go.Proofs.ZzM
open Go Go.Am
def ĸ (d:Val abr) (e:Int) (b:Int) (a:Int) (f:Int→Int→Option ρ) (g:Int→Option ρ):Option ρ :=
  ifb (ilt a e) (ă d a fun h=>ck (b+(Û h)) fun c=>ifb (ilt c (0:Int)) (none) (ck (a+(1:Int)) fun i=>f c i)) (g b)
def õ (d:Val abr) (e:Int) (a:Int) (b:Val l5) (f:Int→Val l5→Option ρ) (g:Val l5→Option ρ):Option ρ :=
  ifb (ilt a e) (ă d a fun c=>ï (ì ((List.length b)+(List.length c))) (ck (a+(1:Int)) fun h=>f h (b++c))) (g b)
def ad5 (a:Val abr) (k:Val l5→Option ρ):Option ρ :=
  Ì (fun(c:Val Ã) g=>ĸ a (Û a) c.1 c.2 (fun h i=>g (h,i)) (fun d=>ifb (ilt d (0:Int)) (none) (ck (d-(0:Int)) fun b=>ifb (igt b (0:Int)) (ï ((ilt (0:Int) b)&&(ì (Int.toNat b))) (ï (ile (0:Int) (Đ (List.replicate (Int.toNat b) (0:Int)))) (Ì (fun(e:Val abv) j=>õ a (Û a) e.1 e.2 (fun l m=>j (l,m)) (fun n=>k n)) ((0:Int),(List.take 0 (List.replicate (Int.toNat b) (0:Int))))))) (Ì (fun(f:Val abv) o=>õ a (Û a) f.1 f.2 (fun p q=>o (p,q)) (fun r=>k r)) ((0:Int),[]))))) ((0:Int),(0:Int))
def ò (a:Val abr):Option ((Val l5)):=ad5 a some
def aqk (l:List (Val Ó)) (m:List (Int×Bool)):Option (List (Val Ó)) :=
  ï (ì l.length) (some (l.filter fun g=>(akW (k:=tI) (v:=.bool) g.1 m).getD false))
def alc (c:Val l5) (d:Int) (a:Int) (b:Val abq) (e:Int→Val abq→Option ρ) (f:Val abq→Option ρ):Option ρ :=
  ifb (ilt a d) (ă c a fun g=>ck (a+(1:Int)) fun h=>e h (aBM (k:=tI) (v:=.bool) g true b)) (f b)
def aqc (j:Val eI) (l:Int) (f:Val f6) (g:Val eW) (b:Int) (c:Val abq) (d:Val abq) (e:Int→Val abq→Val abq→Option ρ) (m:(Val (.pair abq abq))→Option ρ):Option ρ :=
  ifb (ilt b l) (ă j b fun a=>ifb (Ă a.1 0) (none) (ifb (Ă a.1 1) (ă f a.2 fun n=>ck (b+(1:Int)) fun o=>e o (aBM (k:=tI) (v:=.bool) n.1 true c) d) (ifb (Ă a.1 2) (ă f a.2 fun p=>ck (b+(1:Int)) fun q=>e q (aBM (k:=tI) (v:=.bool) p.1 true c) d) (ï (Ă a.1 3) (ă g a.2 fun r=>ă g a.2 fun s=>Â (ò ([r.2.2.1,s.2.2.2.1])) fun h=>Ì (fun(i:(Val (.pair tI abq))) t=>alc h (Û h) i.1 i.2 (fun u w=>t (u,w)) (fun x=>ck (b+(1:Int)) fun y=>e y x (aBM (k:=tI) (v:=.bool) a.2 true d))) ((0:Int),c)))))) (m (c,d))
def alb (c:Val eI) (d:Int) (a:Int) (b:Val abq) (e:Int→Val abq→Option ρ) (f:Val abq→Option ρ):Option ρ :=
  ifb (ilt a d) (ă c a fun g=>ck (a+(1:Int)) fun h=>e h (aBM (k:=tI) (v:=.bool) g.1 true b)) (f b)
def ala (e:Val eI) (f:Int) (g:Val abq) (a:Int) (b:Val eI) (c:Int→Val eI→Option ρ) (h:Val eI→Option ρ):Option ρ :=
  ifb (ilt a f) (ă e a fun d=>aNc (k:=tI) (v:=.bool) d.1 g (fun i=>ifb i (ï (ì ((List.length b)+(List.length ([d])))) (ck (a+(1:Int)) fun j=>c j (b++([d])))) (ck (a+(1:Int)) fun l=>c l b)) (ck (a+(1:Int)) fun m=>c m b)) (h b)
def ak9 (e:Val m5) (f:Int) (g:Val abq) (a:Int) (b:Val m5) (c:Int→Val m5→Option ρ) (h:Val m5→Option ρ):Option ρ :=
  ifb (ilt a f) (ă e a fun d=>aNc (k:=tI) (v:=.bool) d.1 g (fun i=>ifb i (ï (ì ((List.length b)+(List.length ([d])))) (ck (a+(1:Int)) fun j=>c j (b++([d])))) (ck (a+(1:Int)) fun l=>c l b)) (ck (a+(1:Int)) fun m=>c m b)) (h b)
def ak8 (e:Val eW) (f:Int) (g:Val abq) (a:Int) (b:Val eW) (d:Int→Val eW→Option ρ) (h:Val eW→Option ρ):Option ρ :=
  ifb (ilt a f) (ă e a fun c=>aNc (k:=tI) (v:=.bool) a g (fun i=>ifb i (ï (ì (List.length c.2.2.1)) (ï (ì (List.length c.2.2.2.1)) (ï (ì ((List.length b)+(List.length ([c])))) (ck (a+(1:Int)) fun j=>d j (b++([c])))))) (ck (a+(1:Int)) fun l=>d l b)) (ck (a+(1:Int)) fun m=>d m b)) (h b)
def ahd (p:Val abS) (v:Val abp) (k:Val Å→Option ρ):Option ρ :=
  Ì (fun(a:Val abG) d=>ala v.2.2.2.1 (Û v.2.2.2.1) v.2.2.2.2.2.2.2.2.2.2.2.2.2.2.2.2.2.2.2.2.2.1 a.1 a.2 (fun e f=>d (e,f)) (fun g=>Ì (fun(b:(Val (.pair tI m5))) h=>ak9 v.2.2.2.2.1 (Û v.2.2.2.2.1) v.2.2.2.2.2.2.2.2.2.2.2.2.2.2.2.2.2.2.2.2.2.1 b.1 b.2 (fun i j=>h (i,j)) (fun l=>Ì (fun(c:(Val (.pair tI eW))) m=>ak8 v.2.2.2.2.2.1 (Û v.2.2.2.2.2.1) v.2.2.2.2.2.2.2.2.2.2.2.2.2.2.2.2.2.2.2.2.2.2.1 c.1 c.2 (fun n o=>m (n,o)) (fun q=>k ((p.1,p.2.1),v.2.2.2.2.2.2.2.2.2.2.2.2.2.2.2.2.2.2.2.2.2.2.2,g,l,q,p.2.2))) ((0:Int),[]))) ((0:Int),[]))) ((0:Int),[])
def avg (a:Val Å) (d:Val eI) (b:Val eI) (kA:Val abS→Val abp→Option ρ):Option ρ :=
  Ì (fun(c:(Val (.pair tI (.pair abq abq)))) g=>aqc d (Û d) a.2.1 a.2.2.2.2.1 c.1 c.2.1 c.2.2 (fun h i j=>g (h,i,j)) (fun e=>Ì (fun(f:(Val (.pair tI abq))) k=>alb b (Û b) f.1 f.2 (fun l m=>k (l,m)) (fun n=>kA (a.1.1,a.1.2,b) (a.1.1,a.1.2,a.2.1,a.2.2.1,a.2.2.2.1,a.2.2.2.2.1,a.2.2.2.2.2,(0:Int),(0:Int),[],[],[],[],[],a.1.1,a.1.2,a.2.1,a.2.2.1,a.2.2.2.1,a.2.2.2.2.1,a.2.2.2.2.2,n,e.2,[]))) ((0:Int),e.1))) ((0:Int),[],[])
def aW6 (a:Val Å) (b:Val eI) (c:Val eI) (k:Val Å→Option ρ):Option ρ :=
  avg a b c fun p v=>Â (aqk v.2.2.2.2.2.2.2.2.2.2.2.2.2.2.2.2.1 v.2.2.2.2.2.2.2.2.2.2.2.2.2.2.2.2.2.2.2.2.2.1) fun z=>ahd p (v.1,v.2.1,v.2.2.1,v.2.2.2.1,v.2.2.2.2.1,v.2.2.2.2.2.1,v.2.2.2.2.2.2.1,v.2.2.2.2.2.2.2.1,v.2.2.2.2.2.2.2.2.1,v.2.2.2.2.2.2.2.2.2.1,v.2.2.2.2.2.2.2.2.2.2.1,v.2.2.2.2.2.2.2.2.2.2.2.1,v.2.2.2.2.2.2.2.2.2.2.2.2.1,v.2.2.2.2.2.2.2.2.2.2.2.2.2.1,v.2.2.2.2.2.2.2.2.2.2.2.2.2.2.1,v.2.2.2.2.2.2.2.2.2.2.2.2.2.2.2.1,v.2.2.2.2.2.2.2.2.2.2.2.2.2.2.2.2.1,v.2.2.2.2.2.2.2.2.2.2.2.2.2.2.2.2.2.1,v.2.2.2.2.2.2.2.2.2.2.2.2.2.2.2.2.2.2.1,v.2.2.2.2.2.2.2.2.2.2.2.2.2.2.2.2.2.2.2.1,v.2.2.2.2.2.2.2.2.2.2.2.2.2.2.2.2.2.2.2.2.1,v.2.2.2.2.2.2.2.2.2.2.2.2.2.2.2.2.2.2.2.2.2.1,v.2.2.2.2.2.2.2.2.2.2.2.2.2.2.2.2.2.2.2.2.2.2.1,z) k
def aFt (a:Val Å) (b:Val eI) (c:Val eI):Option (Val Å):=aW6 a b c some
def ayq (a:Val Ã) (b:Int) (c:Int) (k:Bool→Option ρ):Option ρ :=
  ifb (ile b a.1) (ifb (ile a.1 a.2) (k (ile a.2 c)) (k false)) (k false)
def Λ (a:Val Ã) (b:Int) (c:Int):Option (Bool):=ayq a b c some
def ayk (a:Int) (b:Int) (c:Int) (k:Bool→Option ρ):Option ρ :=
  ifb (ile b a) (k (ile a c)) (k false)
def ğ (a:Int) (b:Int) (c:Int):Option (Bool):=ayk a b c some
def aEX (a:Int) (k:Bool→Option ρ):Option ρ :=
  Â (ğ a (0:Int) (20000:Int)) fun b=>k b
def aho (a:Int):Option (Bool):=aEX a some
def aLG (a:Int) (k:Int→Option ρ):Option ρ :=
  ifb (ilt a (0:Int)) (k (IntKind.wrap .u64 (0-(IntKind.wrap .u64 a)))) (k (IntKind.wrap .u64 a))
def aka (a:Int):Option (Int):=aLG a some
def aqf (b:Int) (a:Int) (c:Int→Int→Option ρ) (d:Int→Option ρ):Option ρ :=
  ifb (ine a (0:Int)) (ifb (Ă a 0) (none) (c a (Int.tmod b a))) (d b)
def aRT (b:Int) (c:Int) (k:Int→Option ρ):Option ρ :=
  Ì (fun(a:Val ab4) d=>aqf a.1 a.2 (fun e f=>d (e,f)) (fun g=>k g)) (b,c)
def aFu (a:Int) (b:Int):Option (Int):=aRT a b some
def aEE (a:Val Ã) (k:Bool→Option ρ):Option ρ :=
  ifb (ige a.2 (1:Int)) (ifb (ile a.2 (2147483647:Int)) (Â (aka a.1) fun b=>ifb (ile b (2147483647:Int)) (Â (aka a.1) fun c=>Â (aka a.2) fun d=>Â (aFu c d) fun e=>k (ieq e (1:Int))) (k false)) (k false)) (k false)
def alJ (a:Val Ã):Option (Bool):=aEE a some
def ati (a:Val Ó) (k:Bool→Option ρ):Option ρ :=
  Â (alJ a.2.2.2.2.1) fun b=>ifb b (Â (ğ a.2.2.2.2.1.1 (-1000:Int) (1000:Int)) fun c=>ifb c (Â (ğ a.1 (1:Int) (1099511627776:Int)) fun d=>ifb d (Â (aho a.2.1) fun e=>ifb e (Â (ğ a.2.2.1 (1:Int) (1125899906842624:Int)) fun f=>ifb f (Â (Λ a.2.2.2.1 (-1073741824:Int) (1073741824:Int)) fun g=>ifb g (ifb (ile a.2.2.2.2.1.2 (100:Int)) (Â (ğ a.2.2.2.2.2 (0:Int) (1048576:Int)) fun h=>k h) (k false)) (k false)) (k false)) (k false)) (k false)) (Â (ğ a.1 (1:Int) (1099511627776:Int)) fun i=>ifb i (Â (aho a.2.1) fun j=>ifb j (Â (ğ a.2.2.1 (1:Int) (1125899906842624:Int)) fun l=>ifb l (Â (Λ a.2.2.2.1 (-1073741824:Int) (1073741824:Int)) fun m=>ifb m (k false) (k false)) (k false)) (k false)) (k false))) (Â (ğ a.1 (1:Int) (1099511627776:Int)) fun n=>ifb n (Â (aho a.2.1) fun o=>ifb o (Â (ğ a.2.2.1 (1:Int) (1125899906842624:Int)) fun p=>ifb p (Â (Λ a.2.2.2.1 (-1073741824:Int) (1073741824:Int)) fun q=>ifb q (k false) (k false)) (k false)) (k false)) (k false))
def am7 (a:Val Ó):Option (Bool):=ati a some
def ad7 (e:Val f6) (f:Int) (g:Val f6) (a:Int) (b:Int→Option ρ) (c:Int→Option ρ) (h:Unit→Option ρ):Option ρ :=
  ifb (ilt a f) (ă e a fun d=>Â (am7 d) fun i=>ifb (!i) (c (1:Int)) (ifb (igt a (0:Int)) (ck (a-(1:Int)) fun j=>ă g j fun k=>ifb (ile d.1 k.1) (c (6:Int)) (ck (a+(1:Int)) fun l=>b l)) (ck (a+(1:Int)) fun m=>b m))) (h ())
def aiR (a:Val Å) (k:Int→Option ρ):Option ρ :=
  Ì (fun(b:Int) c=>ad7 a.2.1 (Û a.2.1) a.2.1 b (fun d=>c d) (fun e=>k e) (fun _=>k (0:Int))) (0:Int)
def ź (a:Val Å):Option (Int):=aiR a some
def agW (d:Val f6) (e:Int) (a:Int) (b:Val abu) (f:Int→Val abu→Option ρ) (g:Val abu→Option ρ):Option ρ :=
  ifb (ilt a e) (ă d a fun c=>ck (a+(1:Int)) fun h=>f h (aBM (k:=tI) (v:=Ó) c.1 c b)) (g b)
def atf (a:Val Å) (k:Val abu→Option ρ):Option ρ :=
  Ì (fun(b:(Val (.pair tI abu))) c=>agW a.2.1 (Û a.2.1) b.1 b.2 (fun d e=>c (d,e)) (fun f=>k f)) ((0:Int),[])
def ι (a:Val Å):Option ((Val abu)):=atf a some
def ω (b:Val l5) (c:Int) (d:Int) (a:Int) (e:Int→Option ρ) (f:Int→Option ρ) (g:Unit→Option ρ):Option ρ :=
  ifb (ilt a d) (ă b a fun h=>ifb (ieq c h) (f a) (ck (a+(1:Int)) fun i=>e i)) (g ())
def ags (a:Val l5) (b:Int) (k:Int→Option ρ):Option ρ :=
  Ì (fun(c:Int) d=>ω a b (Û a) c (fun e=>d e) (fun f=>k f) (fun _=>k (-1:Int))) (0:Int)
def aev (a:Val l5) (b:Int):Option (Int):=ags a b some
def aeC (a:Val l5) (b:Int) (k:Bool→Option ρ):Option ρ :=
  Â (aev a b) fun c=>k (ige c (0:Int))
def ĩ (a:Val l5) (b:Int):Option (Bool):=aeC a b some
def amL (f:Val eW) (g:Int) (d:Int) (a:Int) (b:Val l5) (e:Int→Val l5→Option ρ) (h:Val l5→Option ρ):Option ρ :=
  ifb (ilt a g) (ă f a fun c=>Â (ĩ c.2.2.1 d) fun i=>Â (ĩ c.2.2.2.1 d) fun j=>ifb (!(i==j)) (ï (ì ((List.length b)+(List.length ([c.2.1])))) (ck (a+(1:Int)) fun k=>e k (b++([c.2.1])))) (ck (a+(1:Int)) fun l=>e l b)) (h b)
def amK (e:Val eI) (f:Int) (g:Int) (a:Int) (b:Val l5) (d:Int→Val l5→Option ρ) (h:Val l5→Option ρ):Option ρ :=
  ifb (ilt a f) (ă e a fun c=>ifb (ieq c.1 g) (ï (ì ((List.length b)+(List.length ([c.2])))) (ck (a+(1:Int)) fun i=>d i (b++([c.2])))) (ck (a+(1:Int)) fun j=>d j b)) (h b)
def aL9 (a:Val Å) (b:Val Ó) (k:Val l5→Option ρ):Option ρ :=
  Ì (fun(d:Val abv) f=>amL a.2.2.2.2.1 (Û a.2.2.2.2.1) b.1 d.1 d.2 (fun g h=>f (g,h)) (fun i=>Ì (fun(e:Val abv) j=>amK a.2.2.2.2.2 (Û a.2.2.2.2.2) b.1 e.1 e.2 (fun l m=>j (l,m)) (fun c=>ï (ì (List.length c)) (ï (ì (List.length (atK c))) (k (aqC (atK c)))))) ((0:Int),i))) ((0:Int),[b.2.1])
def aia (a:Val Å) (b:Val Ó):Option ((Val l5)):=aL9 a b some
def aj1 (e:Val l5) (f:Int) (c:Int) (a:Int) (b:Val eI) (g:Int→Val eI→Option ρ) (h:Val eI→Option ρ):Option ρ :=
  ifb (ilt a f) (ă e a fun d=>ï (ì ((List.length b)+(List.length ([(c,d)])))) (ck (a+(1:Int)) fun i=>g i (b++([(c,d)])))) (h b)
def aj2 (f:Val f6) (g:Int) (h:Int) (i:Int) (j:Val f6) (k:Val eI) (l:Val m5) (m:Val eW) (n:Val eI) (a:Int) (b:Val eI) (o:Int→Val eI→Option ρ) (p:Val eI→Option ρ):Option ρ :=
  ifb (ilt a g) (ă f a fun c=>Â (aia ((h,i),j,k,l,m,n) c) fun d=>Ì (fun(e:Val abG) q=>aj1 d (Û d) c.1 e.1 e.2 (fun r s=>q (r,s)) (fun t=>ck (a+(1:Int)) fun u=>o u t)) ((0:Int),b)) (p b)
def aES (a:Val Å) (k:Val eI→Option ρ):Option ρ :=
  Ì (fun(b:Val abG) c=>aj2 a.2.1 (Û a.2.1) a.1.1 a.1.2 a.2.1 a.2.2.1 a.2.2.2.1 a.2.2.2.2.1 a.2.2.2.2.2 b.1 b.2 (fun d e=>c (d,e)) (fun f=>k f)) ((0:Int),[])
def ai8 (a:Val Å):Option ((Val eI)):=aES a some
def aky (a:Val abu) (b:Int) (c:Int) (k:Int→Option ρ):Option ρ :=
  aNc (k:=tI) (v:=Ó) b a (fun d=>ifb (ilt c d.2.1) (k (4:Int)) (k (0:Int))) (k (5:Int))
def adY (a:Val abu) (b:Int) (c:Int):Option (Int):=aky a b c some
def ath (b:Int) (a:Int) (c:(Val (.ptr abu))) (k:Int→Option ρ):Option ρ :=
  Â (aho a) fun d=>ifb (!d) (k (1:Int)) (Â (adY c b a) fun e=>k e)
def ń (a:Int) (b:Int) (c:(Val (.ptr abu))):Option (Int):=ath a b c some
def aeX (d:Val m5) (e:Int) (f:Int) (g:Int) (h:Int) (a:Int) (b:Int→Option ρ) (i:Int→Option ρ) (j:Unit→Option ρ):Option ρ :=
  ifb (ilt a e) (ă d a fun c=>ifb (ieq c.1 f) (ifb (ile c.2.1.1 h) (ifb (ile g c.2.1.2) (i a) (ck (a+(1:Int)) fun k=>b k)) (ck (a+(1:Int)) fun l=>b l)) (ck (a+(1:Int)) fun m=>b m)) (j ())
def Κ (d:Val eI) (e:Int) (f:Int) (g:Int) (h:Int) (a:Int) (b:Int→Option ρ) (i:Int→Option ρ) (j:Unit→Option ρ):Option ρ :=
  ifb (ilt a e) (ă d a fun c=>ifb (ieq c.1 f) (Â (ğ c.2 g h) fun k=>ifb k (i a) (ck (a+(1:Int)) fun l=>b l)) (ck (a+(1:Int)) fun m=>b m)) (j ())
def amM (b:Val Å) (e:Val abu) (c:Int) (k:Int→Option ρ):Option ρ :=
  ă b.2.2.2.1 c fun a=>Â (Λ a.2.1 (0:Int) (20000:Int)) fun f=>ifb (!f) (k (1:Int)) (Â (ğ a.2.2 (0:Int) (1048576:Int)) fun g=>ifb (!g) (k (1:Int)) (Â (adY e a.1 a.2.1.1) fun d=>ifb (ine d (0:Int)) (k d) (ï ((ile (0:Int) c)&&(ile c (Đ b.2.2.2.1))) (Ì (fun(h:Int) i=>aeX (List.take (Int.toNat c) b.2.2.2.1) (Û (List.take (Int.toNat c) b.2.2.2.1)) a.1 a.2.1.1 a.2.1.2 h (fun j=>i j) (fun l=>ifb (ige l (0:Int)) (k (9:Int)) (Ì (fun(m:Int) n=>Κ b.2.2.1 (Û b.2.2.1) a.1 a.2.1.1 a.2.1.2 m (fun o=>n o) (fun p=>ifb (ige p (0:Int)) (k (9:Int)) (k (0:Int))) (fun _=>k (0:Int))) (0:Int))) (fun _=>Ì (fun(q:Int) r=>Κ b.2.2.1 (Û b.2.2.1) a.1 a.2.1.1 a.2.1.2 q (fun s=>r s) (fun t=>ifb (ige t (0:Int)) (k (9:Int)) (k (0:Int))) (fun _=>k (0:Int))) (0:Int))) (0:Int)))))
def Υ (a:Val Å) (b:Val abu) (c:Int):Option (Int):=amM a b c some
def amJ (c:Int) (d:Val l5) (b:Val l5) (a:Int) (e:Int→Option ρ) (f:Int→Option ρ) (g:Unit→Option ρ):Option ρ :=
  ifb (ilt a c) (ï ((ile (0:Int) a)&&(ilt a (Đ b))) (Ň b (Int.toNat a) fun h=>Â (ĩ d h) fun i=>ifb i (f a) (ck (a+(1:Int)) fun j=>e j))) (g ())
def afc (f:Val l5) (b:Int) (c:Int) (a:Val l5) (d:Int→Int→Val l5→Option ρ) (g:Val abv→Option ρ):Option ρ :=
  ifb (ilt c (Û a)) (ï ((ile (0:Int) c)&&(ilt c (Đ a))) (Ň a (Int.toNat c) fun e=>Â (ĩ f e) fun h=>ifb (!h) (ï ((ile (0:Int) b)&&(ilt b (Đ a))) (Ň a (Int.toNat b) fun l=>ck (b+(1:Int)) fun i=>ck (c+(1:Int)) fun j=>d i j (List.set a (Int.toNat b) e))) (ck (c+(1:Int)) fun k=>d b k a))) (g (b,a))
def aL1 (b:Val l5) (e:Val l5) (k:Val l5→Option ρ):Option ρ :=
  ï (ì (List.length b)) (Ì (fun(f:Int) g=>amJ (Û b) e b f (fun h=>g h) (fun c=>ifb (ieq c (-1:Int)) (k b) (ck (c+(1:Int)) fun i=>Ì (fun(d:(Val (.pair tI abv))) j=>afc e d.1 d.2.1 d.2.2 (fun l m n=>j (l,m,n)) (fun a=>ï ((ile (0:Int) a.1)&&(ile a.1 (Đ a.2))) (ï ((ile (0:Int) a.1)&&(ile a.1 (Đ (List.take (Int.toNat a.1) a.2++List.replicate (List.length a.2-(Int.toNat a.1)) (0:Int)++List.drop ((Int.toNat a.1)+(List.length a.2-(Int.toNat a.1))) a.2)))) (k (List.take (Int.toNat a.1) (List.drop 0 (List.take (Int.toNat a.1) a.2++List.replicate (List.length a.2-(Int.toNat a.1)) (0:Int)++List.drop ((Int.toNat a.1)+(List.length a.2-(Int.toNat a.1))) a.2))))))) (c,i,b))) (fun _=>k b)) (0:Int))
def Ŭ (a:Val l5) (b:Val l5):Option ((Val l5)):=aL1 a b some
def ah2 (e:Val l5) (f:Val l5) (g:Int) (a:Int) (b:Int→Option ρ) (c:Bool→Option ρ) (h:Unit→Option ρ):Option ρ :=
  ifb (ilt a g) (ă f a fun d=>Â (ğ d (1:Int) (1099511627776:Int)) fun i=>ifb (!i) (c false) (ifb (igt a (0:Int)) (ck (a-(1:Int)) fun j=>ă e j fun k=>ifb (ile d k) (c false) (ck (a+(1:Int)) fun l=>b l)) (ck (a+(1:Int)) fun m=>b m))) (h ())
def ayp (a:Val l5) (k:Bool→Option ρ):Option ρ :=
  Ì (fun(b:Int) c=>ah2 a a (Û a) b (fun d=>c d) (fun e=>k e) (fun _=>k (ile (Û a) (6:Int)))) (0:Int)
def agI (a:Val l5):Option (Bool):=ayp a some
def amN (d:Val m5) (e:Int) (f:Int) (g:Int) (a:Int) (c:Int→Option ρ) (h:Int→Option ρ) (i:Unit→Option ρ):Option ρ :=
  ifb (ilt a e) (ă d a fun b=>ifb (ieq b.1 f) (Â (ğ g b.2.1.1 b.2.1.2) fun j=>ifb j (h a) (ck (a+(1:Int)) fun k=>c k)) (ck (a+(1:Int)) fun l=>c l)) (i ())
def aMb (a:Val Å) (c:Int) (d:Int) (k:Val ab3→Option ρ):Option ρ :=
  Ì (fun(e:Int) f=>amN a.2.2.2.1 (Û a.2.2.2.1) c d e (fun g=>f g) (fun b=>ifb (ilt b (0:Int)) (k (((0:Int),((0:Int),(0:Int)),(0:Int)),false)) (ă a.2.2.2.1 b fun h=>k (h,true))) (fun _=>k (((0:Int),((0:Int),(0:Int)),(0:Int)),false))) (0:Int)
def aqz (a:Val Å) (b:Int) (c:Int):Option ((Val ab3)):=aMb a b c some
def adG (b:Val eW) (c:Int) (d:Int) (a:Int) (e:Int→Option ρ) (f:Int→Option ρ) (g:Unit→Option ρ):Option ρ :=
  ifb (ilt a c) (ă b a fun h=>ifb (ieq h.1 d) (f a) (ck (a+(1:Int)) fun i=>e i)) (g ())
def adF (c:Val abu) (b:Int) (d:Val l5) (e:Int) (f:Int) (a:Int) (g:Int→Option ρ) (h:Int→Option ρ) (i:Unit→Option ρ):Option ρ :=
  ifb (ilt a e) (ă d a fun j=>Â (adY c j f) fun k=>ifb (ieq k b) (h b) (ck (a+(1:Int)) fun l=>g l)) (i ())
def ő (d:Val abu) (b:Val l5) (e:Int) (f:Int) (c:Val l5) (a:Int) (g:Int→Option ρ) (h:Int→Option ρ) (i:Unit→Option ρ):Option ρ :=
  ifb (ilt a e) (ï ((ile (0:Int) a)&&(ilt a (Đ c))) (Ň c (Int.toNat a) fun j=>Ì (fun(k:Int) l=>adF d j b (Û b) f k (fun m=>l m) (fun n=>h n) (fun _=>ck (a+(1:Int)) fun o=>g o)) (0:Int))) (i ())
def Ő (b:Val l5) (c:Int) (d:Int) (e:Int) (f:Val f6) (g:Val eI) (h:Val m5) (i:Val eW) (j:Val eI) (k:Int) (a:Int) (l:Int→Option ρ) (m:Int→Option ρ) (n:Unit→Option ρ):Option ρ :=
  ifb (ilt a c) (ă b a fun o=>Â (aqz ((d,e),f,g,h,i,j) o k) fun p=>ifb p.2 (m (9:Int)) (ck (a+(1:Int)) fun q=>l q)) (n ())
def ahC (b:Val Å) (f:Val abu) (c:Int) (k:Int→Option ρ):Option ρ :=
  ă b.2.2.2.2.1 c fun a=>Â (ğ a.1 (1:Int) (1099511627776:Int)) fun l=>ifb (!l) (k (1:Int)) (Â (aho a.2.1) fun m=>ifb (!m) (k (1:Int)) (Â (ğ a.2.2.2.2.1 (-1125899906842624:Int) (1125899906842624:Int)) fun n=>ifb (!n) (k (1:Int)) (Â (ğ a.2.2.2.2.2.1 (0:Int) (1073741824:Int)) fun o=>ifb (!o) (k (1:Int)) (Â (Λ a.2.2.2.2.2.2 (-10000:Int) (10000:Int)) fun p=>ifb (!p) (k (1:Int)) (Â (agI a.2.2.1) fun q=>ifb (!q) (k (1:Int)) (Â (agI a.2.2.2.1) fun r=>ifb (!r) (k (1:Int)) (ï ((ile (0:Int) c)&&(ile c (Đ b.2.2.2.2.1))) (Ì (fun(s:Int) t=>adG (List.take (Int.toNat c) b.2.2.2.2.1) (Û (List.take (Int.toNat c) b.2.2.2.2.1)) a.1 s (fun u=>t u) (fun v=>ifb (ige v (0:Int)) (k (6:Int)) (Â (ò ([a.2.2.1,a.2.2.2.1])) fun d=>Ì (fun(w:Int) x=>ő f d (Û ([(5:Int),(4:Int)])) a.2.1 ([(5:Int),(4:Int)]) w (fun y=>x y) (fun z=>k z) (fun _=>Ì (fun(A:Int) B=>Ő d (Û d) b.1.1 b.1.2 b.2.1 b.2.2.1 b.2.2.2.1 b.2.2.2.2.1 b.2.2.2.2.2 a.2.1 A (fun C=>B C) (fun D=>k D) (fun _=>Â (Ŭ a.2.2.1 a.2.2.2.1) fun g=>Â (Ŭ a.2.2.2.1 a.2.2.1) fun h=>ifb (igt (Û g) (1:Int)) (k (1:Int)) (ifb (igt (Û h) (1:Int)) (k (1:Int)) (ck ((Û g)+(Û h)) fun E=>ifb (ieq E (0:Int)) (k (1:Int)) (k (0:Int)))))) (0:Int))) (0:Int))) (fun _=>Â (ò ([a.2.2.1,a.2.2.2.1])) fun e=>Ì (fun(F:Int) G=>ő f e (Û ([(5:Int),(4:Int)])) a.2.1 ([(5:Int),(4:Int)]) F (fun H=>G H) (fun I=>k I) (fun _=>Ì (fun(J:Int) K=>Ő e (Û e) b.1.1 b.1.2 b.2.1 b.2.2.1 b.2.2.2.1 b.2.2.2.2.1 b.2.2.2.2.2 a.2.1 J (fun L=>K L) (fun M=>k M) (fun _=>Â (Ŭ a.2.2.1 a.2.2.2.1) fun i=>Â (Ŭ a.2.2.2.1 a.2.2.1) fun j=>ifb (igt (Û i) (1:Int)) (k (1:Int)) (ifb (igt (Û j) (1:Int)) (k (1:Int)) (ck ((Û i)+(Û j)) fun N=>ifb (ieq N (0:Int)) (k (1:Int)) (k (0:Int)))))) (0:Int))) (0:Int))) (0:Int)))))))))
def ň (a:Val Å) (b:Val abu) (c:Int):Option (Int):=ahC a b c some
def ahj (b:Val Å) (s:Val abu):Option (List Int) :=
  Â (aCL (fun u=>ń u.1 u.2 s) (b.2.2.1:List (Int×Int))) fun a=>Â (aCL (fun i=>Υ b s i) (anY (b.2.2.2.1:List (Val Ō)).length)) fun c =>
    Â (aCL (fun i=>ň b s i) (anY (b.2.2.2.2.1:List (Val Í)).length)) fun d=>Â (aCL (fun u=>ń u.1 u.2 s) (b.2.2.2.2.2:List (Int×Int))) fun e=>some (a++(c++(d++e)))
def aE3 (a:Val Å) (k:Int→Option ρ):Option ρ :=
  Â (Λ a.1 (0:Int) (1000000:Int)) fun d=>ifb (!d) (k (1:Int)) (ifb (igt (Û a.2.1) (12:Int)) (k (2:Int)) (ifb (igt (Û a.2.2.1) (40:Int)) (k (2:Int)) (ifb (igt (Û a.2.2.2.1) (12:Int)) (k (2:Int)) (ifb (igt (Û a.2.2.2.2.1) (40:Int)) (k (2:Int)) (ifb (igt (Û a.2.2.2.2.2) (10:Int)) (k (2:Int)) (Â (ź a) fun b=>ifb (ine b (0:Int)) (k b) (Â (ι a) fun e=>aNH (ahj a e) (fun f=>k f) (Â (ai8 a) fun c=>ifb (igt (Û c) (59:Int)) (k (2:Int)) (ck ((2:Int)*(Û a.2.1)) fun g=>ck ((Û c)-(Û a.2.1)) fun h=>ck ((2:Int)*h) fun i=>ck (g+i) fun j=>ck ((2:Int)*(Û a.2.2.2.2.1)) fun l=>ck (j+l) fun m=>ifb (igt m (300:Int)) (k (2:Int)) (k (0:Int)))))))))))
def ā (a:Val Å):Option (Int):=aE3 a some
end Go.Proofs.ZzM
end

noncomputable section
variable {ρ:Type}
set_option maxRecDepth 100000
namespace Go.Proofs.ZzM
open Go Go.Am
def axt (a:Val Í) (k:Bool→Option ρ):Option ρ :=
  ifb (ile (Û a.2.2.1) (10:Int)) (k (ile (Û a.2.2.2.1) (10:Int))) (k false)
def aqo (a:Val Í):Option (Bool):=axt a some
def al0 (b:Val eW) (a:Int) (d:Int→Option ρ) (e:Bool→Option ρ) (c:Unit→Option ρ):Option ρ :=
  ifb (ilt a (Û b)) (ifb (ilt a (50:Int)) (ă b a fun f=>Â (aqo f) fun g=>ifb (!g) (e false) (ck (a+(1:Int)) fun h=>d h)) (c ())) (c ())
def aKj (a:Val Å) (k:Bool→Option ρ):Option ρ :=
  Ì (fun(b:Int) c=>al0 a.2.2.2.2.1 b (fun d=>c d) (fun e=>k e) (fun _=>ifb (ile (Û a.2.1) (14:Int)) (ifb (ile (Û a.2.2.1) (45:Int)) (ifb (ile (Û a.2.2.2.1) (14:Int)) (ifb (ile (Û a.2.2.2.2.1) (42:Int)) (k (ile (Û a.2.2.2.2.2) (12:Int))) (k false)) (k false)) (k false)) (k false))) (0:Int)
def aBX (a:Val Å):Option (Bool):=aKj a some
def Ī (c:Val eI) (d:Int) (e:Int) (f:Int) (a:Int) (g:Int→Option ρ) (h:Int→Option ρ) (i:Unit→Option ρ):Option ρ :=
  ifb (ilt a d) (ă c a fun b=>ifb ((Ă e b.1)&&((Ă f b.2)&&true)) (h a) (ck (a+(1:Int)) fun j=>g j)) (i ())
def Ŷ (a:Val eI) (b:Val Ã) (k:Int→Option ρ):Option ρ :=
  Ì (fun(c:Int) d=>Ī a (Û a) b.1 b.2 c (fun e=>d e) (fun f=>k f) (fun _=>k (-1:Int))) (0:Int)
def Ā (a:Val eI) (b:Val Ã):Option (Int):=Ŷ a b some
def aE2 (a:Val Å) (d:Val Ã) (k:Val Ã→Option ρ):Option ρ :=
  Â (ā a) fun b=>ifb (ine b (0:Int)) (k ((0:Int),b)) (Â (ai8 a) fun e=>Â (Ā e d) fun c=>ifb (ilt c (0:Int)) (k ((0:Int),(5:Int))) (ck (c+(1:Int)) fun f=>k (f,(0:Int))))
def Ũ (a:Val Å) (b:Val Ã):Option (Val Ã):=aE2 a b some
def asZ (a:Val aby) (b:Val Ã) (k:Int→Option ρ):Option ρ :=
  Â (Ũ a.1 b) fun c=>k c.1
def θ (a:Val aby) (b:Val Ã):Option (Int):=asZ a b some
def adk (c:Val wi) (d:Int) (b:Int) (a:Int) (e:Int→Int→Option ρ) (f:Int→Option ρ):Option ρ :=
  ifb (ilt a d) (ă c a fun g=>ck (b+(aMt g.2.2 (0:Int))) fun h=>ck (a+(1:Int)) fun i=>e h i) (f b)
def Ś (f:Int) (d:Val l5) (a:Int) (b:Val abA) (c:Val l5) (e:Int→Val abA→Val l5→Option ρ) (g:Val abL→Option ρ):Option ρ :=
  ifb (ilt a f) (ï ((ile (0:Int) a)&&(ilt a (Đ d))) (Ň d (Int.toNat a) fun h=>ifb (ine h (1152921504606846976:Int)) (ï (ì ((List.length c)+(List.length ([a])))) (ï ((ile (0:Int) a)&&(ilt a (Đ b))) (Ň b (Int.toNat a) fun k=>ck (a+(1:Int)) fun i=>e i (List.set b (Int.toNat a) true) (c++([a]))))) (ck (a+(1:Int)) fun j=>e j b c))) (g (b,c))
def aed (m:Val abq) (j:Int) (d:Int) (n:Val wi) (o:Int) (f:Int) (b:Val l5) (c:Val abA) (e:Val l5) (g:Int→Val l5→Val abA→Val l5→Option ρ) (l:(Val (.pair .bool ab6))→Option ρ) (p:Val ab6→Option ρ):Option ρ :=
  ifb (ilt f o) (ă n f fun a=>ifb (ine a.1 d) (ck (f+(1:Int)) fun q=>g q b c e) (aNc (k:=tI) (v:=.bool) f m (fun r=>ifb r (ck (f+(1:Int)) fun s=>g s b c e) (ï ((ile (0:Int) d)&&(ilt d (Đ b))) (Ň b (Int.toNat d) fun t=>ck (t+a.2.2) fun u=>ï ((ile (0:Int) a.2.1)&&(ilt a.2.1 (Đ b))) (Ň b (Int.toNat a.2.1) fun w=>ifb (ige u w) (ck (f+(1:Int)) fun x=>g x b c e) (ï ((ile (0:Int) d)&&(ilt d (Đ b))) (Ň b (Int.toNat d) fun y=>ck (y+a.2.2) fun h=>ï ((ile (0:Int) a.2.1)&&(ilt a.2.1 (Đ b))) (Ň b (Int.toNat a.2.1) fun M=>ï ((ile (0:Int) a.2.1)&&(ilt a.2.1 (Đ (List.set b (Int.toNat a.2.1) h)))) (Ň (List.set b (Int.toNat a.2.1) h) (Int.toNat a.2.1) fun z=>ifb (ilt z j) (l (false,(List.set b (Int.toNat a.2.1) h),c,e)) (ï ((ile (0:Int) a.2.1)&&(ilt a.2.1 (Đ c))) (Ň c (Int.toNat a.2.1) fun A=>ifb (!A) (ï (ì ((List.length e)+(List.length ([a.2.1])))) (ï ((ile (0:Int) a.2.1)&&(ilt a.2.1 (Đ c))) (Ň c (Int.toNat a.2.1) fun N=>ck (f+(1:Int)) fun B=>g B (List.set b (Int.toNat a.2.1) h) (List.set c (Int.toNat a.2.1) true) (e++([a.2.1]))))) (ck (f+(1:Int)) fun C=>g C (List.set b (Int.toNat a.2.1) h) c e))))))))))) (ï ((ile (0:Int) d)&&(ilt d (Đ b))) (Ň b (Int.toNat d) fun D=>ck (D+a.2.2) fun E=>ï ((ile (0:Int) a.2.1)&&(ilt a.2.1 (Đ b))) (Ň b (Int.toNat a.2.1) fun F=>ifb (ige E F) (ck (f+(1:Int)) fun G=>g G b c e) (ï ((ile (0:Int) d)&&(ilt d (Đ b))) (Ň b (Int.toNat d) fun H=>ck (H+a.2.2) fun i=>ï ((ile (0:Int) a.2.1)&&(ilt a.2.1 (Đ b))) (Ň b (Int.toNat a.2.1) fun O=>ï ((ile (0:Int) a.2.1)&&(ilt a.2.1 (Đ (List.set b (Int.toNat a.2.1) i)))) (Ň (List.set b (Int.toNat a.2.1) i) (Int.toNat a.2.1) fun I=>ifb (ilt I j) (l (false,(List.set b (Int.toNat a.2.1) i),c,e)) (ï ((ile (0:Int) a.2.1)&&(ilt a.2.1 (Đ c))) (Ň c (Int.toNat a.2.1) fun J=>ifb (!J) (ï (ì ((List.length e)+(List.length ([a.2.1])))) (ï ((ile (0:Int) a.2.1)&&(ilt a.2.1 (Đ c))) (Ň c (Int.toNat a.2.1) fun P=>ck (f+(1:Int)) fun K=>g K (List.set b (Int.toNat a.2.1) i) (List.set c (Int.toNat a.2.1) true) (e++([a.2.1]))))) (ck (f+(1:Int)) fun L=>g L (List.set b (Int.toNat a.2.1) i) c e)))))))))))) (p (b,c,e))
def į (l:Val abq) (m:Int) (n:Int) (k:Val wi) (h:Val l5) (d:Val abA) (b:Val l5) (c:Val l5) (o:Val l5→Val abA→Val l5→Val l5→Option ρ) (i:(Val (.pair .bool abM))→Option ρ):Option ρ :=
  ifb (ieq (Û c) (0:Int)) (i (true,h,d,b,c)) (ï (ilt (0:Int) (Đ c)) (Ň c 0 fun a=>ï (ile (1:Int) (Đ c)) (ï (decide (1+(List.length c-1)=List.length c)) (ï ((ile (0:Int) a)&&(ilt a (Đ d))) (Ň d (Int.toNat a) fun x=>ï ((ile (0:Int) a)&&(ilt a (Đ b))) (Ň b (Int.toNat a) fun p=>ck (p+(1:Int)) fun e=>ï ((ile (0:Int) a)&&(ilt a (Đ b))) (Ň b (Int.toNat a) fun y=>ï ((ile (0:Int) a)&&(ilt a (Đ (List.set b (Int.toNat a) e)))) (Ň (List.set b (Int.toNat a) e) (Int.toNat a) fun q=>ck (n+(1:Int)) fun r=>ifb (igt q r) (i (false,h,(List.set d (Int.toNat a) false),(List.set b (Int.toNat a) e),(List.drop 1 c))) (Ì (fun(f:(Val (.pair tI ab6))) s=>aed l m a k (Û k) f.1 f.2.1 f.2.2.1 f.2.2.2 (fun t u v w=>s (t,u,v,w)) (fun g=>i (g.1,g.2.1,g.2.2.1,(List.set b (Int.toNat a) e),g.2.2.2)) (fun j=>o j.1 j.2.1 (List.set b (Int.toNat a) e) j.2.2)) ((0:Int),h,(List.set d (Int.toNat a) false),(List.drop 1 c)))))))))))
def aec (c:Int) (d:Int) (a:Int) (b:Val l5) (e:Int→Val l5→Option ρ) (f:Val l5→Option ρ):Option ρ :=
  ifb (ilt a d) (ï ((ile (0:Int) a)&&(ilt a (Đ b))) (Ň b (Int.toNat a) fun g=>ck (g-c) fun h=>ï ((ile (0:Int) a)&&(ilt a (Đ b))) (Ň b (Int.toNat a) fun j=>ck (a+(1:Int)) fun i=>e i (List.set b (Int.toNat a) h)))) (f b)
def ao4 (a:Val Ð) (h:Val abq) (k:(Val (.pair l5 .bool))→Option ρ):Option ρ :=
  ï ((ile (0:Int) a.1)&&(ì (Int.toNat a.1))) (ï ((ile (0:Int) a.1)&&(ì (Int.toNat a.1))) (ï ((ile (0:Int) a.1)&&(ì (Int.toNat a.1))) (Ì (fun(e:Val Ã) i=>adk a.2 (Û a.2) e.1 e.2 (fun j l=>i (j,l)) (fun m=>Ì (fun(d:(Val (.pair tI abL))) n=>Ś a.1 (List.replicate (Int.toNat a.1) (0:Int)) d.1 d.2.1 d.2.2 (fun o p q=>n (o,p,q)) (fun f=>Ì (fun(c:Val abM) r=>į h m a.1 a.2 c.1 c.2.1 c.2.2.1 c.2.2.2 (fun s t u v=>r (s,t,u,v)) (fun b=>ifb (!b.1) (k ([],false)) (ï (ilt (0:Int) (Đ b.2.1)) (Ň b.2.1 0 fun w=>Ì (fun(g:Val abv) x=>aec w (Û b.2.1) g.1 g.2 (fun y z=>x (y,z)) (fun A=>k (A,true))) ((0:Int),b.2.1))))) ((List.replicate (Int.toNat a.1) (0:Int)),f.1,(List.replicate (Int.toNat a.1) (0:Int)),f.2))) ((0:Int),(List.replicate (Int.toNat a.1) false),[]))) ((0:Int),(0:Int)))))
def afq (a:Val Ð) (b:Val abq):Option ((Val (.pair l5 .bool))):=ao4 a b some
def aLw (b:Val Ð) (a:Int) (k:Bool→Option ρ):Option ρ :=
  ifb (ige a (0:Int)) (k (ilt a b.1)) (k false)
def aj9 (a:Val Ð) (b:Int):Option (Bool):=aLw a b some
def ajS (f:Val wi) (g:Int) (d:Int) (e:Val wi) (a:Int) (h:Int→Option ρ) (c:Val Ã→Option ρ) (i:Unit→Option ρ):Option ρ :=
  ifb (ilt a g) (ă f a fun b=>Â (aj9 (d,e) b.1) fun j=>ifb (!j) (c ((1:Int),a)) (Â (aj9 (d,e) b.2.1) fun k=>ifb (!k) (c ((1:Int),a)) (ifb (ieq b.1 b.2.1) (c ((1:Int),a)) (ifb (ilt b.2.2 (-4503599627370496:Int)) (c ((1:Int),a)) (ifb (igt b.2.2 (4503599627370496:Int)) (c ((1:Int),a)) (ck (a+(1:Int)) fun l=>h l)))))) (i ())
def aEp (a:Val Ð) (k:Val Ã→Option ρ):Option ρ :=
  ifb (ilt a.1 (1:Int)) (k ((1:Int),(-1:Int))) (ifb (igt a.1 (60:Int)) (k ((1:Int),(-1:Int))) (ifb (igt (Û a.2) (300:Int)) (k ((2:Int),(-1:Int))) (Ì (fun(c:Int) d=>ajS a.2 (Û a.2) a.1 a.2 c (fun e=>d e) (fun b=>k (b.1,b.2)) (fun _=>k ((0:Int),(-1:Int)))) (0:Int))))
def ahn (a:Val Ð):Option (Val Ã):=aEp a some
def ajO (b:Val l5) (c:Int) (d:Int) (e:Val wi) (a:Int) (f:Int→Option ρ) (g:Int→Option ρ) (h:Unit→Option ρ):Option ρ :=
  ifb (ilt a c) (ă b a fun i=>Â (aj9 (d,e) i) fun j=>ifb (!j) (g (1:Int)) (ck (a+(1:Int)) fun k=>f k)) (h ())
def aEe (a:Val Ð) (b:Val l5) (k:Int→Option ρ):Option ρ :=
  Â (ahn a) fun c=>ifb (ine c.1 (0:Int)) (k c.1) (Ì (fun(d:Int) e=>ajO b (Û b) a.1 a.2 d (fun f=>e f) (fun g=>k g) (fun _=>Â (afq a ([])) fun h=>ifb (!h.2) (k (9:Int)) (k (0:Int)))) (0:Int))
def apH (a:Val Ð) (b:Val l5):Option (Int):=aEe a b some
def ah1 (c:Int) (a:Int) (b:Val l5) (d:Int→Val l5→Option ρ) (e:Val l5→Option ρ):Option ρ :=
  ifb (ilt a c) (ï ((ile (0:Int) a)&&(ilt a (Đ b))) (Ň b (Int.toNat a) fun g=>ck (a+(1:Int)) fun f=>d f (List.set b (Int.toNat a) (1152921504606846976:Int)))) (e b)
def amx (c:Val wi) (d:Int) (b:Int) (a:Int) (e:Int→Int→Option ρ) (f:Int→Option ρ):Option ρ :=
  ifb (ilt a d) (ă c a fun g=>ck (b+(aMt g.2.2 (0:Int))) fun h=>ck (a+(1:Int)) fun i=>e h i) (f b)
def amw (f:Int) (d:Val l5) (a:Int) (b:Val abA) (c:Val l5) (e:Int→Val abA→Val l5→Option ρ) (g:Val abL→Option ρ):Option ρ :=
  ifb (ilt a f) (ï ((ile (0:Int) a)&&(ilt a (Đ d))) (Ň d (Int.toNat a) fun h=>ifb (ine h (1152921504606846976:Int)) (ï (ì ((List.length c)+(List.length ([a])))) (ï ((ile (0:Int) a)&&(ilt a (Đ b))) (Ň b (Int.toNat a) fun k=>ck (a+(1:Int)) fun i=>e i (List.set b (Int.toNat a) true) (c++([a]))))) (ck (a+(1:Int)) fun j=>e j b c))) (g (b,c))
def avA (m:Val abq) (j:Int) (d:Int) (n:Val wi) (o:Int) (f:Int) (b:Val l5) (c:Val abA) (e:Val l5) (g:Int→Val l5→Val abA→Val l5→Option ρ) (l:(Val (.pair .bool ab6))→Option ρ) (p:Val ab6→Option ρ):Option ρ :=
  ifb (ilt f o) (ă n f fun a=>ifb (ine a.1 d) (ck (f+(1:Int)) fun q=>g q b c e) (aNc (k:=tI) (v:=.bool) f m (fun r=>ifb r (ck (f+(1:Int)) fun s=>g s b c e) (ï ((ile (0:Int) d)&&(ilt d (Đ b))) (Ň b (Int.toNat d) fun t=>ck (t+a.2.2) fun u=>ï ((ile (0:Int) a.2.1)&&(ilt a.2.1 (Đ b))) (Ň b (Int.toNat a.2.1) fun w=>ifb (ige u w) (ck (f+(1:Int)) fun x=>g x b c e) (ï ((ile (0:Int) d)&&(ilt d (Đ b))) (Ň b (Int.toNat d) fun y=>ck (y+a.2.2) fun h=>ï ((ile (0:Int) a.2.1)&&(ilt a.2.1 (Đ b))) (Ň b (Int.toNat a.2.1) fun M=>ï ((ile (0:Int) a.2.1)&&(ilt a.2.1 (Đ (List.set b (Int.toNat a.2.1) h)))) (Ň (List.set b (Int.toNat a.2.1) h) (Int.toNat a.2.1) fun z=>ifb (ilt z j) (l (false,(List.set b (Int.toNat a.2.1) h),c,e)) (ï ((ile (0:Int) a.2.1)&&(ilt a.2.1 (Đ c))) (Ň c (Int.toNat a.2.1) fun A=>ifb (!A) (ï (ì ((List.length e)+(List.length ([a.2.1])))) (ï ((ile (0:Int) a.2.1)&&(ilt a.2.1 (Đ c))) (Ň c (Int.toNat a.2.1) fun N=>ck (f+(1:Int)) fun B=>g B (List.set b (Int.toNat a.2.1) h) (List.set c (Int.toNat a.2.1) true) (e++([a.2.1]))))) (ck (f+(1:Int)) fun C=>g C (List.set b (Int.toNat a.2.1) h) c e))))))))))) (ï ((ile (0:Int) d)&&(ilt d (Đ b))) (Ň b (Int.toNat d) fun D=>ck (D+a.2.2) fun E=>ï ((ile (0:Int) a.2.1)&&(ilt a.2.1 (Đ b))) (Ň b (Int.toNat a.2.1) fun F=>ifb (ige E F) (ck (f+(1:Int)) fun G=>g G b c e) (ï ((ile (0:Int) d)&&(ilt d (Đ b))) (Ň b (Int.toNat d) fun H=>ck (H+a.2.2) fun i=>ï ((ile (0:Int) a.2.1)&&(ilt a.2.1 (Đ b))) (Ň b (Int.toNat a.2.1) fun O=>ï ((ile (0:Int) a.2.1)&&(ilt a.2.1 (Đ (List.set b (Int.toNat a.2.1) i)))) (Ň (List.set b (Int.toNat a.2.1) i) (Int.toNat a.2.1) fun I=>ifb (ilt I j) (l (false,(List.set b (Int.toNat a.2.1) i),c,e)) (ï ((ile (0:Int) a.2.1)&&(ilt a.2.1 (Đ c))) (Ň c (Int.toNat a.2.1) fun J=>ifb (!J) (ï (ì ((List.length e)+(List.length ([a.2.1])))) (ï ((ile (0:Int) a.2.1)&&(ilt a.2.1 (Đ c))) (Ň c (Int.toNat a.2.1) fun P=>ck (f+(1:Int)) fun K=>g K (List.set b (Int.toNat a.2.1) i) (List.set c (Int.toNat a.2.1) true) (e++([a.2.1]))))) (ck (f+(1:Int)) fun L=>g L (List.set b (Int.toNat a.2.1) i) c e)))))))))))) (p (b,c,e))
def amv (l:Val abq) (m:Int) (n:Int) (k:Val wi) (h:Val l5) (d:Val abA) (b:Val l5) (c:Val l5) (o:Val l5→Val abA→Val l5→Val l5→Option ρ) (i:(Val (.pair .bool abM))→Option ρ):Option ρ :=
  ifb (ieq (Û c) (0:Int)) (i (true,h,d,b,c)) (ï (ilt (0:Int) (Đ c)) (Ň c 0 fun a=>ï (ile (1:Int) (Đ c)) (ï (decide (1+(List.length c-1)=List.length c)) (ï ((ile (0:Int) a)&&(ilt a (Đ d))) (Ň d (Int.toNat a) fun x=>ï ((ile (0:Int) a)&&(ilt a (Đ b))) (Ň b (Int.toNat a) fun p=>ck (p+(1:Int)) fun e=>ï ((ile (0:Int) a)&&(ilt a (Đ b))) (Ň b (Int.toNat a) fun y=>ï ((ile (0:Int) a)&&(ilt a (Đ (List.set b (Int.toNat a) e)))) (Ň (List.set b (Int.toNat a) e) (Int.toNat a) fun q=>ck (n+(1:Int)) fun r=>ifb (igt q r) (i (false,h,(List.set d (Int.toNat a) false),(List.set b (Int.toNat a) e),(List.drop 1 c))) (Ì (fun(f:(Val (.pair tI ab6))) s=>avA l m a k (Û k) f.1 f.2.1 f.2.2.1 f.2.2.2 (fun t u v w=>s (t,u,v,w)) (fun g=>i (g.1,g.2.1,g.2.2.1,(List.set b (Int.toNat a) e),g.2.2.2)) (fun j=>o j.1 j.2.1 (List.set b (Int.toNat a) e) j.2.2)) ((0:Int),h,(List.set d (Int.toNat a) false),(List.drop 1 c)))))))))))
def ayf (a:Val Ð) (i:Val abq) (b:Int) (k:Val l5→Option ρ):Option ρ :=
  ï ((ile (0:Int) a.1)&&(ì (Int.toNat a.1))) (Ì (fun(f:Val abv) j=>ah1 (Û (List.replicate (Int.toNat a.1) (0:Int))) f.1 f.2 (fun l m=>j (l,m)) (fun c=>ï ((ile (0:Int) b)&&(ilt b (Đ c))) (Ň c (Int.toNat b) fun B=>ï ((ile (0:Int) a.1)&&(ì (Int.toNat a.1))) (ï ((ile (0:Int) a.1)&&(ì (Int.toNat a.1))) (Ì (fun(g:Val Ã) n=>amx a.2 (Û a.2) g.1 g.2 (fun o p=>n (o,p)) (fun q=>Ì (fun(e:(Val (.pair tI abL))) r=>amw a.1 (List.set c (Int.toNat b) (0:Int)) e.1 e.2.1 e.2.2 (fun s t u=>r (s,t,u)) (fun h=>Ì (fun(d:Val abM) v=>amv i q a.1 a.2 d.1 d.2.1 d.2.2.1 d.2.2.2 (fun w x y z=>v (w,x,y,z)) (fun A=>k A.2.1)) ((List.set c (Int.toNat b) (0:Int)),h.1,(List.replicate (Int.toNat a.1) (0:Int)),h.2))) ((0:Int),(List.replicate (Int.toNat a.1) false),[]))) ((0:Int),(0:Int))))))) ((0:Int),(List.replicate (Int.toNat a.1) (0:Int))))
def aiq (a:Val Ð) (b:Val abq) (c:Int):Option ((Val l5)):=ayf a b c some
def aEv (a:Val Ð) (b:Int) (c:Int) (k:Val Ã→Option ρ):Option ρ :=
  Â (apH a ([b,c])) fun d=>ifb (ine d (0:Int)) (k ((0:Int),d)) (Â (aiq a ([]) b) fun f=>ă f c fun e=>ifb (ieq e (1152921504606846976:Int)) (k ((0:Int),(5:Int))) (k (e,(0:Int))))
def ai6 (a:Val Ð) (b:Int) (c:Int):Option (Val Ã):=aEv a b c some
def akm (a:Val aby) (b:Int) (c:Int) (k:Int→Option ρ):Option ρ :=
  Â (ai6 a.2 c b) fun d=>k d.1
def Ċ (a:Val aby) (b:Int) (c:Int):Option (Int):=akm a b c some
def akl (a:Val aby) (b:Val Ã) (k:Int→Option ρ):Option ρ :=
  Â (θ a b) fun c=>Â (Ċ a (0:Int) c) fun d=>ck (0-d) fun e=>k e
def η (a:Val aby) (b:Val Ã):Option (Int):=akl a b some
def agz (a:Val aby) (b:Val Ã) (k:Int→Option ρ):Option ρ :=
  Â (θ a b) fun c=>Â (Ċ a c (0:Int)) fun d=>k d
def ado (a:Val aby) (b:Val Ã):Option (Int):=agz a b some
def agy (a:Val aby) (b:Val Ã) (k:Val Ã→Option ρ):Option ρ :=
  Â (η a b) fun c=>Â (ado a b) fun d=>k (c,d)
def Ű (a:Val aby) (b:Val Ã):Option (Val Ã):=agy a b some
def apg (b:Val abV) (a:Val l5) (c:Int) (k:Int→Option ρ):Option ρ :=
  ifb (ieq (Û a) (0:Int)) (k (0:Int)) (ă a (0:Int) fun d=>Â (Ā b.2.1 (d,c)) fun e=>ck (e+(1:Int)) fun f=>k f)
def adw (a:Val abV) (b:Val l5) (c:Int):Option (Int):=apg a b c some
def ahB (b:Val abu) (a:Val l5) (k:Val Ã→Option ρ):Option ρ :=
  ifb (ieq (Û a) (0:Int)) (k ((0:Int),(1:Int))) (ă a (0:Int) fun c=>aNc (k:=tI) (v:=Ó) c b (fun d=>k d.2.2.2.2.1) (k ((0:Int),(0:Int))))
def adV (a:Val abu) (b:Val l5):Option (Val Ã):=ahB a b some
def ajX (b:Val eI) (c:Int) (a:Int) (d:Int→Option ρ) (e:Int→Option ρ) (f:Unit→Option ρ):Option ρ :=
  ifb (ilt a c) (ă b a fun g=>Â (alJ g) fun h=>ifb (!h) (e (1:Int)) (ck (a+(1:Int)) fun i=>d i)) (f ())
def aEx (a:Val eI) (k:Int→Option ρ):Option ρ :=
  Ì (fun(b:Int) c=>ajX a (Û a) b (fun d=>c d) (fun e=>k e) (fun _=>k (0:Int))) (0:Int)
def aeQ (a:Val eI):Option (Int):=aEx a some
def atd (d:Int) (e:Int) (k:Val ļ→Option ρ):Option ρ :=
  Â (aka d) fun b=>Â (aka e) fun c=>Â (aFu b c) fun a=>ifb (Ă a 0) (none) (ifb (Ă a 0) (none) (ifb (igt (IntKind.wrap .u64 (Int.tdiv b a)) (2147483647:Int)) (k (((0:Int),(0:Int)),(3:Int))) (ifb (igt (IntKind.wrap .u64 (Int.tdiv c a)) (2147483647:Int)) (k (((0:Int),(0:Int)),(3:Int))) (ifb (!((ilt d (0:Int))==(ilt e (0:Int)))) (ck (0-(IntKind.wrap .i64 (IntKind.wrap .u64 (Int.tdiv b a)))) fun f=>k ((f,(IntKind.wrap .i64 (IntKind.wrap .u64 (Int.tdiv c a)))),(0:Int))) (k (((IntKind.wrap .i64 (IntKind.wrap .u64 (Int.tdiv b a))),(IntKind.wrap .i64 (IntKind.wrap .u64 (Int.tdiv c a)))),(0:Int)))))))
def ai7 (a:Int) (b:Int):Option (Val ļ):=atd a b some
def aRX (a:Val Ã) (b:Val Ã) (k:Val ļ→Option ρ):Option ρ :=
  Â (aeQ ([a,b])) fun c=>ifb (ine c (0:Int)) (k (((0:Int),(0:Int)),c)) (ck (a.1*b.2) fun e=>ck (b.1*a.2) fun f=>ck (e-f) fun g=>ck (a.2*b.2) fun h=>Â (ai7 g h) fun d=>k (d.1,d.2))
def aMD (a:Val Ã) (b:Val Ã):Option (Val ļ):=aRX a b some
def amC (a:Val Ã) (b:Val Ã) (k:Val Ã→Option ρ):Option ρ :=
  Â (aMD a b) fun c=>k c.1
def am6 (a:Val Ã) (b:Val Ã):Option (Val Ã):=amC a b some
def aRV (a:Val Ã) (b:Val Ã) (k:Int→Option ρ):Option ρ :=
  ck (a.1*b.2) fun c=>ck (b.1*a.2) fun d=>ifb ((Ă a.1 b.1)&&((Ă a.2 b.2)&&true)) (k (0:Int)) (ifb (ilt c d) (k (-1:Int)) (ifb (igt c d) (k (1:Int)) (k (0:Int))))
def aFv (a:Val Ã) (b:Val Ã):Option (Int):=aRV a b some
def akx (a:Val í) (k:Bool→Option ρ):Option ρ :=
  Â (aeQ ([a.1,a.2])) fun b=>ifb (ieq b (0:Int)) (Â (aFv a.1 a.2) fun c=>k (ile c (0:Int))) (k false)
def akF (a:Val í):Option (Bool):=akx a some
def aRZ (a:Val Ã) (b:Val Ã) (k:Val ļ→Option ρ):Option ρ :=
  Â (aeQ ([a,b])) fun c=>ifb (ine c (0:Int)) (k (((0:Int),(0:Int)),c)) (ck (a.1*b.1) fun e=>ck (a.2*b.2) fun f=>Â (ai7 e f) fun d=>k (d.1,d.2))
def aFx (a:Val Ã) (b:Val Ã):Option (Val ļ):=aRZ a b some
def aEG (c:Val í) (d:Val Ã) (k:Val akL→Option ρ):Option ρ :=
  Â (akF c) fun e=>ifb (!e) (k ((((0:Int),(0:Int)),(0:Int),(0:Int)),(1:Int))) (Â (alJ d) fun f=>ifb (!f) (k ((((0:Int),(0:Int)),(0:Int),(0:Int)),(1:Int))) (Â (aFx d c.1) fun a=>ifb (ine a.2 (0:Int)) (k ((((0:Int),(0:Int)),(0:Int),(0:Int)),a.2)) (Â (aFx d c.2) fun b=>ifb (ine b.2 (0:Int)) (k ((((0:Int),(0:Int)),(0:Int),(0:Int)),b.2)) (Â (aFv a.1 b.1) fun g=>ifb (igt g (0:Int)) (k ((b.1,a.1),(0:Int))) (k ((a.1,b.1),(0:Int)))))))
def aFw (a:Val í) (b:Val Ã):Option (Val akL):=aEG a b some
def amB (b:Val Ã) (a:Val Ã) (k:Val í→Option ρ):Option ρ :=
  Â (aFw ((a.1,(1:Int)),a.2,(1:Int)) b) fun c=>k c.1
def ah9 (a:Val Ã) (b:Val Ã):Option (Val í):=amB a b some
def ayr (c:Val Å) (a:Val Í) (k:Val í→Option ρ):Option ρ :=
  Â (ι c) fun b=>Â (Ŭ a.2.2.1 a.2.2.2.1) fun d=>Â (adV b d) fun e=>Â (Ŭ a.2.2.2.1 a.2.2.1) fun f=>Â (adV b f) fun g=>Â (am6 e g) fun h=>Â (ah9 h a.2.2.2.2.2.2) fun i=>k i
def air (a:Val Å) (b:Val Í):Option (Val í):=ayr a b some
def aEZ (a:Val Å) (b:Val Í) (k:Val Ã→Option ρ):Option ρ :=
  ck ((Û b.2.2.1)-(1:Int)) fun c=>ck ((Û b.2.2.2.1)-(1:Int)) fun d=>ck ((aGd (0:Int) c)*a.1.1) fun e=>ck ((aGd (0:Int) d)*a.1.2) fun f=>ck (e-f) fun g=>ck ((aGd (0:Int) c)*a.1.2) fun h=>ck ((aGd (0:Int) d)*a.1.1) fun i=>ck (h-i) fun j=>k (g,j)
def alL (a:Val Å) (b:Val Í):Option (Val Ã):=aEZ a b some
def avN (b:Int) (a:Int) (k:Int→Option ρ):Option ρ :=
  ifb (Ă a 0) (none) (ck (Int.tdiv b a) fun c=>ifb (Ă a 0) (none) (ifb (ilt (Int.tmod b a) (0:Int)) (ck (c-(1:Int)) fun d=>k d) (k c)))
def alI (a:Int) (b:Int):Option (Int):=avN a b some
def aLM (a:Val Ã) (k:Val Ã→Option ρ):Option ρ :=
  Â (aeQ ([a])) fun b=>ifb (ine b (0:Int)) (k ((0:Int),b)) (ck (0-a.1) fun c=>Â (alI c a.2) fun d=>ck (0-d) fun e=>k (e,(0:Int)))
def awI (a:Val Ã):Option (Val Ã):=aLM a some
def aEJ (a:Val Ã) (k:Val Ã→Option ρ):Option ρ :=
  Â (aeQ ([a])) fun b=>ifb (ine b (0:Int)) (k ((0:Int),b)) (Â (alI a.1 a.2) fun c=>k (c,(0:Int)))
def apK (a:Val Ã):Option (Val Ã):=aEJ a some
def aLQ (b:Val Å) (a:Val Í) (k:Val Ã→Option ρ):Option ρ :=
  Â (air b a) fun c=>Â (alL b a) fun d=>Â (apK c.2) fun e=>Â (awI c.1) fun f=>ck (a.2.2.2.2.1-a.2.2.2.2.2.1) fun g=>ck (g-d.2) fun h=>ck (h-e.1) fun i=>ck (a.2.2.2.2.1+a.2.2.2.2.2.1) fun j=>ck (j-d.1) fun l=>ck (l-f.1) fun m=>k (i,m)
def am5 (a:Val Å) (b:Val Í):Option (Val Ã):=aLQ a b some
def amI (f:Int) (g:Int) (h:Val m5) (i:Int) (j:Int) (b:Int) (a:Int) (d:Int→Int→Option ρ) (k:Int→Option ρ):Option ρ :=
  ifb (ilt a i) (ă h a fun c=>ck (g-(1:Int)) fun l=>ck ((aMt c.2.1.2 l)-(aGd c.2.1.1 f)) fun m=>ck (m+(1:Int)) fun e=>ifb (ieq c.1 j) (ifb (igt e (0:Int)) (ck (e*c.2.2) fun n=>ck (b+n) fun o=>ck (a+(1:Int)) fun p=>d o p) (ck (a+(1:Int)) fun q=>d b q)) (ck (a+(1:Int)) fun r=>d b r)) (k b)
def amH (e:Int) (f:Int) (g:Val eI) (h:Int) (i:Int) (a:Int) (b:Val l5) (d:Int→Val l5→Option ρ) (j:Val l5→Option ρ):Option ρ :=
  ifb (ilt a h) (ă g a fun c=>ifb (ieq c.1 i) (ck (f-(1:Int)) fun k=>Â (ğ c.2 e k) fun l=>ifb l (ï (ì ((List.length b)+(List.length ([c.2])))) (ck (a+(1:Int)) fun m=>d m (b++([c.2])))) (ck (a+(1:Int)) fun n=>d n b)) (ck (a+(1:Int)) fun o=>d o b)) (j b)
def aLY (a:Val Å) (b:Val Ó) (d:Int) (e:Int) (k:Int→Option ρ):Option ρ :=
  Ì (fun(f:Val Ã) h=>amI d e a.2.2.2.1 (Û a.2.2.2.1) b.1 f.1 f.2 (fun i j=>h (i,j)) (fun l=>Ì (fun(g:Val abv) m=>amH d e a.2.2.1 (Û a.2.2.1) b.1 g.1 g.2 (fun n o=>m (n,o)) (fun c=>ï (ì (List.length c)) (ï (ì (List.length (atK c))) (ck ((Û (aqC (atK c)))*b.2.2.2.2.2) fun p=>ck (l+p) fun q=>k q)))) ((0:Int),[]))) ((0:Int),(0:Int))
def aqy (a:Val Å) (b:Val Ó) (c:Int) (d:Int):Option (Int):=aLY a b c d some
def amF (b:Int) (e:Val l5) (h:Int) (j:Int) (k:Int) (l:Val f6) (m:Val eI) (n:Val m5) (o:Val eW) (p:Val eI) (q:Int) (r:Int) (s:Int) (t:Int) (u:Int) (v:Int) (w:Int) (x:Int) (a:Int) (f:Val wi) (g:Val eI) (y:Int→Val wi→Val eI→Option ρ) (z:Val ank→Option ρ):Option ρ :=
  ifb (ilt a (Û e)) (ck (h+a) fun A=>ck (A-(1:Int)) fun c=>ck (h+a) fun d=>ck (a-(1:Int)) fun B=>ă e B fun C=>ă e a fun D=>Â (aqy ((j,k),l,m,n,o,p) (q,r,s,(t,u),(v,w),x) C D) fun E=>ck (0-E) fun F=>ck (0-F) fun i=>ï (ì ((List.length f)+(List.length ([(c,d,(0:Int)),(d,c,i)])))) (ï (ì ((List.length g)+(List.length ([((2:Int),b),((2:Int),b)])))) (ck (a+(1:Int)) fun G=>y G (f++([(c,d,(0:Int)),(d,c,i)])) (g++([((2:Int),b),((2:Int),b)]))))) (z (f,g))
def amG (q:Val f6) (r:Int) (f:Int) (g:Int) (h:Val f6) (i:Val eI) (j:Val m5) (k:Val eW) (l:Val eI) (s:Val eI) (t:Int) (b:Int) (d:Val wi) (e:Val eI) (u:Int→Val wi→Val eI→Option ρ) (v:Val ank→Option ρ):Option ρ :=
  ifb (ilt b r) (ă q b fun a=>Â (aia ((f,g),h,i,j,k,l) a) fun w=>Â (adw (((f,g),h,i,j,k,l),s,(t,d),e) ([a.1]) a.2.1) fun c=>ck (a.2.2.1+a.2.2.2.1.1) fun x=>ck (a.2.2.1+a.2.2.2.1.2) fun n=>ck (0-x) fun o=>ï (ì ((List.length d)+(List.length ([((0:Int),c,n),(c,(0:Int),o)])))) (ï (ì ((List.length e)+(List.length ([((1:Int),b),((1:Int),b)])))) (Ì (fun(m:Val abO) y=>amF b w c f g h i j k l a.1 a.2.1 a.2.2.1 a.2.2.2.1.1 a.2.2.2.1.2 a.2.2.2.2.1.1 a.2.2.2.2.1.2 a.2.2.2.2.2 m.1 m.2.1 m.2.2 (fun z A B=>y (z,A,B)) (fun p=>ck (b+(1:Int)) fun C=>u C p.1 p.2)) ((1:Int),(d++([((0:Int),c,n),(c,(0:Int),o)])),(e++([((1:Int),b),((1:Int),b)])))))) (v (d,e))
def amE (r:Val eW) (s:Int) (g:Int) (h:Int) (i:Val f6) (j:Val eI) (k:Val m5) (l:Val eW) (m:Val eI) (o:Val eI) (p:Int) (a:Int) (c:Val wi) (d:Val eI) (t:Int→Val wi→Val eI→Option ρ) (u:Val ank→Option ρ):Option ρ :=
  ifb (ilt a s) (ă r a fun b=>Â (Ŭ b.2.2.2.1 b.2.2.1) fun v=>Â (adw (((g,h),i,j,k,l,m),o,(p,c),d) v b.2.1) fun e=>Â (Ŭ b.2.2.1 b.2.2.2.1) fun w=>Â (adw (((g,h),i,j,k,l,m),o,(p,c),d) w b.2.1) fun f=>Â (am5 ((g,h),i,j,k,l,m) b) fun n=>ck (0-n.1) fun q=>ï (ì ((List.length c)+(List.length ([(e,f,n.2),(f,e,q)])))) (ï (ì ((List.length d)+(List.length ([((3:Int),a),((3:Int),a)])))) (ck (a+(1:Int)) fun x=>t x (c++([(e,f,n.2),(f,e,q)])) (d++([((3:Int),a),((3:Int),a)]))))) (u (c,d))
def aLV (a:Val Å) (k:Val abV→Option ρ):Option ρ :=
  Â (ai8 a) fun b=>ck ((Û b)+(1:Int)) fun c=>Ì (fun(d:Val abO) h=>amG a.2.1 (Û a.2.1) a.1.1 a.1.2 a.2.1 a.2.2.1 a.2.2.2.1 a.2.2.2.2.1 a.2.2.2.2.2 b c d.1 d.2.1 d.2.2 (fun i j l=>h (i,j,l)) (fun f=>Ì (fun(e:Val abO) m=>amE a.2.2.2.2.1 (Û a.2.2.2.2.1) a.1.1 a.1.2 a.2.1 a.2.2.1 a.2.2.2.1 a.2.2.2.2.1 a.2.2.2.2.2 b c e.1 e.2.1 e.2.2 (fun n o p=>m (n,o,p)) (fun g=>k (a,b,(c,g.1),g.2))) ((0:Int),f.1,f.2))) ((0:Int),[],[])
def awK (a:Val Å):Option ((Val abV)):=aLV a some
def ayv (a:Val Å) (k:(Val (.pair Ð abT))→Option ρ):Option ρ :=
  Â (ā a) fun b=>ifb (ine b (0:Int)) (k (((0:Int),[]),[],b)) (Â (awK a) fun c=>k (c.2.2.1,c.2.2.2,(0:Int)))
def ħ (a:Val Å):Option ((Val (.pair Ð abT))):=ayv a some
def amP (f:Int) (a:Int) (c:Val eW) (g:Int→Val eW→Option ρ) (h:Val eW→Option ρ):Option ρ :=
  ifb (ilt a f) (ï ((ile (0:Int) a)&&(ilt a (Đ c))) (Ň c (Int.toNat a) fun d=>ï (ì (List.length d.2.2.1)) (ï (ì (List.length d.2.2.2.1)) (ï ((ile (0:Int) a)&&(ilt a (Đ c))) (Ň c (Int.toNat a) fun b=>ï ((ile (0:Int) a)&&(ilt a (Đ (List.set c (Int.toNat a) (b.1,b.2.1,d.2.2.1,b.2.2.2))))) (Ň (List.set c (Int.toNat a) (b.1,b.2.1,d.2.2.1,b.2.2.2)) (Int.toNat a) fun e=>ck (a+(1:Int)) fun i=>g i (List.set (List.set c (Int.toNat a) (b.1,b.2.1,d.2.2.1,b.2.2.2)) (Int.toNat a) (e.1,e.2.1,e.2.2.1,d.2.2.2.1,e.2.2.2.2)))))))) (h c)
def aMh (a:Val Å) (b:Val Ã) (k:Val abI→Option ρ):Option ρ :=
  Â (ā a) fun c=>ifb (ine c (0:Int)) (k ((((0:Int),(0:Int)),[],[],[],[],[]),c)) (ï (ì (List.length a.2.1)) (ï (ì (List.length a.2.2.1)) (ï (ì (List.length a.2.2.2.1)) (ï (ì (List.length a.2.2.2.2.2)) (ï (ì (List.length a.2.2.2.2.1)) (Ì (fun(d:(Val (.pair tI eW))) g=>amP (Û a.2.2.2.2.1) d.1 d.2 (fun h i=>g (h,i)) (fun e=>ï (ì ((List.length a.2.2.2.2.2)+(List.length ([b])))) (Â (ā (a.1,a.2.1,a.2.2.1,a.2.2.2.1,e,(a.2.2.2.2.2++([b])))) fun f=>ifb (ine f (0:Int)) (k ((((0:Int),(0:Int)),[],[],[],[],[]),f)) (k ((a.1,a.2.1,a.2.2.1,a.2.2.2.1,e,(a.2.2.2.2.2++([b]))),(0:Int)))))) ((0:Int),a.2.2.2.2.1)))))))
def aeY (a:Val Å) (b:Val Ã):Option ((Val abI)):=aMh a b some
def aku (a:Val Ð) (k:Val abW→Option ρ):Option ρ :=
  Â (ahn a) fun b=>ifb (ine b.1 (0:Int)) (k (false,b.1)) (Â (afq a ([])) fun c=>k (c.2,(0:Int)))
def Ė (a:Val Ð):Option ((Val abW)):=aku a some
def ē (m:Int) (j:Val eI) (b:Int) (c:Int) (d:Int) (e:Val f6) (f:Val eI) (g:Val m5) (h:Val eW) (i:Val eI) (k:Int→Int→Int→Val f6→Val eI→Val m5→Val eW→Val eI→Option ρ) (n:Val abD→Option ρ) (o:Val abo→Option ρ):Option ρ :=
  ifb (ilt b m) (ï ((ile (0:Int) b)&&(ilt b (Đ j))) (Ň j (Int.toNat b) fun l=>Â (Ũ ((c,d),e,f,g,h,i) l) fun p=>ifb (ieq p.2 (0:Int)) (ck (b+(1:Int)) fun q=>k q c d e f g h i) (Â (aeY ((c,d),e,f,g,h,i) l) fun a=>ifb (ine a.2 (0:Int)) (n (a.2,c,d,e,f,g,h,i)) (ck (b+(1:Int)) fun r=>k r a.1.1.1 a.1.1.2 a.1.2.1 a.1.2.2.1 a.1.2.2.2.1 a.1.2.2.2.2.1 a.1.2.2.2.2.2)))) (o (c,d,e,f,g,h,i))
def aoZ (a:Val Å) (e:Val Ã) (k:Val ļ→Option ρ):Option ρ :=
  Â (ā a) fun f=>ifb (ine f (0:Int)) (ï (ine f (0:Int)) (k (((0:Int),(0:Int)),f))) (Ì (fun(b:Val abD) h=>ē (Û ([e])) ([e]) b.1 b.2.1 b.2.2.1 b.2.2.2.1 b.2.2.2.2.1 b.2.2.2.2.2.1 b.2.2.2.2.2.2.1 b.2.2.2.2.2.2.2 (fun i j l m n o p q=>h (i,j,l,m,n,o,p,q)) (fun g=>ï (ine g.1 (0:Int)) (k (((0:Int),(0:Int)),g.1))) (fun c=>Â (ħ ((c.1,c.2.1),c.2.2)) fun d=>ifb (ine d.2.2 (0:Int)) (ï (ine d.2.2 (0:Int)) (k (((0:Int),(0:Int)),d.2.2))) (Â (Ė d.1) fun r=>ifb (!r.1) (k (((0:Int),(0:Int)),(9:Int))) (Â (Ű (((c.1,c.2.1),c.2.2),d.1) e) fun s=>k (s,(0:Int)))))) ((0:Int),a.1.1,a.1.2,a.2.1,a.2.2.1,a.2.2.2.1,a.2.2.2.2.1,a.2.2.2.2.2))
def afp (a:Val Å) (b:Val Ã):Option (Val ļ):=aoZ a b some
def akt (m:Int) (j:Val eI) (b:Int) (c:Int) (d:Int) (e:Val f6) (f:Val eI) (g:Val m5) (h:Val eW) (i:Val eI) (k:Int→Int→Int→Val f6→Val eI→Val m5→Val eW→Val eI→Option ρ) (n:Val abD→Option ρ) (o:Val abo→Option ρ):Option ρ :=
  ifb (ilt b m) (ï ((ile (0:Int) b)&&(ilt b (Đ j))) (Ň j (Int.toNat b) fun l=>Â (Ũ ((c,d),e,f,g,h,i) l) fun p=>ifb (ieq p.2 (0:Int)) (ck (b+(1:Int)) fun q=>k q c d e f g h i) (Â (aeY ((c,d),e,f,g,h,i) l) fun a=>ifb (ine a.2 (0:Int)) (n (a.2,c,d,e,f,g,h,i)) (ck (b+(1:Int)) fun r=>k r a.1.1.1 a.1.1.2 a.1.2.1 a.1.2.2.1 a.1.2.2.2.1 a.1.2.2.2.2.1 a.1.2.2.2.2.2)))) (o (c,d,e,f,g,h,i))
def as8 (b:Val Å) (e:Val Ã) (f:Val Ã) (k:Val ļ→Option ρ):Option ρ :=
  Â (ā b) fun g=>ifb (ine g (0:Int)) (ï (ine g (0:Int)) (k (((0:Int),(0:Int)),g))) (Ì (fun(c:Val abD) l=>akt (Û ([e,f])) ([e,f]) c.1 c.2.1 c.2.2.1 c.2.2.2.1 c.2.2.2.2.1 c.2.2.2.2.2.1 c.2.2.2.2.2.2.1 c.2.2.2.2.2.2.2 (fun m n o p q r s t=>l (m,n,o,p,q,r,s,t)) (fun h=>ï (ine h.1 (0:Int)) (k (((0:Int),(0:Int)),h.1))) (fun a=>Â (ħ ((a.1,a.2.1),a.2.2)) fun d=>ifb (ine d.2.2 (0:Int)) (ï (ine d.2.2 (0:Int)) (k (((0:Int),(0:Int)),d.2.2))) (Â (Ė d.1) fun u=>ifb (!u.1) (k (((0:Int),(0:Int)),(9:Int))) (Â (θ (((a.1,a.2.1),a.2.2),d.1) e) fun i=>Â (θ (((a.1,a.2.1),a.2.2),d.1) f) fun j=>Â (Ċ (((a.1,a.2.1),a.2.2),d.1) j i) fun v=>ck (0-v) fun w=>Â (Ċ (((a.1,a.2.1),a.2.2),d.1) i j) fun x=>k ((w,x),(0:Int)))))) ((0:Int),b.1.1,b.1.2,b.2.1,b.2.2.1,b.2.2.2.1,b.2.2.2.2.1,b.2.2.2.2.2))
def ai4 (a:Val Å) (b:Val Ã) (c:Val Ã):Option (Val ļ):=as8 a b c some
def asX (a:Val Ã) (b:Val Ã) (k:Int→Option ρ):Option ρ :=
  ifb (ile b.1 a.1) (ifb (ile a.2 b.2) (k (1:Int)) (ifb (ilt a.2 b.1) (k (2:Int)) (ifb (ilt b.2 a.1) (k (2:Int)) (k (3:Int))))) (ifb (ilt a.2 b.1) (k (2:Int)) (ifb (ilt b.2 a.1) (k (2:Int)) (k (3:Int))))
def ai1 (a:Val Ã) (b:Val Ã):Option (Int):=asX a b some
def aoY (m:Int) (j:Val eI) (b:Int) (c:Int) (d:Int) (e:Val f6) (f:Val eI) (g:Val m5) (h:Val eW) (i:Val eI) (k:Int→Int→Int→Val f6→Val eI→Val m5→Val eW→Val eI→Option ρ) (n:Val abD→Option ρ) (o:Val abo→Option ρ):Option ρ :=
  ifb (ilt b m) (ï ((ile (0:Int) b)&&(ilt b (Đ j))) (Ň j (Int.toNat b) fun l=>Â (Ũ ((c,d),e,f,g,h,i) l) fun p=>ifb (ieq p.2 (0:Int)) (ck (b+(1:Int)) fun q=>k q c d e f g h i) (Â (aeY ((c,d),e,f,g,h,i) l) fun a=>ifb (ine a.2 (0:Int)) (n (a.2,c,d,e,f,g,h,i)) (ck (b+(1:Int)) fun r=>k r a.1.1.1 a.1.1.2 a.1.2.1 a.1.2.2.1 a.1.2.2.2.1 a.1.2.2.2.2.1 a.1.2.2.2.2.2)))) (o (c,d,e,f,g,h,i))
def aDZ (b:Val Å) (f:Val Ã) (a:Val Ã) (k:Val Ã→Option ρ):Option ρ :=
  Â (ā b) fun g=>ifb (ine g (0:Int)) (ifb (ine g (0:Int)) (k ((0:Int),g)) (ï (igt a.1 a.2) (k ((0:Int),(1:Int))))) (Ì (fun(c:Val abD) i=>aoY (Û ([f])) ([f]) c.1 c.2.1 c.2.2.1 c.2.2.2.1 c.2.2.2.2.1 c.2.2.2.2.2.1 c.2.2.2.2.2.2.1 c.2.2.2.2.2.2.2 (fun j l m n o p q r=>i (j,l,m,n,o,p,q,r)) (fun h=>ifb (ine h.1 (0:Int)) (k ((0:Int),h.1)) (ï (igt a.1 a.2) (k ((0:Int),(1:Int))))) (fun d=>Â (ħ ((d.1,d.2.1),d.2.2)) fun e=>ifb (ine e.2.2 (0:Int)) (ifb (ine e.2.2 (0:Int)) (k ((0:Int),e.2.2)) (ï (igt a.1 a.2) (k ((0:Int),(1:Int))))) (Â (Ė e.1) fun s=>ifb (!s.1) (k ((0:Int),(9:Int))) (ifb (igt a.1 a.2) (k ((0:Int),(1:Int))) (Â (Ű (((d.1,d.2.1),d.2.2),e.1) f) fun t=>Â (ai1 t a) fun u=>k (u,(0:Int))))))) ((0:Int),b.1.1,b.1.2,b.2.1,b.2.2.1,b.2.2.2.1,b.2.2.2.2.1,b.2.2.2.2.2))
def awE (a:Val Å) (b:Val Ã) (c:Val Ã):Option (Val Ã):=aDZ a b c some
def aqe (c:Int) (a:Int) (b:Val l5) (d:Int→Val l5→Option ρ) (e:Val l5→Option ρ):Option ρ :=
  ifb (ilt a c) (ï ((ile (0:Int) a)&&(ilt a (Đ b))) (Ň b (Int.toNat a) fun g=>ck (a+(1:Int)) fun f=>d f (List.set b (Int.toNat a) (1152921504606846976:Int)))) (e b)
def aLx (c:Int) (a:Int) (b:Val l5) (d:Int→Val l5→Option ρ) (e:Val l5→Option ρ):Option ρ :=
  ifb (ilt a c) (ï ((ile (0:Int) a)&&(ilt a (Đ b))) (Ň b (Int.toNat a) fun g=>ck (a+(1:Int)) fun f=>d f (List.set b (Int.toNat a) (1152921504606846976:Int)))) (e b)
def avz (d:Val l5) (f:Val wi) (g:Int) (c:Int) (b:Val l5) (e:Int→Val l5→Option ρ) (h:Val l5→Option ρ):Option ρ :=
  ifb (ilt c g) (ă f c fun a=>ă d a.2.1 fun i=>ifb (ine i (1152921504606846976:Int)) (ï ((ile (0:Int) a.1)&&(ilt a.1 (Đ b))) (Ň b (Int.toNat a.1) fun j=>ă d a.2.1 fun k=>ck (a.2.2+k) fun l=>ï ((ile (0:Int) a.1)&&(ilt a.1 (Đ b))) (Ň b (Int.toNat a.1) fun o=>ck (c+(1:Int)) fun m=>e m (List.set b (Int.toNat a.1) (aMt j l))))) (ck (c+(1:Int)) fun n=>e n b)) (h b)
def aBP (i:Int) (b:Int) (d:Val wi) (e:Int) (a:Val abr) (j:Int→Val abr→Option ρ) (k:Val abr→Option ρ):Option ρ :=
  ifb (ilt e i) (ck ((Û a)-(1:Int)) fun c=>ï ((ile (0:Int) c)&&(ilt c (Đ a))) (Ň a (Int.toNat c) fun l=>ï ((ile (0:Int) b)&&(ì (Int.toNat b))) (Ì (fun(f:Val abv) m=>aLx (Û (List.replicate (Int.toNat b) (0:Int))) f.1 f.2 (fun n o=>m (n,o)) (fun p=>Ì (fun(g:Val abv) q=>avz l d (Û d) g.1 g.2 (fun r s=>q (r,s)) (fun h=>ï (ì ((List.length a)+(List.length ([h])))) (ck (e+(1:Int)) fun t=>j t (a++([h]))))) ((0:Int),p))) ((0:Int),(List.replicate (Int.toNat b) (0:Int)))))) (k a)
def aD7 (a:Val Ð) (b:Int) (f:Int) (k:Val abr→Option ρ):Option ρ :=
  ï ((ile (0:Int) a.1)&&(ì (Int.toNat a.1))) (Ì (fun(d:Val abv) g=>aqe (Û (List.replicate (Int.toNat a.1) (0:Int))) d.1 d.2 (fun h i=>g (h,i)) (fun c=>ï ((ile (0:Int) b)&&(ilt b (Đ c))) (Ň c (Int.toNat b) fun o=>Ì (fun(e:Val abN) j=>aBP f a.1 a.2 e.1 e.2 (fun l m=>j (l,m)) (fun n=>k n)) ((0:Int),[(List.set c (Int.toNat b) (0:Int))])))) ((0:Int),(List.replicate (Int.toNat a.1) (0:Int))))
def apG (a:Val Ð) (b:Int) (c:Int):Option ((Val abr)):=aD7 a b c some
def ajW (b:Val abr) (c:Int) (d:Int) (e:Int) (a:Int) (f:Int→Option ρ) (g:Int→Option ρ) (h:Unit→Option ρ):Option ρ :=
  ifb (ilt a c) (ă b a fun i=>ă i d fun j=>ifb (ieq j e) (g a) (ck (a+(1:Int)) fun k=>f k)) (h ())
def azS (g:Int) (h:Val abr) (j:Val wi) (k:Int) (l:Int) (e:Int) (b:Int) (a:Int) (c:Val l5) (f:Int→Int→Int→Val l5→Option ρ) (i:(Val (.pair tI abv))→Option ρ):Option ρ :=
  ifb (ilt a k) (ă j a fun d=>ifb (ieq d.1 e) (ck (g-(1:Int)) fun m=>ă h m fun n=>ă n d.2.1 fun o=>ifb (ine o (1152921504606846976:Int)) (ck (b+d.2.2) fun p=>ck (g-(1:Int)) fun q=>ă h q fun r=>ă r d.2.1 fun s=>ck (p+s) fun t=>ifb (ieq t l) (ï (ì ((List.length c)+(List.length ([a])))) (ck (b+d.2.2) fun u=>i (d.2.1,u,(c++([a]))))) (ck (a+(1:Int)) fun v=>f e b v c)) (ck (a+(1:Int)) fun w=>f e b w c)) (ck (a+(1:Int)) fun x=>f e b x c)) (i (e,b,c))
def ajV (f:Val abr) (g:Int) (d:Val wi) (h:Int) (b:Int) (i:Int) (e:Val l5) (j:Int→Int→Int→Val l5→Option ρ) (k:Val l5→Option ρ):Option ρ :=
  ifb (igt b (0:Int)) (Ì (fun(a:Val abK) l=>azS b f d (Û d) g a.1 a.2.1 a.2.2.1 a.2.2.2 (fun m n o p=>l (m,n,o,p)) (fun c=>ck (b-(1:Int)) fun q=>j c.1 q c.2.1 c.2.2)) (h,i,(0:Int),e)) (k e)
def aEt (a:Val Ð) (c:Int) (g:Int) (k:Val abH→Option ρ):Option ρ :=
  Â (ai6 a c g) fun b=>ifb (ine b.2 (0:Int)) (k ([],b.2)) (Â (apG a g a.1) fun d=>Ì (fun(h:Int) i=>ajW d (Û d) c b.1 h (fun j=>i j) (fun l=>Ì (fun(e:Val abK) m=>ajV d b.1 a.2 e.1 e.2.1 e.2.2.1 e.2.2.2 (fun n o p q=>m (n,o,p,q)) (fun r=>k (r,(0:Int)))) (c,l,(0:Int),[])) (fun _=>Ì (fun(f:Val abK) s=>ajV d b.1 a.2 f.1 f.2.1 f.2.2.1 f.2.2.2 (fun t u v w=>s (t,u,v,w)) (fun x=>k (x,(0:Int)))) (c,(-1:Int),(0:Int),[]))) (0:Int))
def apJ (a:Val Ð) (b:Int) (c:Int):Option ((Val abH)):=aEt a b c some
def amr (a:Val aby) (c:Val abU) (d:(Val (.ptr .bool))) (k:Val l5→Option ρ):Option ρ :=
  Â (θ a c) fun b=>ifb d (Â (apJ a.2 (0:Int) b) fun e=>k e.1) (Â (apJ a.2 b (0:Int)) fun f=>k f.1)
def af2 (a:Val aby) (b:Val abU) (c:(Val (.ptr .bool))):Option ((Val l5)):=amr a b c some
def agT (d:Val eI) (e:Val l5) (f:Int) (a:Int) (b:Val eI) (g:Int→Val eI→Option ρ) (h:Val eI→Option ρ):Option ρ :=
  ifb (ilt a f) (ă e a fun i=>ă d i fun c=>ï (ì ((List.length b)+(List.length ([c])))) (ck (a+(1:Int)) fun j=>g j (b++([c])))) (h b)
def asY (c:Val Å) (a:Val l5) (k:Val eI→Option ρ):Option ρ :=
  Â (ħ c) fun d=>Ì (fun(b:Val abG) e=>agT d.2.1 a (Û a) b.1 b.2 (fun f g=>e (f,g)) (fun h=>k h)) ((0:Int),[])
def ai2 (a:Val Å) (b:Val l5):Option ((Val eI)):=asY a b some
def aks (m:Int) (j:Val eI) (b:Int) (c:Int) (d:Int) (e:Val f6) (f:Val eI) (g:Val m5) (h:Val eW) (i:Val eI) (k:Int→Int→Int→Val f6→Val eI→Val m5→Val eW→Val eI→Option ρ) (n:Val abD→Option ρ) (o:Val abo→Option ρ):Option ρ :=
  ifb (ilt b m) (ï ((ile (0:Int) b)&&(ilt b (Đ j))) (Ň j (Int.toNat b) fun l=>Â (Ũ ((c,d),e,f,g,h,i) l) fun p=>ifb (ieq p.2 (0:Int)) (ck (b+(1:Int)) fun q=>k q c d e f g h i) (Â (aeY ((c,d),e,f,g,h,i) l) fun a=>ifb (ine a.2 (0:Int)) (n (a.2,c,d,e,f,g,h,i)) (ck (b+(1:Int)) fun r=>k r a.1.1.1 a.1.1.2 a.1.2.1 a.1.2.2.1 a.1.2.2.2.1 a.1.2.2.2.2.1 a.1.2.2.2.2.2)))) (o (c,d,e,f,g,h,i))
def akr (a:Int) (b:Int) (d:Int→Option ρ) (c:Unit→Option ρ):Option ρ :=
  ifb (ilt b a) (none) (c ())
def as7 (d:Val Å) (b:Val Ã) (f:Bool) (k:(Val (.pair κ tI))→Option ρ):Option ρ :=
  Â (ā d) fun i=>ifb (ine i (0:Int)) (ï (ine i (0:Int)) (k (((((0:Int),(0:Int)),[],[],[],[],[]),((0:Int),(0:Int)),false,(0:Int),[]),i))) (Ì (fun(e:Val abD) n=>aks (Û ([b])) ([b]) e.1 e.2.1 e.2.2.1 e.2.2.2.1 e.2.2.2.2.1 e.2.2.2.2.2.1 e.2.2.2.2.2.2.1 e.2.2.2.2.2.2.2 (fun o p q r s t u v=>n (o,p,q,r,s,t,u,v)) (fun l=>ï (ine l.1 (0:Int)) (k (((((0:Int),(0:Int)),[],[],[],[],[]),((0:Int),(0:Int)),false,(0:Int),[]),l.1))) (fun a=>Â (ħ ((a.1,a.2.1),a.2.2)) fun c=>ifb (ine c.2.2 (0:Int)) (ï (ine c.2.2 (0:Int)) (k (((((0:Int),(0:Int)),[],[],[],[],[]),((0:Int),(0:Int)),false,(0:Int),[]),c.2.2))) (Â (Ė c.1) fun w=>ifb (!w.1) (k (((((0:Int),(0:Int)),[],[],[],[],[]),((0:Int),(0:Int)),false,(0:Int),[]),(9:Int))) (Â (af2 (((a.1,a.2.1),a.2.2),c.1) b f) fun x=>Â (ai2 ((a.1,a.2.1),a.2.2) x) fun y=>Â (aFt ((a.1,a.2.1),a.2.2) y ([b])) fun g=>Â (ā g) fun j=>ifb (ine j (0:Int)) (ifb (ine j (0:Int)) (k (((((0:Int),(0:Int)),[],[],[],[],[]),((0:Int),(0:Int)),false,(0:Int),[]),j)) (Â (η (((a.1,a.2.1),a.2.2),c.1) b) fun F=>none)) (Ì (fun(z:Int) A=>akr (0:Int) z (fun B=>A B) (fun _=>Â (ħ g) fun h=>ifb (ine h.2.2 (0:Int)) (ifb (ine h.2.2 (0:Int)) (k (((((0:Int),(0:Int)),[],[],[],[],[]),((0:Int),(0:Int)),false,(0:Int),[]),h.2.2)) (Â (η (((a.1,a.2.1),a.2.2),c.1) b) fun G=>none)) (Â (Ė h.1) fun C=>ifb (!C.1) (k (((((0:Int),(0:Int)),[],[],[],[],[]),((0:Int),(0:Int)),false,(0:Int),[]),(9:Int))) (Â (η (((a.1,a.2.1),a.2.2),c.1) b) fun D=>Â (af2 (g,h.1) b f) fun m=>ifb f (Â (ado (((a.1,a.2.1),a.2.2),c.1) b) fun E=>k ((g,b,f,E,m),(0:Int))) (k ((g,b,f,D,m),(0:Int))))))) (0:Int)))))) ((0:Int),d.1.1,d.1.2,d.2.1,d.2.2.1,d.2.2.2.1,d.2.2.2.2.1,d.2.2.2.2.2))
def am4 (a:Val Å) (b:Val Ã) (c:Bool):Option ((Val (.pair κ tI))):=as7 a b c some
def agV (d:Val l5) (e:Int) (f:Val wi) (a:Int) (g:Int→Option ρ) (b:Int→Option ρ) (h:Unit→Option ρ):Option ρ :=
  ifb (ilt a e) (ă d a fun c=>ifb (ilt c (0:Int)) (b a) (ifb (ige c (Û f)) (b a) (ck (a+(1:Int)) fun i=>g i))) (h ())
def as9 (b:Val Ð) (a:Val l5) (k:Int→Option ρ):Option ρ :=
  ifb (igt (Û a) (80:Int)) (k (2:Int)) (Ì (fun(c:Int) d=>agV a (Û a) b.2 c (fun e=>d e) (fun f=>ifb (ige f (0:Int)) (k (1:Int)) (k (0:Int))) (fun _=>k (0:Int))) (0:Int))
def ai5 (a:Val Ð) (b:Val l5):Option (Int):=as9 a b some
def amt (e:Val l5) (f:Int) (g:Val wi) (c:Int) (d:Int) (a:Int) (h:Int→Int→Int→Option ρ) (i:(Val (.pair tI (.pair tI .bool)))→Option ρ) (j:Val Ã→Option ρ):Option ρ :=
  ifb (ilt a f) (ă e a fun k=>ă g k fun b=>ifb (ine b.1 c) (i ((0:Int),(0:Int),false)) (ck (d+b.2.2) fun l=>ck (a+(1:Int)) fun m=>h b.2.1 l m)) (j (c,d))
def aLv (e:Val Ð) (f:Int) (c:Val l5) (k:(Val (.pair tI (.pair tI .bool)))→Option ρ):Option ρ :=
  Ì (fun(a:Val Ĉ) g=>amt c (Û c) e.2 a.1 a.2.1 a.2.2 (fun h i j=>g (h,i,j)) (fun b=>k (b.1,b.2.1,b.2.2)) (fun d=>k (d.1,d.2,true))) (f,(0:Int),(0:Int))
def awG (a:Val Ð) (b:Int) (c:Val l5):Option ((Val (.pair tI (.pair tI .bool)))):=aLv a b c some
def akw (a:Val Ð) (c:Int) (d:Int) (e:Val l5) (k:Val Ã→Option ρ):Option ρ :=
  Â (ahn a) fun f=>ifb (ine f.1 (0:Int)) (k ((0:Int),f.1)) (Â (aj9 a c) fun h=>ifb (!h) (k ((0:Int),(1:Int))) (Â (aj9 a d) fun i=>ifb (!i) (k ((0:Int),(1:Int))) (Â (ai5 a e) fun g=>ifb (ine g (0:Int)) (k ((0:Int),g)) (Â (awG a c e) fun b=>ifb (!b.2.2) (k ((0:Int),(8:Int))) (ifb (ine b.1 d) (k ((0:Int),(8:Int))) (k (b.2.1,(0:Int))))))))
def aeP (a:Val Ð) (b:Int) (c:Int) (d:Val l5):Option (Val Ã):=akw a b c d some
def amq (a:Val κ) (k:Int→Option ρ):Option ρ :=
  Â (ā a.1) fun c=>ifb (ine c (0:Int)) (k c) (Â (Ũ a.1 a.2.1) fun b=>ifb (ine b.2 (0:Int)) (k (5:Int)) (Â (ħ a.1) fun d=>ck (0-a.2.2.2.1) fun g=>ifb a.2.2.1 (Â (aeP d.1 (0:Int) b.1 a.2.2.2.2) fun e=>ifb (ine e.2 (0:Int)) (k (8:Int)) (ifb (ine e.1 a.2.2.2.1) (k (8:Int)) (k (0:Int)))) (Â (aeP d.1 b.1 (0:Int) a.2.2.2.2) fun f=>ifb (ine f.2 (0:Int)) (k (8:Int)) (ifb (ine f.1 g) (k (8:Int)) (k (0:Int))))))
def af1 (a:Val κ):Option (Int):=amq a some
def amO (f:Int) (a:Int) (c:Val eW) (g:Int→Val eW→Option ρ) (h:Val eW→Option ρ):Option ρ :=
  ifb (ilt a f) (ï ((ile (0:Int) a)&&(ilt a (Đ c))) (Ň c (Int.toNat a) fun d=>ï (ì (List.length d.2.2.1)) (ï (ì (List.length d.2.2.2.1)) (ï ((ile (0:Int) a)&&(ilt a (Đ c))) (Ň c (Int.toNat a) fun b=>ï ((ile (0:Int) a)&&(ilt a (Đ (List.set c (Int.toNat a) (b.1,b.2.1,d.2.2.1,b.2.2.2))))) (Ň (List.set c (Int.toNat a) (b.1,b.2.1,d.2.2.1,b.2.2.2)) (Int.toNat a) fun e=>ck (a+(1:Int)) fun i=>g i (List.set (List.set c (Int.toNat a) (b.1,b.2.1,d.2.2.1,b.2.2.2)) (Int.toNat a) (e.1,e.2.1,e.2.2.1,d.2.2.2.1,e.2.2.2.2)))))))) (h c)
def aMd (a:Val Å) (b:Val Í) (k:Val abI→Option ρ):Option ρ :=
  ï (ì (List.length b.2.2.1)) (ï (ì (List.length b.2.2.2.1)) (Â (ā a) fun d=>ifb (ine d (0:Int)) (k ((((0:Int),(0:Int)),[],[],[],[],[]),d)) (ï (ì (List.length a.2.1)) (ï (ì (List.length a.2.2.1)) (ï (ì (List.length a.2.2.2.1)) (ï (ì (List.length a.2.2.2.2.2)) (ï (ì (List.length a.2.2.2.2.1)) (Ì (fun(e:(Val (.pair tI eW))) g=>amO (Û a.2.2.2.2.1) e.1 e.2 (fun h i=>g (h,i)) (fun c=>ï (ì ((List.length c)+(List.length ([b])))) (Â (ā (a.1,a.2.1,a.2.2.1,a.2.2.2.1,(c++([b])),a.2.2.2.2.2)) fun f=>ifb (ine f (0:Int)) (k ((((0:Int),(0:Int)),[],[],[],[],[]),f)) (k ((a.1,a.2.1,a.2.2.1,a.2.2.2.1,(c++([b])),a.2.2.2.2.2),(0:Int)))))) ((0:Int),a.2.2.2.2.1)))))))))
def aib (a:Val Å) (b:Val Í):Option ((Val abI)):=aMd a b some
def aEN (b:Val Å) (a:Val Í) (c:Val Ã) (k:Val ļ→Option ρ):Option ρ :=
  Â (air b a) fun d=>Â (alL b a) fun e=>Â (awI d.1) fun h=>Â (apK d.2) fun i=>ck (h.1+e.1) fun j=>ck (j-a.2.2.2.2.2.1) fun f=>ck (i.1+e.2) fun l=>ck (l+a.2.2.2.2.2.1) fun g=>ifb (igt f g) (k (((0:Int),(0:Int)),(5:Int))) (ck (c.1+f) fun m=>ck (c.2+g) fun n=>k ((m,n),(0:Int)))
def alK (a:Val Å) (b:Val Í) (c:Val Ã):Option (Val ļ):=aEN a b c some
def atn (g:Val Å) (a:Val Í) (k:Val ļ→Option ρ):Option ρ :=
  Â (aib g (a.1,a.2.1,a.2.2.1,a.2.2.2.1,(0:Int),a.2.2.2.2.2)) fun d=>ifb (ine d.2 (0:Int)) (k (((0:Int),(0:Int)),d.2)) (Â (awK d.1) fun b=>ck ((Û b.2.2.1.2)-(2:Int)) fun c=>ï ((ile (0:Int) c)&&(ile c (Đ b.2.2.1.2))) (Â (Ŭ a.2.2.1 a.2.2.2.1) fun l=>Â (adw b l a.2.1) fun h=>Â (Ŭ a.2.2.2.1 a.2.2.1) fun m=>Â (adw b m a.2.1) fun i=>Â (ai6 (b.2.2.1.1,(List.take (Int.toNat c) b.2.2.1.2)) i h) fun e=>ifb (ine e.2 (0:Int)) (k (((0:Int),(0:Int)),e.2)) (Â (ai6 (b.2.2.1.1,(List.take (Int.toNat c) b.2.2.1.2)) h i) fun f=>ifb (ine f.2 (0:Int)) (k (((0:Int),(0:Int)),f.2)) (ck (0-f.1) fun n=>Â (alK g (a.1,a.2.1,a.2.2.1,a.2.2.2.1,(0:Int),a.2.2.2.2.2) (n,e.1)) fun j=>k (j.1,j.2)))))
def am8 (a:Val Å) (b:Val Í):Option (Val ļ):=atn a b some
def aEL (a:Val Å) (b:Int) (k:(Val (.pair Í tI))→Option ρ):Option ρ :=
  Â (ā a) fun c=>ifb (ine c (0:Int)) (k (((0:Int),(0:Int),[],[],(0:Int),(0:Int),(0:Int),(0:Int)),c)) (ifb (ilt b (0:Int)) (k (((0:Int),(0:Int),[],[],(0:Int),(0:Int),(0:Int),(0:Int)),(1:Int))) (ifb (ige b (Û a.2.2.2.2.1)) (k (((0:Int),(0:Int),[],[],(0:Int),(0:Int),(0:Int),(0:Int)),(1:Int))) (ă a.2.2.2.2.1 b fun d=>k (d,(0:Int)))))
def awJ (a:Val Å) (b:Int):Option ((Val (.pair Í tI))):=aEL a b some
def aMf (b:Val Å) (c:Int) (k:Val ļ→Option ρ):Option ρ :=
  Â (awJ b c) fun a=>ifb (ine a.2 (0:Int)) (k (((0:Int),(0:Int)),a.2)) (Â (am5 b a.1) fun d=>k (d,(0:Int)))
def aB2 (a:Val Å) (b:Int):Option (Val ļ):=aMf a b some
def ayx (a:Val l5) (b:Val l5) (k:(Val (.pair l5 abH))→Option ρ):Option ρ :=
  Â (agI a) fun c=>ifb (!c) (k ([],[],(1:Int))) (Â (agI b) fun d=>ifb (!d) (k ([],[],(1:Int))) (Â (Ŭ a b) fun e=>Â (Ŭ b a) fun f=>k (e,f,(0:Int))))
def alM (a:Val l5) (b:Val l5):Option ((Val (.pair l5 abH))):=ayx a b some
def aoT (a:Val l5) (b:Val aby) (c:(Val (.ptr Í))) (k:Int→Option ρ):Option ρ :=
  ifb (ieq (Û a) (0:Int)) (k (0:Int)) (ă a (0:Int) fun d=>Â (θ b (d,c.2.1)) fun e=>k e)
def ahm (a:Val l5) (b:Val aby) (c:(Val (.ptr Í))):Option (Int):=aoT a b c some
def aoS (b:Int) (c:Int) (a:Val aby) (d:(Val (.ptr tI))) (e:Val abU) (f:(Val (.ptr tI))) (k:Val Ĉ→Option ρ):Option ρ :=
  Â (Ċ a b c) fun g=>Â (Ċ a d c) fun h=>ck (h+e.2) fun i=>Â (Ċ a b f) fun j=>ck (i+j) fun l=>Â (Ċ a f c) fun m=>ck (m-e.1) fun n=>Â (Ċ a b d) fun o=>ck (n+o) fun p=>k (g,l,p)
def ahl (a:Int) (b:Int) (c:Val aby) (d:(Val (.ptr tI))) (e:Val abU) (f:(Val (.ptr tI))):Option (Val Ĉ):=aoS a b c d e f some
def afT (f:Int) (g:Val eI) (h:Val wi) (i:Int) (a:Int) (b:Val wi) (c:Int→Val wi→Option ρ) (j:Val wi→Option ρ):Option ρ :=
  ifb (ilt a i) (ă h a fun d=>ă g a fun e=>ifb (!((Ă e.1 (3:Int))&&((Ă e.2 f)&&true))) (ï (ì ((List.length b)+(List.length ([d])))) (ck (a+(1:Int)) fun k=>c k (b++([d])))) (ck (a+(1:Int)) fun l=>c l b)) (j b)
def axQ (f:Val aby) (o:Val Ã) (a:Val Í) (k:(Val (.pair ű tI))→Option ρ):Option ρ :=
  Â (am8 f.1 a) fun e=>ifb (ine e.2 (0:Int)) (k ((((0:Int),(0:Int)),((0:Int),(0:Int),(0:Int)),(0:Int),(0:Int),(0:Int)),e.2)) (Â (aib f.1 (a.1,a.2.1,a.2.2.1,a.2.2.2.1,(0:Int),a.2.2.2.2.2)) fun b=>ifb (ine b.2 (0:Int)) (k ((((0:Int),(0:Int)),((0:Int),(0:Int),(0:Int)),(0:Int),(0:Int),(0:Int)),b.2)) (ck ((Û b.1.2.2.2.2.1)-(1:Int)) fun g=>Â (aB2 b.1 g) fun h=>Â (alM a.2.2.1 a.2.2.2.1) fun i=>Â (ħ b.1) fun c=>Ì (fun(j:Val Ð) p=>afT g c.2.1 c.1.2 (Û c.1.2) j.1 j.2 (fun q r=>p (q,r)) (fun d=>Â (ahm i.1 (b.1,c.1.1,d) (a.1,a.2.1,a.2.2.1,a.2.2.2.1,(0:Int),a.2.2.2.2.2)) fun l=>Â (ahm i.2.1 (b.1,c.1.1,d) (a.1,a.2.1,a.2.2.1,a.2.2.2.1,(0:Int),a.2.2.2.2.2)) fun m=>Â (θ (b.1,c.1.1,d) o) fun n=>Â (ahl n (0:Int) (b.1,c.1.1,d) m h.1 l) fun s=>Â (ahl (0:Int) n (b.1,c.1.1,d) m h.1 l) fun t=>k ((e.1,s,t),(0:Int)))) ((0:Int),[])))
def alG (a:Val aby) (b:Val Ã) (c:Val Í):Option ((Val (.pair ű tI))):=axQ a b c some
def amh (a:Val Ĉ) (k:Val l5→Option ρ):Option ρ :=
  ck (a.2.2-a.2.1) fun c=>ck (Int.tdiv c (2:Int)) fun b=>ck (a.1-a.2.1) fun d=>ck (a.2.2-a.1) fun e=>ck (b-(1:Int)) fun f=>ck (b+(1:Int)) fun g=>k ([d,e,b,f,g])
def adK (a:Val Ĉ):Option ((Val l5)):=amh a some
def axT (a:Val Ĉ) (b:Int) (k:Int→Option ρ):Option ρ :=
  ck (a.2.1+b) fun c=>ck (a.2.2-b) fun d=>k (aMt (aMt a.1 c) d)
def alH (a:Val Ĉ) (b:Int):Option (Int):=axT a b some
def akj (a:Val ű) (b:Int) (k:Val Ã→Option ρ):Option ρ :=
  Â (alH a.2.2 b) fun c=>ck (0-c) fun d=>Â (alH a.2.1 b) fun e=>k (d,e)
def Ŕ (a:Val ű) (b:Int):Option (Val Ã):=akj a b some
def adj (d:Int) (e:Int) (f:Int) (a:Int) (b:Val l5) (c:Int→Val l5→Option ρ) (g:Val l5→Option ρ):Option ρ :=
  ck (d+(2:Int)) fun h=>ifb (ile a h) (ifb (igt a e) (ifb (ilt a f) (ï (ì ((List.length b)+(List.length ([a])))) (ck (a+(1:Int)) fun i=>c i (b++([a])))) (ck (a+(1:Int)) fun j=>c j b)) (ck (a+(1:Int)) fun k=>c k b)) (g b)
def aeq (e:Val l5) (f:Int) (g:Int) (h:Int) (a:Int) (b:Val l5) (i:Int→Val l5→Option ρ) (j:Val l5→Option ρ):Option ρ :=
  ifb (ilt a f) (ă e a fun c=>ck (c-(2:Int)) fun k=>Ì (fun(d:Val abv) l=>adj c g h d.1 d.2 (fun m n=>l (m,n)) (fun o=>ck (a+(1:Int)) fun p=>i p o)) (k,b)) (j b)
def akk (a:Val ű) (b:Val l5) (k:Val l5→Option ρ):Option ρ :=
  Ì (fun(c:Val abv) d=>aeq b (Û b) a.1.1 a.1.2 c.1 c.2 (fun e f=>d (e,f)) (fun g=>k g)) ((0:Int),[a.1.1,a.1.2])
def aeO (a:Val ű) (b:Val l5):Option ((Val l5)):=akk a b some
def ad6 (d:Val l5) (e:Int) (f:Int) (g:Int) (h:Int) (i:Int) (j:Int) (k:Int) (l:Int) (m:Int) (b:Int) (a:Int) (n:Int→Int→Option ρ) (o:Int→Option ρ):Option ρ :=
  ifb (ilt a e) (ă d a fun p=>Â (Ŕ ((f,g),(h,i,j),k,l,m) p) fun c=>ck (c.2-c.1) fun q=>ck (a+(1:Int)) fun r=>n (aGd b q) r) (o b)
def aiF (a:Val ű) (k:Int→Option ρ):Option ρ :=
  Â (adK a.2.1) fun d=>Â (adK a.2.2) fun e=>Â (ò ([d,e])) fun f=>Â (aeO a f) fun b=>Ì (fun(c:Val Ã) g=>ad6 b (Û b) a.1.1 a.1.2 a.2.1.1 a.2.1.2.1 a.2.1.2.2 a.2.2.1 a.2.2.2.1 a.2.2.2.2 c.1 c.2 (fun h i=>g (h,i)) (fun j=>k j)) ((-1:Int),(0:Int))
def afZ (a:Val ű):Option (Int):=aiF a some
def aoW (m:Int) (j:Val eI) (b:Int) (c:Int) (d:Int) (e:Val f6) (f:Val eI) (g:Val m5) (h:Val eW) (i:Val eI) (k:Int→Int→Int→Val f6→Val eI→Val m5→Val eW→Val eI→Option ρ) (n:Val abD→Option ρ) (o:Val abo→Option ρ):Option ρ :=
  ifb (ilt b m) (ï ((ile (0:Int) b)&&(ilt b (Đ j))) (Ň j (Int.toNat b) fun l=>Â (Ũ ((c,d),e,f,g,h,i) l) fun p=>ifb (ieq p.2 (0:Int)) (ck (b+(1:Int)) fun q=>k q c d e f g h i) (Â (aeY ((c,d),e,f,g,h,i) l) fun a=>ifb (ine a.2 (0:Int)) (n (a.2,c,d,e,f,g,h,i)) (ck (b+(1:Int)) fun r=>k r a.1.1.1 a.1.1.2 a.1.2.1 a.1.2.2.1 a.1.2.2.2.1 a.1.2.2.2.2.1 a.1.2.2.2.2.2)))) (o (c,d,e,f,g,h,i))
def aDW (a:Val Å) (e:Val Ã) (i:Val Í) (k:Val Ã→Option ρ):Option ρ :=
  Â (ā a) fun f=>ifb (ine f (0:Int)) (ï (ine f (0:Int)) (k ((0:Int),f))) (Ì (fun(b:Val abD) j=>aoW (Û ([e])) ([e]) b.1 b.2.1 b.2.2.1 b.2.2.2.1 b.2.2.2.2.1 b.2.2.2.2.2.1 b.2.2.2.2.2.2.1 b.2.2.2.2.2.2.2 (fun l m n o p q r s=>j (l,m,n,o,p,q,r,s)) (fun h=>ï (ine h.1 (0:Int)) (k ((0:Int),h.1))) (fun c=>Â (ħ ((c.1,c.2.1),c.2.2)) fun d=>ifb (ine d.2.2 (0:Int)) (ï (ine d.2.2 (0:Int)) (k ((0:Int),d.2.2))) (Â (Ė d.1) fun t=>ifb (!t.1) (k ((0:Int),(9:Int))) (Â (alG (((c.1,c.2.1),c.2.2),d.1) e i) fun g=>ifb (ine g.2 (0:Int)) (k ((0:Int),g.2)) (Â (afZ g.1) fun u=>k (u,(0:Int))))))) ((0:Int),a.1.1,a.1.2,a.2.1,a.2.2.1,a.2.2.2.1,a.2.2.2.2.1,a.2.2.2.2.2))
def apF (a:Val Å) (b:Val Ã) (c:Val Í):Option (Val Ã):=aDW a b c some
def aml (a:Int) (k:Int→Option ρ):Option ρ :=
  k (aGd (-288230376151711744:Int) (aMt a (288230376151711744:Int)))
def af0 (a:Int):Option (Int):=aml a some
def ami (a:Val Ĉ) (b:Int) (k:Val l5→Option ρ):Option ρ :=
  ck (b-a.2.1) fun c=>ck (a.2.2-b) fun d=>k ([c,d])
def adL (a:Val Ĉ) (b:Int):Option ((Val l5)):=ami a b some
def ako (m:Int) (j:Val eI) (b:Int) (c:Int) (d:Int) (e:Val f6) (f:Val eI) (g:Val m5) (h:Val eW) (i:Val eI) (k:Int→Int→Int→Val f6→Val eI→Val m5→Val eW→Val eI→Option ρ) (n:Val abD→Option ρ) (o:Val abo→Option ρ):Option ρ :=
  ifb (ilt b m) (ï ((ile (0:Int) b)&&(ilt b (Đ j))) (Ň j (Int.toNat b) fun l=>Â (Ũ ((c,d),e,f,g,h,i) l) fun p=>ifb (ieq p.2 (0:Int)) (ck (b+(1:Int)) fun q=>k q c d e f g h i) (Â (aeY ((c,d),e,f,g,h,i) l) fun a=>ifb (ine a.2 (0:Int)) (n (a.2,c,d,e,f,g,h,i)) (ck (b+(1:Int)) fun r=>k r a.1.1.1 a.1.1.2 a.1.2.1 a.1.2.2.1 a.1.2.2.2.1 a.1.2.2.2.2.1 a.1.2.2.2.2.2)))) (o (c,d,e,f,g,h,i))
def agU (b:Val l5) (c:Int) (d:Int) (e:Int) (f:Int) (g:Int) (h:Int) (i:Int) (j:Int) (k:Int) (l:Int) (m:Int) (a:Int) (n:Int→Option ρ) (o:Int→Option ρ) (p:Unit→Option ρ):Option ρ :=
  ifb (ilt a c) (ă b a fun q=>Â (Ŕ ((f,g),(h,i,j),k,l,m) q) fun r=>Â (ai1 r (d,e)) fun s=>ifb (ieq s (3:Int)) (o a) (ck (a+(1:Int)) fun t=>n t)) (p ())
def as4 (c:Val Å) (g:Val Ã) (b:Val Ã) (n:Val Í) (k:Val abW→Option ρ):Option ρ :=
  Â (ā c) fun h=>ifb (ine h (0:Int)) (ifb (ine h (0:Int)) (k (false,h)) (ï (igt b.1 b.2) (k (false,(1:Int))))) (Ì (fun(d:Val abD) o=>ako (Û ([g])) ([g]) d.1 d.2.1 d.2.2.1 d.2.2.2.1 d.2.2.2.2.1 d.2.2.2.2.2.1 d.2.2.2.2.2.2.1 d.2.2.2.2.2.2.2 (fun p q r s t u v w=>o (p,q,r,s,t,u,v,w)) (fun l=>ifb (ine l.1 (0:Int)) (k (false,l.1)) (ï (igt b.1 b.2) (k (false,(1:Int))))) (fun e=>Â (ħ ((e.1,e.2.1),e.2.2)) fun f=>ifb (ine f.2.2 (0:Int)) (ifb (ine f.2.2 (0:Int)) (k (false,f.2.2)) (ï (igt b.1 b.2) (k (false,(1:Int))))) (Â (Ė f.1) fun x=>ifb (!x.1) (k (false,(9:Int))) (ifb (igt b.1 b.2) (k (false,(1:Int))) (Â (alG (((e.1,e.2.1),e.2.2),f.1) g n) fun a=>ifb (ine a.2 (0:Int)) (k (false,a.2)) (Â (adK a.1.2.1) fun y=>Â (adK a.1.2.2) fun z=>Â (ò ([y,z])) fun A=>Â (af0 b.1) fun i=>Â (af0 b.2) fun j=>Â (adL a.1.2.1 i) fun B=>ck (0-i) fun C=>Â (adL a.1.2.2 C) fun D=>Â (ò ([A,B,D])) fun E=>Â (adL a.1.2.1 j) fun F=>ck (0-j) fun G=>Â (adL a.1.2.2 G) fun H=>Â (ò ([E,F,H])) fun I=>Â (aeO a.1 I) fun m=>Ì (fun(J:Int) K=>agU m (Û m) i j a.1.1.1 a.1.1.2 a.1.2.1.1 a.1.2.1.2.1 a.1.2.1.2.2 a.1.2.2.1 a.1.2.2.2.1 a.1.2.2.2.2 J (fun L=>K L) (fun M=>k ((!(ige M (0:Int))),(0:Int))) (fun _=>k (true,(0:Int)))) (0:Int))))))) ((0:Int),c.1.1,c.1.2,c.2.1,c.2.2.1,c.2.2.2.1,c.2.2.2.2.1,c.2.2.2.2.2))
def ai3 (a:Val Å) (b:Val Ã) (c:Val Ã) (d:Val Í):Option ((Val abW)):=as4 a b c d some
def azR (d:Int) (c:Int) (e:Val wi) (a:Int) (b:Val abP) (f:Int→Val abP→Option ρ) (g:Val abP→Option ρ):Option ρ :=
  ifb (ilt a d) (Â (apG (c,e) a c) fun h=>ï ((ile (0:Int) a)&&(ilt a (Đ b))) (Ň b (Int.toNat a) fun j=>ck (a+(1:Int)) fun i=>f i (List.set b (Int.toNat a) h))) (g b)
def azN (g:Int) (h:Val abr) (j:Val wi) (k:Int) (e:Int) (b:Int) (a:Int) (c:Val l5) (f:Int→Int→Int→Val l5→Option ρ) (i:(Val (.pair tI abv))→Option ρ):Option ρ :=
  ifb (ilt a k) (ă j a fun d=>ifb (ieq d.1 e) (ck (g-(1:Int)) fun l=>ă h l fun m=>ă m d.2.1 fun n=>ifb (ine n (1152921504606846976:Int)) (ck (b+d.2.2) fun o=>ck (g-(1:Int)) fun p=>ă h p fun q=>ă q d.2.1 fun r=>ck (o+r) fun s=>ifb (ilt s (0:Int)) (ï (ì ((List.length c)+(List.length ([a])))) (ck (b+d.2.2) fun t=>i (d.2.1,t,(c++([a]))))) (ck (a+(1:Int)) fun u=>f e b u c)) (ck (a+(1:Int)) fun v=>f e b v c)) (ck (a+(1:Int)) fun w=>f e b w c)) (i (e,b,c))
def azO (f:Val abr) (d:Val wi) (g:Int) (b:Int) (h:Int) (e:Val l5) (i:Int→Int→Int→Val l5→Option ρ) (j:Val l5→Option ρ):Option ρ :=
  ifb (igt b (0:Int)) (Ì (fun(a:Val abK) k=>azN b f d (Û d) a.1 a.2.1 a.2.2.1 a.2.2.2 (fun l m n o=>k (l,m,n,o)) (fun c=>ck (b-(1:Int)) fun p=>i c.1 p c.2.1 c.2.2)) (g,h,(0:Int),e)) (j e)
def azP (e:Int) (h:Val wi) (i:Int) (j:Int) (k:Val wi) (b:Val abP) (c:Int) (f:Int→Option ρ) (l:Unit→Option ρ) (m:Val abv→Option ρ) (n:Unit→Option ρ):Option ρ :=
  ifb (ilt c i) (ă h c fun a=>ï ((ile (0:Int) a.1)&&(ilt a.1 (Đ b))) (Ň b (Int.toNat a.1) fun o=>ck (e-(1:Int)) fun p=>ă o p fun q=>ă q a.2.1 fun g=>ifb (ieq g (1152921504606846976:Int)) (ck (c+(1:Int)) fun r=>f r) (ck (a.2.2+g) fun s=>ifb (ige s (0:Int)) (ck (c+(1:Int)) fun t=>f t) (ifb (igt e j) (l ()) (ï ((ile (0:Int) a.1)&&(ilt a.1 (Đ b))) (Ň b (Int.toNat a.1) fun u=>Ì (fun(d:Val abK) v=>azO u k d.1 d.2.1 d.2.2.1 d.2.2.2 (fun w x y z=>v (w,x,y,z)) (fun A=>m ((0:Int),A))) (a.1,e,(0:Int),[]))))))) (n ())
def azQ (d:Int) (a:Val wi) (e:Val abP) (b:Int) (f:Int→Option ρ) (g:Unit→Option ρ) (h:Val abv→Option ρ):Option ρ :=
  Ì (fun(i:Int) j=>azP b a (Û a) d a e i (fun k=>j k) (fun _=>g ()) (fun c=>h (c.1,c.2)) (fun _=>ck (b+(1:Int)) fun l=>f l)) (0:Int)
def aEn (a:Val Ð) (k:Val abH→Option ρ):Option ρ :=
  Â (ahn a) fun b=>ifb (ine b.1 (0:Int)) (k ([],b.1)) (Â (afq a ([])) fun e=>ifb e.2 (k ([],(5:Int))) (ï ((ile (0:Int) a.1)&&(ì (Int.toNat a.1))) (Ì (fun(c:(Val (.pair tI abP))) f=>azR (Û (List.replicate (Int.toNat a.1) ([]:Val abr))) a.1 a.2 c.1 c.2 (fun g h=>f (g,h)) (fun i=>Ì (fun(j:Int) l=>azQ a.1 a.2 i j (fun m=>l m) (fun _=>k ([],(5:Int))) (fun d=>k (d.2,d.1))) (1:Int))) ((0:Int),(List.replicate (Int.toNat a.1) ([]:Val abr))))))
def apI (a:Val Ð):Option ((Val abH)):=aEn a some
def aD2 (a:Val Å) (k:(Val (.pair κ tI))→Option ρ):Option ρ :=
  Â (ħ a) fun b=>ifb (ine b.2.2 (0:Int)) (k (((((0:Int),(0:Int)),[],[],[],[],[]),((0:Int),(0:Int)),false,(0:Int),[]),b.2.2)) (Â (apI b.1) fun c=>ifb (ine c.2 (0:Int)) (k (((((0:Int),(0:Int)),[],[],[],[],[]),((0:Int),(0:Int)),false,(0:Int),[]),c.2)) (Â (ai2 a c.1) fun f=>Â (aFt a f ([])) fun e=>Â (ħ e) fun g=>Â (apI g.1) fun d=>ifb (ine d.2 (0:Int)) (k (((((0:Int),(0:Int)),[],[],[],[],[]),((0:Int),(0:Int)),false,(0:Int),[]),d.2)) (k ((e,((0:Int),(0:Int)),false,(0:Int),d.1),(0:Int)))))
def awF (a:Val Å):Option ((Val (.pair κ tI))):=aD2 a some
def aog (k:Val Å→Option ρ):Option ρ :=
  k (((0:Int),(2:Int)),[((1:Int),(0:Int),(1000:Int),((-5:Int),(5:Int)),((1:Int),(10:Int)),(1:Int)),((2:Int),(0:Int),(1000:Int),((-50:Int),(50:Int)),((1:Int),(4:Int)),(0:Int))],[((1:Int),(10:Int))],[((1:Int),((20:Int),(29:Int)),(3:Int))],[((7:Int),(10:Int),[(1:Int)],[(2:Int)],(-20:Int),(1:Int),(100:Int),(200:Int))],[])
def apC:Option (Val Å):=aog some
def aK1 (a:Val l5) (b:Int) (k:Bool→Option ρ):Option ρ :=
  Â (alM a ([])) fun c=>ifb (ieq c.2.2 (0:Int)) (k (ile (Û a) b)) (k false)
def aB0 (a:Val l5) (b:Int):Option (Bool):=aK1 a b some
def aDS (a:Int) (k:Bool→Option ρ):Option ρ :=
  ifb (ige a (0:Int)) (k (ile a (20000:Int))) (k false)
def awD (a:Int):Option (Bool):=aDS a some
def ajF (c:Int) (e:Val l5) (f:Int) (a:Int) (b:Val eI) (g:Int→Val eI→Option ρ) (h:Val eI→Option ρ):Option ρ :=
  ifb (ilt a f) (ă e a fun d=>ï (ì ((List.length b)+(List.length ([(d,c)])))) (ck (a+(1:Int)) fun i=>g i (b++([(d,c)])))) (h b)
def aDN (c:Int) (d:Val abr) (k:Val eI→Option ρ):Option ρ :=
  Â (ò d) fun a=>Ì (fun(b:Val abG) e=>ajF c a (Û a) b.1 b.2 (fun f g=>e (f,g)) (fun h=>k h)) ((0:Int),[])
def awC (a:Int) (b:Val abr):Option ((Val eI)):=aDN a b some
def amn (l:Val eI) (m:Int) (i:Int) (b:Int) (c:Int) (d:Val f6) (e:Val eI) (f:Val m5) (g:Val eW) (h:Val eI) (j:Int→Int→Int→Val f6→Val eI→Val m5→Val eW→Val eI→Option ρ) (n:Val abD→Option ρ) (o:Val abo→Option ρ):Option ρ :=
  ifb (ilt i m) (ă l i fun k=>Â (Ũ ((b,c),d,e,f,g,h) k) fun p=>ifb (ieq p.2 (0:Int)) (ck (i+(1:Int)) fun q=>j q b c d e f g h) (Â (aeY ((b,c),d,e,f,g,h) k) fun a=>ifb (ine a.2 (0:Int)) (n (a.2,b,c,d,e,f,g,h)) (ck (i+(1:Int)) fun r=>j r a.1.1.1 a.1.1.2 a.1.2.1 a.1.2.2.1 a.1.2.2.2.1 a.1.2.2.2.2.1 a.1.2.2.2.2.2))) (o (b,c,d,e,f,g,h))
def amm (e:Val aby) (f:Val eI) (g:Int) (a:Int) (b:Int) (c:Int) (h:Int→Int→Int→Option ρ) (i:Val Ã→Option ρ):Option ρ :=
  ifb (ilt a g) (ă f a fun j=>Â (Ű e j) fun d=>ck (b+d.1) fun k=>ck (c+d.2) fun l=>ck (a+(1:Int)) fun m=>h m k l) (i (b,c))
def aLr (a:Val Å) (i:Int) (c:Val l5) (k:Val ļ→Option ρ):Option ρ :=
  Â (ā a) fun j=>ifb (ine j (0:Int)) (k (((0:Int),(0:Int)),j)) (ifb (ieq (Û c) (0:Int)) (k (((0:Int),(0:Int)),(1:Int))) (Â (aB0 c (6:Int)) fun q=>ifb (!q) (k (((0:Int),(0:Int)),(1:Int))) (Â (awD i) fun r=>ifb (!r) (k (((0:Int),(0:Int)),(1:Int))) (Â (awC i ([c])) fun f=>Â (ā a) fun g=>ifb (ine g (0:Int)) (ifb (ine g (0:Int)) (k (((0:Int),(0:Int)),g)) (ck ((Û c)-(1:Int)) fun l=>ck (l*a.1.1) fun J=>ck (l*a.1.2) fun K=>none)) (Ì (fun(b:Val abD) s=>amn f (Û f) b.1 b.2.1 b.2.2.1 b.2.2.2.1 b.2.2.2.2.1 b.2.2.2.2.2.1 b.2.2.2.2.2.2.1 b.2.2.2.2.2.2.2 (fun t u v w x y z A=>s (t,u,v,w,x,y,z,A)) (fun m=>ifb (ine m.1 (0:Int)) (k (((0:Int),(0:Int)),m.1)) (ck ((Û c)-(1:Int)) fun n=>ck (n*a.1.1) fun L=>ck (n*a.1.2) fun M=>none)) (fun d=>Â (ħ ((d.1,d.2.1),d.2.2)) fun e=>ifb (ine e.2.2 (0:Int)) (ifb (ine e.2.2 (0:Int)) (k (((0:Int),(0:Int)),e.2.2)) (ck ((Û c)-(1:Int)) fun o=>ck (o*a.1.1) fun N=>ck (o*a.1.2) fun O=>none)) (Â (Ė e.1) fun B=>ifb (!B.1) (k (((0:Int),(0:Int)),(9:Int))) (ck ((Û c)-(1:Int)) fun p=>ck (p*a.1.1) fun C=>ck (p*a.1.2) fun D=>Ì (fun(h:Val Ĉ) E=>amm (((d.1,d.2.1),d.2.2),e.1) f (Û f) h.1 h.2.1 h.2.2 (fun F G H=>E (F,G,H)) (fun I=>k (I,(0:Int)))) ((0:Int),C,D))))) ((0:Int),a.1.1,a.1.2,a.2.1,a.2.2.1,a.2.2.2.1,a.2.2.2.2.1,a.2.2.2.2.2))))))
def aB1 (a:Val Å) (b:Int) (c:Val l5):Option (Val ļ):=aLr a b c some
def akv (a:Val Ð) (b:Val l5) (k:Int→Option ρ):Option ρ :=
  Â (ahn a) fun d=>ifb (ine d.1 (0:Int)) (k d.1) (Â (ai5 a b) fun e=>ifb (ine e (0:Int)) (k e) (ifb (ieq (Û b) (0:Int)) (k (8:Int)) (ă b (0:Int) fun g=>ă a.2 g fun f=>Â (awG a f.1 b) fun c=>ifb (!c.2.2) (k (8:Int)) (ifb (ine c.1 f.1) (k (8:Int)) (ifb (ige c.2.1 (0:Int)) (k (8:Int)) (k (0:Int)))))))
def agY (a:Val Ð) (b:Val l5):Option (Int):=akv a b some
def akq (a:Val κ) (k:Int→Option ρ):Option ρ :=
  Â (ā a.1) fun b=>ifb (ine b (0:Int)) (k b) (ifb (!((Ă a.2.1.1 (0:Int))&&((Ă a.2.1.2 (0:Int))&&true))) (k (1:Int)) (ifb a.2.2.1 (k (1:Int)) (ifb (ine a.2.2.2.1 (0:Int)) (k (1:Int)) (Â (ħ a.1) fun c=>Â (agY c.1 a.2.2.2.2) fun d=>ifb (ine d (0:Int)) (k (8:Int)) (k (0:Int))))))
def agX (a:Val κ):Option (Int):=akq a some
def ą (c:Val f6) (d:Int) (e:Int) (f:Int) (g:Int) (h:Int) (i:Int) (j:Int) (k:Int) (l:Int) (b:Int) (m:Int→Option ρ) (n:Int→Option ρ) (o:Unit→Option ρ):Option ρ :=
  ifb (ilt b d) (ă c b fun a=>ifb ((Ă e a.1)&&((Ă f a.2.1)&&((Ă g a.2.2.1)&&((Ă h a.2.2.2.1.1)&&((Ă i a.2.2.2.1.2)&&((Ă j a.2.2.2.2.1.1)&&((Ă k a.2.2.2.2.1.2)&&((Ă l a.2.2.2.2.2)&&true)))))))) (n b) (ck (b+(1:Int)) fun p=>m p)) (o ())
def Ŧ (b:Val f6) (a:Val Ó) (k:Int→Option ρ):Option ρ :=
  Ì (fun(c:Int) d=>ą b (Û b) a.1 a.2.1 a.2.2.1 a.2.2.2.1.1 a.2.2.2.1.2 a.2.2.2.2.1.1 a.2.2.2.2.1.2 a.2.2.2.2.2 c (fun e=>d e) (fun f=>k f) (fun _=>k (-1:Int))) (0:Int)
def ŧ (a:Val f6) (b:Val Ó):Option (Int):=Ŧ a b some
def Ŋ (a:Val f6) (b:Val Ó) (k:Bool→Option ρ):Option ρ :=
  Â (ŧ a b) fun c=>k (ige c (0:Int))
def Ġ (a:Val f6) (b:Val Ó):Option (Bool):=Ŋ a b some
def Ě (c:Val eI) (d:Int) (e:Int) (f:Int) (a:Int) (g:Int→Option ρ) (h:Int→Option ρ) (i:Unit→Option ρ):Option ρ :=
  ifb (ilt a d) (ă c a fun b=>ifb ((Ă e b.1)&&((Ă f b.2)&&true)) (h a) (ck (a+(1:Int)) fun j=>g j)) (i ())
def Ω (a:Val eI) (b:Val Ã) (k:Int→Option ρ):Option ρ :=
  Ì (fun(c:Int) d=>Ě a (Û a) b.1 b.2 c (fun e=>d e) (fun f=>k f) (fun _=>k (-1:Int))) (0:Int)
def ζ (a:Val eI) (b:Val Ã):Option (Int):=Ω a b some
def ũ (a:Val eI) (b:Val Ã) (k:Bool→Option ρ):Option ρ :=
  Â (ζ a b) fun c=>k (ige c (0:Int))
def Ĝ (a:Val eI) (b:Val Ã):Option (Bool):=ũ a b some
def č (c:Val m5) (d:Int) (e:Int) (f:Int) (g:Int) (h:Int) (a:Int) (i:Int→Option ρ) (j:Int→Option ρ) (k:Unit→Option ρ):Option ρ :=
  ifb (ilt a d) (ă c a fun b=>ifb ((Ă e b.1)&&((Ă f b.2.1.1)&&((Ă g b.2.1.2)&&((Ă h b.2.2)&&true)))) (j a) (ck (a+(1:Int)) fun l=>i l)) (k ())
def ŷ (b:Val m5) (a:Val Ō) (k:Int→Option ρ):Option ρ :=
  Ì (fun(c:Int) d=>č b (Û b) a.1 a.2.1.1 a.2.1.2 a.2.2 c (fun e=>d e) (fun f=>k f) (fun _=>k (-1:Int))) (0:Int)
def Ź (a:Val m5) (b:Val Ō):Option (Int):=ŷ a b some
def ř (a:Val m5) (b:Val Ō) (k:Bool→Option ρ):Option ρ :=
  Â (Ź a b) fun c=>k (ige c (0:Int))
def Ď (a:Val m5) (b:Val Ō):Option (Bool):=ř a b some
def amg (c:Val f6) (d:Int) (a:Int) (b:Val abq) (e:Int→Val abq→Option ρ) (f:Val abq→Option ρ):Option ρ :=
  ifb (ilt a d) (ă c a fun g=>ck (a+(1:Int)) fun h=>e h (aBM (k:=tI) (v:=.bool) g.1 true b)) (f b)
def agB (b:Val l5) (c:Val l5) (d:Int) (a:Int) (e:Int→Option ρ) (f:Bool→Option ρ) (g:Unit→Option ρ):Option ρ :=
  ifb (ilt a d) (ă b a fun h=>ă c a fun i=>ifb (ine h i) (f false) (ck (a+(1:Int)) fun j=>e j)) (g ())
def amf (b:Val l5) (c:Val l5) (d:Int) (a:Int) (e:Int→Option ρ) (f:Bool→Option ρ) (g:Unit→Option ρ):Option ρ :=
  ifb (ilt a d) (ă b a fun h=>ă c a fun i=>ifb (ine h i) (f false) (ck (a+(1:Int)) fun j=>e j)) (g ())
def aiK (g:Val eW) (h:Int) (i:Int) (j:Int) (f:Val l5) (d:Val l5) (k:Int) (l:Int) (m:Int) (n:Int) (a:Int) (c:Int→Option ρ) (e:Int→Option ρ) (o:Unit→Option ρ):Option ρ :=
  ifb (ilt a h) (ă g a fun b=>ifb (ieq i b.1) (ifb (ieq j b.2.1) (ifb (ieq k b.2.2.2.2.1) (ifb (ieq l b.2.2.2.2.2.1) (ifb ((Ă m b.2.2.2.2.2.2.1)&&((Ă n b.2.2.2.2.2.2.2)&&true)) (ifb (ine (Û f) (Û b.2.2.1)) (ck (a+(1:Int)) fun p=>c p) (Ì (fun(q:Int) r=>agB f b.2.2.1 (Û f) q (fun s=>r s) (fun t=>ifb t (ifb (ine (Û d) (Û b.2.2.2.1)) (ck (a+(1:Int)) fun u=>c u) (Ì (fun(v:Int) w=>amf d b.2.2.2.1 (Û d) v (fun x=>w x) (fun y=>ifb y (e a) (ck (a+(1:Int)) fun z=>c z)) (fun _=>e a)) (0:Int))) (ck (a+(1:Int)) fun A=>c A)) (fun _=>ifb (ine (Û d) (Û b.2.2.2.1)) (ck (a+(1:Int)) fun B=>c B) (Ì (fun(C:Int) D=>amf d b.2.2.2.1 (Û d) C (fun E=>D E) (fun F=>ifb F (e a) (ck (a+(1:Int)) fun G=>c G)) (fun _=>e a)) (0:Int)))) (0:Int))) (ck (a+(1:Int)) fun H=>c H)) (ck (a+(1:Int)) fun I=>c I)) (ck (a+(1:Int)) fun J=>c J)) (ck (a+(1:Int)) fun K=>c K)) (ck (a+(1:Int)) fun L=>c L)) (o ())
def aiL (e:Val eW) (f:Int) (c:Val eW) (b:Int) (g:Int→Option ρ) (d:Bool→Option ρ) (h:Unit→Option ρ):Option ρ :=
  ifb (ilt b f) (ă e b fun a=>Ì (fun(i:Int) j=>aiK c (Û c) a.1 a.2.1 a.2.2.1 a.2.2.2.1 a.2.2.2.2.1 a.2.2.2.2.2.1 a.2.2.2.2.2.2.1 a.2.2.2.2.2.2.2 i (fun k=>j k) (fun l=>ifb (!(ige l (0:Int))) (d false) (ck (b+(1:Int)) fun m=>g m)) (fun _=>d false)) (0:Int)) (h ())
def aiJ (b:Val f6) (c:Int) (d:Val f6) (a:Int) (e:Int→Option ρ) (f:Int→Option ρ) (g:Unit→Option ρ):Option ρ :=
  ifb (ilt a c) (ă b a fun h=>Â (Ġ d h) fun i=>ifb (!i) (f a) (ck (a+(1:Int)) fun j=>e j)) (g ())
def afa (d:Val eI) (e:Int) (f:Val abq) (g:Val eI) (a:Int) (b:Int→Option ρ) (h:Int→Option ρ) (i:Unit→Option ρ):Option ρ :=
  ifb (ilt a e) (ă d a fun c=>aNc (k:=tI) (v:=.bool) c.1 f (fun j=>ifb j (Â (Ĝ g c) fun l=>ifb (!l) (h a) (ck (a+(1:Int)) fun m=>b m)) (ck (a+(1:Int)) fun n=>b n)) (ck (a+(1:Int)) fun o=>b o)) (i ())
def agA (d:Val eI) (e:Int) (f:Val abq) (g:Val eI) (a:Int) (b:Int→Option ρ) (h:Int→Option ρ) (i:Unit→Option ρ):Option ρ :=
  ifb (ilt a e) (ă d a fun c=>aNc (k:=tI) (v:=.bool) c.1 f (fun j=>ifb j (Â (Ĝ g c) fun l=>ifb (!l) (h a) (ck (a+(1:Int)) fun m=>b m)) (ck (a+(1:Int)) fun n=>b n)) (ck (a+(1:Int)) fun o=>b o)) (i ())
def Ł (d:Val m5) (e:Int) (f:Val abq) (g:Val m5) (a:Int) (b:Int→Option ρ) (h:Int→Option ρ) (i:Unit→Option ρ):Option ρ :=
  ifb (ilt a e) (ă d a fun c=>aNc (k:=tI) (v:=.bool) c.1 f (fun j=>ifb j (Â (Ď g c) fun l=>ifb (!l) (h a) (ck (a+(1:Int)) fun m=>b m)) (ck (a+(1:Int)) fun n=>b n)) (ck (a+(1:Int)) fun o=>b o)) (i ())
def ė (d:Val m5) (e:Int) (f:Val abq) (g:Val m5) (a:Int) (b:Int→Option ρ) (h:Int→Option ρ) (i:Unit→Option ρ):Option ρ :=
  ifb (ilt a e) (ă d a fun c=>aNc (k:=tI) (v:=.bool) c.1 f (fun j=>ifb j (Â (Ď g c) fun l=>ifb (!l) (h a) (ck (a+(1:Int)) fun m=>b m)) (ck (a+(1:Int)) fun n=>b n)) (ck (a+(1:Int)) fun o=>b o)) (i ())
def aLc (b:Val Å) (a:Val Å) (k:Bool→Option ρ):Option ρ :=
  Ì (fun(d:(Val (.pair tI abq))) e=>amg b.2.1 (Û b.2.1) d.1 d.2 (fun f g=>e (f,g)) (fun c=>Ì (fun(h:Int) i=>aiL b.2.2.2.2.1 (Û b.2.2.2.2.1) a.2.2.2.2.1 h (fun j=>i j) (fun l=>k l) (fun _=>ifb ((Ă b.1.1 a.1.1)&&((Ă b.1.2 a.1.2)&&true)) (Ì (fun(m:Int) n=>aiJ b.2.1 (Û b.2.1) a.2.1 m (fun o=>n o) (fun p=>ifb (!(ige p (0:Int))) (Ì (fun(q:Int) r=>afa b.2.2.1 (Û b.2.2.1) c a.2.2.1 q (fun s=>r s) (fun t=>ifb (!(ige t (0:Int))) (Ì (fun(u:Int) v=>agA a.2.2.1 (Û a.2.2.1) c b.2.2.1 u (fun w=>v w) (fun x=>ifb (!(ige x (0:Int))) (Ì (fun(y:Int) z=>Ł b.2.2.2.1 (Û b.2.2.2.1) c a.2.2.2.1 y (fun A=>z A) (fun B=>ifb (!(ige B (0:Int))) (Ì (fun(C:Int) D=>ė a.2.2.2.1 (Û a.2.2.2.1) c b.2.2.2.1 C (fun E=>D E) (fun F=>k (!(ige F (0:Int)))) (fun _=>k true)) (0:Int)) (k false)) (fun _=>Ì (fun(G:Int) H=>ė a.2.2.2.1 (Û a.2.2.2.1) c b.2.2.2.1 G (fun I=>H I) (fun J=>k (!(ige J (0:Int)))) (fun _=>k true)) (0:Int))) (0:Int)) (k false)) (fun _=>Ì (fun(K:Int) L=>Ł b.2.2.2.1 (Û b.2.2.2.1) c a.2.2.2.1 K (fun M=>L M) (fun N=>ifb (!(ige N (0:Int))) (Ì (fun(O:Int) P=>ė a.2.2.2.1 (Û a.2.2.2.1) c b.2.2.2.1 O (fun Q=>P Q) (fun R=>k (!(ige R (0:Int)))) (fun _=>k true)) (0:Int)) (k false)) (fun _=>Ì (fun(S:Int) T=>ė a.2.2.2.1 (Û a.2.2.2.1) c b.2.2.2.1 S (fun U=>T U) (fun V=>k (!(ige V (0:Int)))) (fun _=>k true)) (0:Int))) (0:Int))) (0:Int)) (k false)) (fun _=>Ì (fun(W:Int) X=>agA a.2.2.1 (Û a.2.2.1) c b.2.2.1 W (fun Y=>X Y) (fun Z=>ifb (!(ige Z (0:Int))) (Ì (fun(v124:Int) kk126=>Ł b.2.2.2.1 (Û b.2.2.2.1) c a.2.2.2.1 v124 (fun u125=>kk126 u125) (fun z112=>ifb (!(ige z112 (0:Int))) (Ì (fun(v115:Int) kk117=>ė a.2.2.2.1 (Û a.2.2.2.1) c b.2.2.2.1 v115 (fun u116=>kk117 u116) (fun z113=>k (!(ige z113 (0:Int)))) (fun _=>k true)) (0:Int)) (k false)) (fun _=>Ì (fun(v121:Int) kk123=>ė a.2.2.2.1 (Û a.2.2.2.1) c b.2.2.2.1 v121 (fun u122=>kk123 u122) (fun z119=>k (!(ige z119 (0:Int)))) (fun _=>k true)) (0:Int))) (0:Int)) (k false)) (fun _=>Ì (fun(v140:Int) kk142=>Ł b.2.2.2.1 (Û b.2.2.2.1) c a.2.2.2.1 v140 (fun u141=>kk142 u141) (fun z128=>ifb (!(ige z128 (0:Int))) (Ì (fun(v131:Int) kk133=>ė a.2.2.2.1 (Û a.2.2.2.1) c b.2.2.2.1 v131 (fun u132=>kk133 u132) (fun z129=>k (!(ige z129 (0:Int)))) (fun _=>k true)) (0:Int)) (k false)) (fun _=>Ì (fun(v137:Int) kk139=>ė a.2.2.2.1 (Û a.2.2.2.1) c b.2.2.2.1 v137 (fun u138=>kk139 u138) (fun z135=>k (!(ige z135 (0:Int)))) (fun _=>k true)) (0:Int))) (0:Int))) (0:Int))) (0:Int)) (k false)) (fun _=>Ì (fun(v222:Int) kk224=>afa b.2.2.1 (Û b.2.2.1) c a.2.2.1 v222 (fun u223=>kk224 u223) (fun z150=>ifb (!(ige z150 (0:Int))) (Ì (fun(v183:Int) kk185=>agA a.2.2.1 (Û a.2.2.1) c b.2.2.1 v183 (fun u184=>kk185 u184) (fun z151=>ifb (!(ige z151 (0:Int))) (Ì (fun(v164:Int) kk166=>Ł b.2.2.2.1 (Û b.2.2.2.1) c a.2.2.2.1 v164 (fun u165=>kk166 u165) (fun z152=>ifb (!(ige z152 (0:Int))) (Ì (fun(v155:Int) kk157=>ė a.2.2.2.1 (Û a.2.2.2.1) c b.2.2.2.1 v155 (fun u156=>kk157 u156) (fun z153=>k (!(ige z153 (0:Int)))) (fun _=>k true)) (0:Int)) (k false)) (fun _=>Ì (fun(v161:Int) kk163=>ė a.2.2.2.1 (Û a.2.2.2.1) c b.2.2.2.1 v161 (fun u162=>kk163 u162) (fun z159=>k (!(ige z159 (0:Int)))) (fun _=>k true)) (0:Int))) (0:Int)) (k false)) (fun _=>Ì (fun(v180:Int) kk182=>Ł b.2.2.2.1 (Û b.2.2.2.1) c a.2.2.2.1 v180 (fun u181=>kk182 u181) (fun z168=>ifb (!(ige z168 (0:Int))) (Ì (fun(v171:Int) kk173=>ė a.2.2.2.1 (Û a.2.2.2.1) c b.2.2.2.1 v171 (fun u172=>kk173 u172) (fun z169=>k (!(ige z169 (0:Int)))) (fun _=>k true)) (0:Int)) (k false)) (fun _=>Ì (fun(v177:Int) kk179=>ė a.2.2.2.1 (Û a.2.2.2.1) c b.2.2.2.1 v177 (fun u178=>kk179 u178) (fun z175=>k (!(ige z175 (0:Int)))) (fun _=>k true)) (0:Int))) (0:Int))) (0:Int)) (k false)) (fun _=>Ì (fun(v219:Int) kk221=>agA a.2.2.1 (Û a.2.2.1) c b.2.2.1 v219 (fun u220=>kk221 u220) (fun z187=>ifb (!(ige z187 (0:Int))) (Ì (fun(v200:Int) kk202=>Ł b.2.2.2.1 (Û b.2.2.2.1) c a.2.2.2.1 v200 (fun u201=>kk202 u201) (fun z188=>ifb (!(ige z188 (0:Int))) (Ì (fun(v191:Int) kk193=>ė a.2.2.2.1 (Û a.2.2.2.1) c b.2.2.2.1 v191 (fun u192=>kk193 u192) (fun z189=>k (!(ige z189 (0:Int)))) (fun _=>k true)) (0:Int)) (k false)) (fun _=>Ì (fun(v197:Int) kk199=>ė a.2.2.2.1 (Û a.2.2.2.1) c b.2.2.2.1 v197 (fun u198=>kk199 u198) (fun z195=>k (!(ige z195 (0:Int)))) (fun _=>k true)) (0:Int))) (0:Int)) (k false)) (fun _=>Ì (fun(v216:Int) kk218=>Ł b.2.2.2.1 (Û b.2.2.2.1) c a.2.2.2.1 v216 (fun u217=>kk218 u217) (fun z204=>ifb (!(ige z204 (0:Int))) (Ì (fun(v207:Int) kk209=>ė a.2.2.2.1 (Û a.2.2.2.1) c b.2.2.2.1 v207 (fun u208=>kk209 u208) (fun z205=>k (!(ige z205 (0:Int)))) (fun _=>k true)) (0:Int)) (k false)) (fun _=>Ì (fun(v213:Int) kk215=>ė a.2.2.2.1 (Û a.2.2.2.1) c b.2.2.2.1 v213 (fun u214=>kk215 u214) (fun z211=>k (!(ige z211 (0:Int)))) (fun _=>k true)) (0:Int))) (0:Int))) (0:Int))) (0:Int))) (0:Int)) (k false))) (0:Int))) ((0:Int),[])
def awB (a:Val Å) (b:Val Å):Option (Bool):=aLc a b some
def axV (b:Val Å) (a:Val κ) (k:Val abW→Option ρ):Option ρ :=
  Â (ā b) fun c=>ifb (ine c (0:Int)) (k (false,c)) (ifb ((Ă a.2.1.1 (0:Int))&&((Ă a.2.1.2 (0:Int))&&true)) (Â (agX a) fun d=>ifb (ine d (0:Int)) (k (false,d)) (Â (awB a.1 b) fun f=>k (f,(0:Int)))) (Â (af1 a) fun e=>ifb (ine e (0:Int)) (k (false,e)) (Â (awB a.1 b) fun g=>k (g,(0:Int)))))
def aqx (a:Val Å) (b:Val κ):Option ((Val abW)):=axV a b some
def asF (k:Bool→Option ρ):Option ρ :=
  Â apC fun a=>Â (afp a ((2:Int),(10:Int))) fun c=>Â (afp a ((1:Int),(30:Int))) fun d=>Â (ai4 a ((1:Int),(10:Int)) ((2:Int),(10:Int))) fun e=>Â (aB1 a (10:Int) ([(1:Int),(2:Int)])) fun f=>Â (awE a ((2:Int),(0:Int)) ((990:Int),(1010:Int))) fun g=>Â (am4 a ((2:Int),(10:Int)) true) fun b=>ifb (ine c.2 (0:Int)) (k false) (ifb (ine d.2 (0:Int)) (k false) (ifb (ine e.2 (0:Int)) (k false) (ifb (ine f.2 (0:Int)) (k false) (ifb (ine g.2 (0:Int)) (k false) (ifb (ine b.2 (0:Int)) (k false) (ifb (!((Ă c.1.1 (984:Int))&&((Ă c.1.2 (1011:Int))&&true))) (k false) (ifb (!((Ă d.1.1 (964:Int))&&((Ă d.1.2 (1005:Int))&&true))) (k false) (ifb (!((Ă e.1.1 (-6:Int))&&((Ă e.1.2 (11:Int))&&true))) (k false) (ifb (!((Ă f.1.1 (1979:Int))&&((Ă f.1.2 (2018:Int))&&true))) (k false) (ifb (ine g.1 (3:Int)) (k false) (ifb (ine b.1.2.2.2.1 (1011:Int)) (k false) (Â (apF a ((2:Int),(10:Int)) ((8:Int),(10:Int),[(1:Int)],[(2:Int)],(0:Int),(0:Int),(0:Int),(0:Int))) fun h=>Â (ai3 a ((2:Int),(10:Int)) ((900:Int),(1100:Int)) ((8:Int),(10:Int),[(1:Int)],[(2:Int)],(0:Int),(0:Int),(0:Int),(0:Int))) fun i=>Â (aqx a b.1) fun j=>Â (awF a) fun l=>ifb (ieq h.2 (0:Int)) (ifb (ieq i.2 (0:Int)) (ifb (ieq j.2 (0:Int)) (ifb (ieq l.2 (5:Int)) (ifb (ieq h.1 (10:Int)) (ifb i.1 (ifb j.1 (Â (af1 b.1) fun m=>k (ieq m (0:Int))) (k false)) (k false)) (k false)) (k false)) (k false)) (k false)) (k false)))))))))))))
def Ï:Option (Bool):=asF some
def ajQ (c:Int) (d:Int) (e:Val wi) (a:Int) (b:Val l5) (f:Int→Val l5→Option ρ) (g:Val l5→Option ρ):Option ρ :=
  ifb (ilt a c) (Â (aiq (d,e) ([]) a) fun h=>ă h (0:Int) fun i=>ï ((ile (0:Int) a)&&(ilt a (Đ b))) (Ň b (Int.toNat a) fun k=>ck (a+(1:Int)) fun j=>f j (List.set b (Int.toNat a) i))) (g b)
def ajP (f:Val l5) (g:Int) (c:Val l5) (a:Int) (b:Val eI) (h:Int→Val eI→Option ρ) (i:Val eI→Option ρ):Option ρ :=
  ifb (ilt a g) (ï ((ile (0:Int) a)&&(ilt a (Đ c))) (Ň c (Int.toNat a) fun j=>ck (0-j) fun d=>ă f a fun e=>ï (ì ((List.length b)+(List.length ([(d,e)])))) (ck (a+(1:Int)) fun k=>h k (b++([(d,e)]))))) (i b)
def aEh (a:Val Ð) (k:Val abT→Option ρ):Option ρ :=
  Â (apH a ([])) fun b=>ifb (ine b (0:Int)) (k ([],b)) (Â (aiq a ([]) (0:Int)) fun c=>ï ((ile (0:Int) a.1)&&(ì (Int.toNat a.1))) (Ì (fun(d:Val abv) f=>ajQ (Û (List.replicate (Int.toNat a.1) (0:Int))) a.1 a.2 d.1 d.2 (fun g h=>f (g,h)) (fun i=>Ì (fun(e:Val abG) j=>ajP c (Û c) i e.1 e.2 (fun l m=>j (l,m)) (fun n=>k (n,(0:Int)))) ((0:Int),[]))) ((0:Int),(List.replicate (Int.toNat a.1) (0:Int)))))
def awH (a:Val Ð):Option ((Val abT)):=aEh a some
def ahA (a:Int) (b:Int) (d:Int→Option ρ) (c:Unit→Option ρ):Option ρ :=
  ifb (ilt b a) (none) (c ())
def amo (c:Val Å) (k:Val abT→Option ρ):Option ρ :=
  Â (ā c) fun b=>ifb (ine b (0:Int)) (ï (ine b (0:Int)) (k ([],b))) (Ì (fun(e:Int) f=>ahA (0:Int) e (fun g=>f g) (fun _=>Â (ħ c) fun a=>ifb (ine a.2.2 (0:Int)) (ï (ine a.2.2 (0:Int)) (k ([],a.2.2))) (Â (Ė a.1) fun h=>ifb (!h.1) (k ([],(9:Int))) (Â (awH a.1) fun d=>ï (ile (1:Int) (Đ d.1)) (k ((List.drop 1 d.1),(0:Int))))))) (0:Int))
def ah8 (a:Val Å):Option ((Val abT)):=amo a some
def aol (a:Val Ã) (b:Int) (c:Int) (k:Bool→Option ρ):Option ρ :=
  ifb (ile b a.1) (ifb (ile a.1 a.2) (k (ile a.2 c)) (k false)) (k false)
def aei (a:Val Ã) (b:Int) (c:Int):Option (Bool):=aol a b c some
def aRu (a:Int) (b:Int) (c:Int) (k:Bool→Option ρ):Option ρ :=
  ifb (ige a b) (k (ile a c)) (k false)
def afY (a:Int) (b:Int) (c:Int):Option (Bool):=aRu a b c some
def aKL (a:Int) (k:Bool→Option ρ):Option ρ :=
  Â (afY a (0:Int) (20000:Int)) fun b=>k b
def am2 (a:Int):Option (Bool):=aKL a some
def amd (b:Int) (a:Int) (c:Int→Int→Option ρ) (d:Int→Option ρ):Option ρ :=
  ifb (ine a (0:Int)) (ifb (Ă a 0) (none) (c a (Int.tmod b a))) (d b)
def aKW (b:Int) (c:Int) (k:Int→Option ρ):Option ρ :=
  Ì (fun(a:Val Ã) d=>amd a.1 a.2 (fun e f=>d (e,f)) (fun g=>k g)) (b,c)
def aqv (a:Int) (b:Int):Option (Int):=aKW a b some
def aK0 (a:Int) (k:Int→Option ρ):Option ρ :=
  ifb (ilt a (0:Int)) (ck ((0:Int)-a) fun b=>k b) (k a)
def awA (a:Int):Option (Int):=aK0 a some
def axH (a:Val Ã) (k:Bool→Option ρ):Option ρ :=
  ifb (ilt a.2 (1:Int)) (k false) (ifb (igt a.2 (2147483647:Int)) (k false) (ifb (ilt a.1 (-2147483647:Int)) (k false) (ifb (igt a.1 (2147483647:Int)) (k false) (Â (awA a.1) fun b=>Â (aqv b a.2) fun c=>k (ieq c (1:Int))))))
def aqt (a:Val Ã):Option (Bool):=axH a some
def axy (a:Val Ó) (k:Bool→Option ρ):Option ρ :=
  Â (aqt a.2.2.2.2.1) fun b=>ifb (!b) (k false) (Â (afY a.2.2.2.2.1.1 (-1000:Int) (1000:Int)) fun c=>ifb (!c) (k false) (ifb (igt a.2.2.2.2.1.2 (100:Int)) (k false) (Â (afY a.1 (1:Int) (1099511627776:Int)) fun d=>ifb d (Â (am2 a.2.1) fun e=>ifb e (Â (afY a.2.2.1 (1:Int) (1125899906842624:Int)) fun f=>ifb f (Â (aei a.2.2.2.1 (-1073741824:Int) (1073741824:Int)) fun g=>ifb g (Â (afY a.2.2.2.2.2 (0:Int) (1048576:Int)) fun h=>k h) (k false)) (k false)) (k false)) (k false))))
def aqr (a:Val Ó):Option (Bool):=axy a some
def ajA (c:Int) (b:Val f6) (a:Int) (d:Int→Option ρ) (e:Int→Option ρ) (f:Unit→Option ρ):Option ρ :=
  ifb (ilt a (Û b)) (ă b a fun g=>ifb (ieq g.1 c) (e a) (ck (a+(1:Int)) fun h=>d h)) (f ())
def aDp (a:Val Å) (b:Int) (k:Int→Option ρ):Option ρ :=
  Ì (fun(c:Int) d=>ajA b a.2.1 c (fun e=>d e) (fun f=>k f) (fun _=>k (-1:Int))) (0:Int)
def aiZ (a:Val Å) (b:Int):Option (Int):=aDp a b some
def axA (a:Val Å) (c:Int) (d:Int) (k:Int→Option ρ):Option ρ :=
  Â (aiZ a c) fun b=>ifb (ilt b (0:Int)) (k (5:Int)) (ă a.2.1 b fun e=>ifb (ilt d e.2.1) (k (4:Int)) (k (0:Int)))
def agG (a:Val Å) (b:Int) (c:Int):Option (Int):=axA a b c some
def ajq (e:Int) (f:Int) (g:Val f6) (a:Val eI) (h:Val m5) (i:Val eW) (j:Val eI) (b:Int) (k:Int→Option ρ) (c:Int→Option ρ) (l:Unit→Option ρ):Option ρ :=
  ifb (ilt b (Û a)) (ă a b fun m=>Â (am2 m.2) fun n=>ifb (!n) (c (1:Int)) (ă a b fun o=>ă a b fun p=>Â (agG ((e,f),g,a,h,i,j) o.1 p.2) fun d=>ifb (ine d (0:Int)) (c d) (ck (b+(1:Int)) fun q=>k q))) (l ())
def aCS (a:Val Å) (k:Int→Option ρ):Option ρ :=
  Ì (fun(b:Int) c=>ajq a.1.1 a.1.2 a.2.1 a.2.2.1 a.2.2.2.1 a.2.2.2.2.1 a.2.2.2.2.2 b (fun d=>c d) (fun e=>k e) (fun _=>k (0:Int))) (0:Int)
def awv (a:Val Å):Option (Int):=aCS a some
def ahS (d:Int) (b:Val m5) (e:Int) (f:Int) (g:Int) (a:Int) (c:Int→Option ρ) (h:Int→Option ρ) (i:Unit→Option ρ):Option ρ :=
  ifb (ilt a d) (ă b a fun j=>ifb (ieq j.1 e) (ă b a fun k=>ifb (ile k.2.1.1 g) (ă b a fun l=>ifb (ile f l.2.1.2) (h (9:Int)) (ck (a+(1:Int)) fun m=>c m)) (ck (a+(1:Int)) fun n=>c n)) (ck (a+(1:Int)) fun o=>c o)) (i ())
def afL (b:Val eI) (d:Int) (e:Int) (f:Int) (a:Int) (c:Int→Option ρ) (g:Int→Option ρ) (h:Unit→Option ρ):Option ρ :=
  ifb (ilt a (Û b)) (ă b a fun i=>ifb (ieq i.1 d) (ă b a fun j=>Â (afY j.2 e f) fun k=>ifb k (g (9:Int)) (ck (a+(1:Int)) fun l=>c l)) (ck (a+(1:Int)) fun m=>c m)) (h ())
def ahT (g:Int) (h:Int) (i:Val f6) (e:Val eI) (c:Val m5) (j:Val eW) (k:Val eI) (d:Int) (l:Int→Option ρ) (b:Int→Option ρ) (m:Unit→Option ρ):Option ρ :=
  ifb (ilt d (Û c)) (ă c d fun a=>Â (aei a.2.1 (0:Int) (20000:Int)) fun n=>ifb (!n) (b (1:Int)) (Â (afY a.2.2 (0:Int) (1048576:Int)) fun o=>ifb (!o) (b (1:Int)) (Â (agG ((g,h),i,e,c,j,k) a.1 a.2.1.1) fun f=>ifb (ine f (0:Int)) (b f) (Ì (fun(p:Int) q=>ahS d c a.1 a.2.1.1 a.2.1.2 p (fun r=>q r) (fun s=>b s) (fun _=>Ì (fun(t:Int) u=>afL e a.1 a.2.1.1 a.2.1.2 t (fun v=>u v) (fun w=>b w) (fun _=>ck (d+(1:Int)) fun x=>l x)) (0:Int))) (0:Int))))) (m ())
def axw (a:Val Å) (k:Int→Option ρ):Option ρ :=
  Ì (fun(b:Int) c=>ahT a.1.1 a.1.2 a.2.1 a.2.2.1 a.2.2.2.1 a.2.2.2.2.1 a.2.2.2.2.2 b (fun d=>c d) (fun e=>k e) (fun _=>k (0:Int))) (0:Int)
def aqq (a:Val Å):Option (Int):=axw a some
def ajw (b:Val l5) (a:Int) (c:Int→Option ρ) (d:Bool→Option ρ) (e:Unit→Option ρ):Option ρ :=
  ifb (ilt a (Û b)) (ă b a fun f=>Â (afY f (1:Int) (1099511627776:Int)) fun g=>ifb (!g) (d false) (ifb (igt a (0:Int)) (ă b a fun h=>ck (a-(1:Int)) fun i=>ă b i fun j=>ifb (ile h j) (d false) (ck (a+(1:Int)) fun k=>c k)) (ck (a+(1:Int)) fun l=>c l))) (e ())
def aC6 (a:Val l5) (k:Bool→Option ρ):Option ρ :=
  Ì (fun(b:Int) c=>ajw a b (fun d=>c d) (fun e=>k e) (fun _=>k (ile (Û a) (6:Int)))) (0:Int)
def apD (a:Val l5):Option (Bool):=aC6 a some
def axv (a:Val Í) (k:Bool→Option ρ):Option ρ :=
  Â (apD a.2.2.1) fun b=>Â (apD a.2.2.2.1) fun c=>ifb b (ifb c (Â (afY a.1 (1:Int) (1099511627776:Int)) fun d=>ifb d (Â (am2 a.2.1) fun e=>ifb e (Â (afY a.2.2.2.2.1 (-1125899906842624:Int) (1125899906842624:Int)) fun f=>ifb f (Â (afY a.2.2.2.2.2.1 (0:Int) (1073741824:Int)) fun g=>ifb g (Â (aei a.2.2.2.2.2.2 (-10000:Int) (10000:Int)) fun h=>k h) (k false)) (k false)) (k false)) (k false)) (k false)) (k false)
def aqp (a:Val Í):Option (Bool):=axv a some
def ajy (j:Int) (h:Int) (i:Val m5) (b:Int) (c:Int) (d:Int) (e:Int) (f:Int) (g:Int→Int→Int→Int→Int→Option ρ) (k:(Val (.pair .bool (.pair tI Ĉ)))→Option ρ) (l:(Val (.pair tI Ĉ))→Option ρ):Option ρ :=
  ifb (ilt b (Û i)) (ă i b fun a=>ifb (ieq a.1 j) (ifb (ile a.2.1.1 h) (ifb (ile h a.2.1.2) (k (true,a.1,a.2.1.1,a.2.1.2,a.2.2)) (ck (b+(1:Int)) fun m=>g m c d e f)) (ck (b+(1:Int)) fun n=>g n c d e f)) (ck (b+(1:Int)) fun o=>g o c d e f)) (l (c,d,e,f))
def aDi (c:Val Å) (d:Int) (e:Int) (k:Val ab3→Option ρ):Option ρ :=
  Ì (fun(a:Val ab8) f=>ajy d e c.2.2.2.1 a.1 a.2.1 a.2.2.1 a.2.2.2.1 a.2.2.2.2 (fun g h i j l=>f (g,h,i,j,l)) (fun b=>k ((b.2.1,(b.2.2.1,b.2.2.2.1),b.2.2.2.2),b.1)) (fun m=>k (((0:Int),((0:Int),(0:Int)),(0:Int)),false))) ((0:Int),(0:Int),(0:Int),(0:Int),(0:Int))
def apE (a:Val Å) (b:Int) (c:Int):Option ((Val ab3)):=aDi a b c some
def amc (b:Val l5) (c:Int) (a:Int) (d:Int→Option ρ) (e:Bool→Option ρ) (f:Unit→Option ρ):Option ρ :=
  ifb (ilt a (Û b)) (ă b a fun g=>ifb (ieq g c) (e true) (ck (a+(1:Int)) fun h=>d h)) (f ())
def aKI (a:Val l5) (b:Int) (k:Bool→Option ρ):Option ρ :=
  Ì (fun(c:Int) d=>amc a b c (fun e=>d e) (fun f=>k f) (fun _=>k false)) (0:Int)
def aBY (a:Val l5) (b:Int):Option (Bool):=aKI a b some
def ajz (c:Val l5) (f:Val l5) (a:Int) (b:Val l5) (d:Int→Val l5→Option ρ) (g:Val l5→Option ρ):Option ρ :=
  ifb (ilt a (Û c)) (ă c a fun h=>Â (aBY f h) fun i=>ifb (!i) (ă c a fun e=>ï (ì ((List.length b)+(List.length ([e])))) (ck (a+(1:Int)) fun j=>d j (b++([e])))) (ck (a+(1:Int)) fun k=>d k b)) (g b)
def aDk (b:Val l5) (c:Val l5) (k:Val l5→Option ρ):Option ρ :=
  Ì (fun(a:Val abv) d=>ajz b c a.1 a.2 (fun e f=>d (e,f)) (fun g=>k g)) ((0:Int),[])
def aeN (a:Val l5) (b:Val l5):Option ((Val l5)):=aDk a b some
def aeV (c:Int) (d:Int) (e:Val f6) (f:Val eI) (g:Val m5) (h:Val eW) (i:Val eI) (b:Val l5) (a:Int) (j:Int→Option ρ) (k:Int→Option ρ) (l:Unit→Option ρ):Option ρ :=
  ifb (ilt a (Û b)) (ï ((ile (0:Int) a)&&(ilt a (Đ b))) (Ň b (Int.toNat a) fun m=>Â (aiZ ((c,d),e,f,g,h,i) m) fun n=>ifb (ilt n (0:Int)) (k (5:Int)) (ck (a+(1:Int)) fun o=>j o))) (l ())
def adT (c:Int) (d:Int) (e:Val f6) (f:Val eI) (g:Val m5) (h:Val eW) (i:Val eI) (j:Int) (b:Val l5) (a:Int) (k:Int→Option ρ) (l:Int→Option ρ) (m:Unit→Option ρ):Option ρ :=
  ifb (ilt a (Û b)) (ï ((ile (0:Int) a)&&(ilt a (Đ b))) (Ň b (Int.toNat a) fun n=>Â (agG ((c,d),e,f,g,h,i) n j) fun o=>ifb (ine o (0:Int)) (l (4:Int)) (ck (a+(1:Int)) fun p=>k p))) (m ())
def Ζ (c:Int) (d:Int) (e:Val f6) (f:Val eI) (g:Val m5) (h:Val eW) (i:Val eI) (j:Int) (b:Val l5) (a:Int) (k:Int→Option ρ) (l:Int→Option ρ) (m:Unit→Option ρ):Option ρ :=
  ifb (ilt a (Û b)) (ï ((ile (0:Int) a)&&(ilt a (Đ b))) (Ň b (Int.toNat a) fun n=>Â (apE ((c,d),e,f,g,h,i) n j) fun o=>ifb o.2 (l (9:Int)) (ck (a+(1:Int)) fun p=>k p))) (m ())
def al8 (a:Val Å) (b:Val Í) (k:Int→Option ρ):Option ρ :=
  ï (ì (0+(List.length b.2.2.1))) (ï (ì ((List.length (([])++b.2.2.1))+(List.length b.2.2.2.1))) (Ì (fun(e:Int) f=>aeV a.1.1 a.1.2 a.2.1 a.2.2.1 a.2.2.2.1 a.2.2.2.2.1 a.2.2.2.2.2 ((([])++b.2.2.1)++b.2.2.2.1) e (fun g=>f g) (fun h=>k h) (fun _=>Ì (fun(i:Int) j=>adT a.1.1 a.1.2 a.2.1 a.2.2.1 a.2.2.2.1 a.2.2.2.2.1 a.2.2.2.2.2 b.2.1 ((([])++b.2.2.1)++b.2.2.2.1) i (fun l=>j l) (fun m=>k m) (fun _=>Ì (fun(n:Int) o=>Ζ a.1.1 a.1.2 a.2.1 a.2.2.1 a.2.2.2.1 a.2.2.2.2.1 a.2.2.2.2.2 b.2.1 ((([])++b.2.2.1)++b.2.2.2.1) n (fun p=>o p) (fun q=>k q) (fun _=>Â (aeN b.2.2.1 b.2.2.2.1) fun c=>Â (aeN b.2.2.2.1 b.2.2.1) fun d=>ifb (igt (Û c) (1:Int)) (k (1:Int)) (ifb (igt (Û d) (1:Int)) (k (1:Int)) (ck ((Û c)+(Û d)) fun r=>ifb (ieq r (0:Int)) (k (1:Int)) (k (0:Int)))))) (0:Int))) (0:Int))) (0:Int)))
def aew (a:Val Å) (b:Val Í):Option (Int):=al8 a b some
def aKo (b:Val l5) (c:Val l5) (k:Int→Option ρ):Option ρ :=
  Â (aeN b c) fun a=>ifb (ieq (Û a) (0:Int)) (k (0:Int)) (ă a (0:Int) fun d=>k d)
def ah7 (a:Val l5) (b:Val l5):Option (Int):=aKo a b some
def aju (g:Int) (c:Val eW) (d:Int) (b:Int) (e:Int→Option ρ) (f:Bool→Option ρ) (h:Unit→Option ρ):Option ρ :=
  ifb (ilt b (Û c)) (ă c b fun a=>ifb (ieq a.2.1 g) (Â (ah7 a.2.2.1 a.2.2.2.1) fun i=>ifb (ieq i d) (f true) (Â (ah7 a.2.2.2.1 a.2.2.1) fun j=>ifb (ieq j d) (f true) (ck (b+(1:Int)) fun k=>e k))) (ck (b+(1:Int)) fun l=>e l)) (h ())
def aha (d:Int) (b:Val eI) (e:Int) (a:Int) (c:Int→Option ρ) (f:Bool→Option ρ) (g:Unit→Option ρ):Option ρ :=
  ifb (ilt a (Û b)) (ă b a fun h=>ifb (ieq h.1 e) (ă b a fun i=>ifb (ieq i.2 d) (f true) (ck (a+(1:Int)) fun j=>c j)) (ck (a+(1:Int)) fun k=>c k)) (g ())
def aCZ (c:Val Å) (a:Val Ó) (b:Int) (k:Bool→Option ρ):Option ρ :=
  ifb (ieq a.2.1 b) (k true) (Ì (fun(d:Int) e=>aju b c.2.2.2.2.1 a.1 d (fun f=>e f) (fun g=>k g) (fun _=>Ì (fun(h:Int) i=>aha b c.2.2.2.2.2 a.1 h (fun j=>i j) (fun l=>k l) (fun _=>k false)) (0:Int))) (0:Int))
def aww (a:Val Å) (b:Val Ó) (c:Int):Option (Bool):=aCZ a b c some
def ahX (c:Val f6) (a:Int) (b:Val l5) (e:Int→Val l5→Option ρ) (f:Val l5→Option ρ):Option ρ :=
  ifb (ilt a (Û c)) (ă c a fun d=>ï (ì ((List.length b)+(List.length ([d.2.1])))) (ck (a+(1:Int)) fun g=>e g (b++([d.2.1])))) (f b)
def ahW (c:Val eW) (a:Int) (b:Val l5) (e:Int→Val l5→Option ρ) (f:Val l5→Option ρ):Option ρ :=
  ifb (ilt a (Û c)) (ă c a fun d=>ï (ì ((List.length b)+(List.length ([d.2.1])))) (ck (a+(1:Int)) fun g=>e g (b++([d.2.1])))) (f b)
def ahV (c:Val eI) (a:Int) (b:Val l5) (e:Int→Val l5→Option ρ) (f:Val l5→Option ρ):Option ρ :=
  ifb (ilt a (Û c)) (ă c a fun d=>ï (ì ((List.length b)+(List.length ([d.2])))) (ck (a+(1:Int)) fun g=>e g (b++([d.2])))) (f b)
def afM (e:Int) (b:Val l5) (c:Int) (a:Int) (d:Int→Int→Option ρ) (f:Int→Option ρ):Option ρ :=
  ifb (ilt a (Û b)) (ï ((ile (0:Int) a)&&(ilt a (Đ b))) (Ň b (Int.toNat a) fun g=>ifb (igt g e) (ï ((ile (0:Int) a)&&(ilt a (Đ b))) (Ň b (Int.toNat a) fun h=>ck (a+(1:Int)) fun i=>d (aMt c h) i)) (ck (a+(1:Int)) fun j=>d c j))) (f c)
def afN (e:Int) (i:Int) (j:Int) (c:Val f6) (k:Val eI) (l:Val m5) (m:Val eW) (n:Val eI) (o:Val l5) (f:Int) (b:Val eI) (d:Int→Val eI→Option ρ) (p:Val eI→Option ρ):Option ρ :=
  ifb (ilt f (20001:Int)) (Ì (fun(g:Val Ã) q=>afM f o g.1 g.2 (fun r s=>q (r,s)) (fun a=>ifb (ilt a (20001:Int)) (ă c e fun t=>Â (aww ((i,j),c,k,l,m,n) t a) fun u=>ifb u (ă c e fun h=>ï (ì ((List.length b)+(List.length ([(h.1,a)])))) (d a (b++([(h.1,a)])))) (d a b)) (d a b))) ((20001:Int),(0:Int))) (p b)
def ahU (e:Int) (f:Int) (b:Val f6) (g:Val eI) (h:Val m5) (i:Val eW) (j:Val eI) (k:Val l5) (a:Int) (c:Val eI) (l:Int→Val eI→Option ρ) (m:Val eI→Option ρ):Option ρ :=
  ifb (ilt a (Û b)) (Ì (fun(d:Val abG) n=>afN a e f b g h i j k d.1 d.2 (fun o p=>n (o,p)) (fun q=>ck (a+(1:Int)) fun r=>l r q)) ((-1:Int),c)) (m c)
def axB (a:Val Å) (k:Val eI→Option ρ):Option ρ :=
  Ì (fun(b:Val abv) f=>ahX a.2.1 b.1 b.2 (fun g h=>f (g,h)) (fun i=>Ì (fun(c:Val abv) j=>ahW a.2.2.2.2.1 c.1 c.2 (fun l m=>j (l,m)) (fun n=>Ì (fun(d:Val abv) o=>ahV a.2.2.2.2.2 d.1 d.2 (fun p q=>o (p,q)) (fun r=>Ì (fun(e:Val abG) s=>ahU a.1.1 a.1.2 a.2.1 a.2.2.1 a.2.2.2.1 a.2.2.2.2.1 a.2.2.2.2.2 r e.1 e.2 (fun t u=>s (t,u)) (fun v=>k v)) ((0:Int),[]))) ((0:Int),n))) ((0:Int),i))) ((0:Int),[])
def aex (a:Val Å):Option ((Val eI)):=axB a some
def ahY (b:Val eI) (d:Int) (e:Int) (a:Int) (f:Int→Option ρ) (g:Int→Option ρ) (h:Unit→Option ρ):Option ρ :=
  ifb (ilt a (Û b)) (ă b a fun c=>ifb ((Ă c.1 d)&&((Ă c.2 e)&&true)) (ck (a+(1:Int)) fun i=>g i) (ck (a+(1:Int)) fun j=>f j)) (h ())
def axC (b:Val Å) (a:Val Ã) (k:Int→Option ρ):Option ρ :=
  Â (aex b) fun c=>Ì (fun(d:Int) e=>ahY c a.1 a.2 d (fun f=>e f) (fun g=>k g) (fun _=>k (0:Int))) (0:Int)
def Œ (a:Val Å) (b:Val Ã):Option (Int):=axC a b some
def ajv (d:Int) (e:Int) (b:Val eI) (a:Int) (c:Int→Option ρ) (f:Bool→Option ρ) (g:Unit→Option ρ):Option ρ :=
  ifb (ilt a (Û b)) (ă b a fun h=>ifb (ieq h.1 d) (ă b a fun i=>ifb (ieq i.2 e) (f true) (ck (a+(1:Int)) fun j=>c j)) (ck (a+(1:Int)) fun k=>c k)) (g ())
def aC1 (a:Val Å) (b:Int) (c:Int) (k:Bool→Option ρ):Option ρ :=
  Ì (fun(d:Int) e=>ajv b c a.2.2.1 d (fun f=>e f) (fun g=>k g) (fun _=>k false)) (0:Int)
def awx (a:Val Å) (b:Int) (c:Int):Option (Bool):=aC1 a b c some
def ajx (d:Int) (m:Int) (n:Int) (e:Int) (f:Int) (g:Val f6) (h:Val eI) (i:Val m5) (j:Val eW) (k:Val eI) (b:Int) (a:Int) (c:Int→Int→Option ρ) (o:Int→Option ρ):Option ρ :=
  ifb (ilt a m) (Â (apE ((e,f),g,h,i,j,k) d a) fun l=>ifb l.2 (ck (b+l.1.2.2) fun p=>ck (a+(1:Int)) fun q=>c p q) (Â (awx ((e,f),g,h,i,j,k) d a) fun r=>ifb r (ck (b+n) fun s=>ck (a+(1:Int)) fun t=>c s t) (ck (a+(1:Int)) fun u=>c b u))) (o b)
def aDe (a:Val Å) (b:Int) (d:Int) (e:Int) (k:Int→Option ρ):Option ρ :=
  Â (aiZ a b) fun f=>ă a.2.1 f fun g=>Ì (fun(c:Val Ã) h=>ajx b e g.2.2.2.2.2 a.1.1 a.1.2 a.2.1 a.2.2.1 a.2.2.2.1 a.2.2.2.2.1 a.2.2.2.2.2 c.1 c.2 (fun i j=>h (i,j)) (fun l=>k l)) ((0:Int),d)
def alD (a:Val Å) (b:Int) (c:Int) (d:Int):Option (Int):=aDe a b c d some
def asT (b:Int) (a:Int) (k:Val ļ→Option ρ):Option ρ :=
  ifb (ine b (0:Int)) (ifb (Ă a 0) (none) (Â (awA (Int.tmod b a)) fun h=>Â (aqv h a) fun c=>ifb (Ă c 0) (none) (ck (Int.tdiv b c) fun d=>ifb (Ă c 0) (none) (ck (Int.tdiv a c) fun f=>ifb (igt f (2147483647:Int)) (k (((0:Int),(0:Int)),(3:Int))) (ifb (ilt d (-2147483647:Int)) (k (((0:Int),(0:Int)),(3:Int))) (ifb (igt d (2147483647:Int)) (k (((0:Int),(0:Int)),(3:Int))) (k ((d,f),(0:Int))))))))) (ifb (Ă a 0) (none) (ck (Int.tdiv b a) fun e=>ifb (Ă a 0) (none) (ck (Int.tdiv a a) fun g=>ifb (igt g (2147483647:Int)) (k (((0:Int),(0:Int)),(3:Int))) (ifb (ilt e (-2147483647:Int)) (k (((0:Int),(0:Int)),(3:Int))) (ifb (igt e (2147483647:Int)) (k (((0:Int),(0:Int)),(3:Int))) (k ((e,g),(0:Int))))))))
def ai0 (a:Int) (b:Int):Option (Val ļ):=asT a b some
def aKZ (a:Val Ã) (b:Val Ã) (k:Val ļ→Option ρ):Option ρ :=
  ck (a.1*b.2) fun c=>ck (b.1*a.2) fun d=>ck (c+d) fun e=>ck (a.2*b.2) fun f=>Â (ai0 e f) fun g=>k g
def aMC (a:Val Ã) (b:Val Ã):Option (Val ļ):=aKZ a b some
def aKT (a:Val Ã) (k:Val Ã→Option ρ):Option ρ :=
  ck ((0:Int)-a.1) fun b=>k (b,a.2)
def aMB (a:Val Ã):Option (Val Ã):=aKT a some
def aKR (a:Val Ã) (b:Val Ã) (k:Val ļ→Option ρ):Option ρ :=
  Â (aMB b) fun c=>Â (aMC a c) fun d=>k d
def aBZ (a:Val Ã) (b:Val Ã):Option (Val ļ):=aKR a b some
def axx (a:Val Å) (b:Int) (k:Val Ã→Option ρ):Option ρ :=
  ifb (ieq b (0:Int)) (k ((0:Int),(1:Int))) (Â (aiZ a b) fun c=>ă a.2.1 c fun d=>k d.2.2.2.2.1)
def alB (a:Val Å) (b:Int):Option (Val Ã):=axx a b some
def aDG (a:Val ļ) (b:Val ļ) (k:Val akL→Option ρ):Option ρ :=
  ifb (ine a.2 (0:Int)) (k ((((0:Int),(0:Int)),(0:Int),(0:Int)),a.2)) (ifb (ine b.2 (0:Int)) (k ((((0:Int),(0:Int)),(0:Int),(0:Int)),b.2)) (k ((a.1,b.1),(0:Int))))
def awy (a:Val ļ) (b:Val ļ):Option (Val akL):=aDG a b some
def aKU (a:Val Ã) (b:Val Ã) (k:Val ļ→Option ρ):Option ρ :=
  ck (a.1*b.1) fun c=>ck (a.2*b.2) fun d=>Â (ai0 c d) fun e=>k e
def am3 (a:Val Ã) (b:Val Ã):Option (Val ļ):=aKU a b some
def axI (b:Val í) (a:Val Ã) (k:Val akL→Option ρ):Option ρ :=
  ifb (ilt a.1 (0:Int)) (Â (am3 b.2 a) fun c=>Â (am3 b.1 a) fun d=>Â (awy c d) fun e=>k e) (Â (am3 b.1 a) fun f=>Â (am3 b.2 a) fun g=>Â (awy f g) fun h=>k h)
def aqu (a:Val í) (b:Val Ã):Option (Val akL):=axI a b some
def asR (b:Val Å) (a:Val Í) (k:Val í→Option ρ):Option ρ :=
  Â (ah7 a.2.2.1 a.2.2.2.1) fun c=>Â (alB b c) fun d=>Â (ah7 a.2.2.2.1 a.2.2.1) fun e=>Â (alB b e) fun f=>Â (aBZ d f) fun g=>Â (aqu ((a.2.2.2.2.2.2.1,(1:Int)),a.2.2.2.2.2.2.2,(1:Int)) g.1) fun h=>k h.1
def am1 (a:Val Å) (b:Val Í):Option (Val í):=asR a b some
def axE (a:Val Å) (b:Val Í) (k:Val Ã→Option ρ):Option ρ :=
  ck ((Û b.2.2.1)-(1:Int)) fun c=>ck ((Û b.2.2.2.1)-(1:Int)) fun d=>ck ((aGd (0:Int) c)*a.1.1) fun e=>ck ((aGd (0:Int) d)*a.1.2) fun f=>ck (e-f) fun g=>ck ((aGd (0:Int) c)*a.1.2) fun h=>ck ((aGd (0:Int) d)*a.1.1) fun i=>ck (h-i) fun j=>k (g,j)
def aqs (a:Val Å) (b:Val Í):Option (Val Ã):=axE a b some
def aRy (b:Int) (a:Int) (k:Int→Option ρ):Option ρ :=
  ifb (Ă a 0) (none) (ck (Int.tdiv b a) fun c=>ifb (Ă a 0) (none) (ifb (igt (Int.tmod b a) (0:Int)) (ck (c+(1:Int)) fun d=>k d) (k c)))
def aSm (a:Int) (b:Int):Option (Int):=aRy a b some
def aDI (a:Val Ã) (k:Int→Option ρ):Option ρ :=
  Â (aSm a.1 a.2) fun b=>k b
def awz (a:Val Ã):Option (Int):=aDI a some
def aDE (b:Int) (a:Int) (k:Int→Option ρ):Option ρ :=
  ifb (Ă a 0) (none) (ck (Int.tdiv b a) fun c=>ifb (Ă a 0) (none) (ifb (ilt (Int.tmod b a) (0:Int)) (ck (c-(1:Int)) fun d=>k d) (k c)))
def aFs (a:Int) (b:Int):Option (Int):=aDE a b some
def axK (a:Val Ã) (k:Int→Option ρ):Option ρ :=
  Â (aFs a.1 a.2) fun b=>k b
def aqw (a:Val Ã):Option (Int):=axK a some
def aC4 (b:Val Å) (a:Val Í) (k:Val Ã→Option ρ):Option ρ :=
  Â (am1 b a) fun c=>Â (aqs b a) fun d=>ck (a.2.2.2.2.1-a.2.2.2.2.2.1) fun e=>ck (e-d.2) fun f=>Â (aqw c.2) fun g=>ck (f-g) fun h=>ck (a.2.2.2.2.1+a.2.2.2.2.2.1) fun i=>ck (i-d.1) fun j=>Â (awz c.1) fun l=>ck (j-l) fun m=>k (h,m)
def alC (a:Val Å) (b:Val Í):Option (Val Ã):=aC4 a b some
def aiD (e:Val eI) (b:Int) (p:Int) (q:Int) (r:Val f6) (s:Val eI) (t:Val m5) (u:Val eW) (v:Val eI) (g:Int) (w:Int) (h:Int) (x:Int) (y:Int) (a:Int) (c:Val wi) (d:Val eI) (f:Int→Val wi→Val eI→Option ρ) (z:Val ank→Option ρ):Option ρ :=
  ifb (ilt a (Û e)) (ă e a fun A=>ifb (ine A.1 g) (ck (a+(1:Int)) fun B=>f B c d) (ă e a fun C=>ifb (ieq C.2 w) (ck (a+(1:Int)) fun i=>ck (h+y) fun j=>ck (a+(1:Int)) fun k=>ck ((0:Int)-h) fun D=>ck (D-x) fun l=>ï (ì ((List.length c)+(List.length ([((0:Int),i,j),(k,(0:Int),l)])))) (ï (ì ((List.length d)+(List.length ([((1:Int),b),((1:Int),b)])))) (ck (a+(1:Int)) fun E=>f E (c++([((0:Int),i,j),(k,(0:Int),l)])) (d++([((1:Int),b),((1:Int),b)]))))) (ck (a-(1:Int)) fun F=>ă e F fun G=>ă e a fun H=>Â (alD ((p,q),r,s,t,u,v) g G.2 H.2) fun m=>ck (a+(1:Int)) fun n=>ck (a+(1:Int)) fun o=>ï (ì ((List.length c)+(List.length ([(a,n,(0:Int)),(o,a,m)])))) (ï (ì ((List.length d)+(List.length ([((2:Int),b),((2:Int),b)])))) (ck (a+(1:Int)) fun I=>f I (c++([(a,n,(0:Int)),(o,a,m)])) (d++([((2:Int),b),((2:Int),b)]))))))) (z (c,d))
def amb (h:Val eI) (i:Int) (j:Int) (c:Val f6) (k:Val eI) (l:Val m5) (m:Val eW) (n:Val eI) (b:Int) (e:Val wi) (f:Val eI) (o:Int→Val wi→Val eI→Option ρ) (p:Val ank→Option ρ):Option ρ :=
  ifb (ilt b (Û c)) (ă c b fun a=>Ì (fun(d:Val abO) q=>aiD h b i j c k l m n a.1 a.2.1 a.2.2.1 a.2.2.2.1.1 a.2.2.2.1.2 d.1 d.2.1 d.2.2 (fun r s t=>q (r,s,t)) (fun g=>ck (b+(1:Int)) fun u=>o u g.1 g.2)) ((0:Int),e,f)) (p (e,f))
def ama (f:Int) (g:Int) (h:Val f6) (i:Val eI) (j:Val m5) (c:Val eW) (k:Val eI) (a:Int) (l:Val wi) (m:Val eI) (p:Int→Val wi→Val eI→Option ρ) (q:Val ank→Option ρ):Option ρ :=
  ifb (ilt a (Û c)) (ă c a fun b=>Â (ah7 b.2.2.1 b.2.2.2.1) fun r=>Â (Œ ((f,g),h,i,j,c,k) (r,b.2.1)) fun d=>Â (ah7 b.2.2.2.1 b.2.2.1) fun s=>Â (Œ ((f,g),h,i,j,c,k) (s,b.2.1)) fun e=>Â (alC ((f,g),h,i,j,c,k) b) fun n=>ck ((0:Int)-n.1) fun o=>ï (ì ((List.length l)+(List.length ([(e,d,n.2),(d,e,o)])))) (ï (ì ((List.length m)+(List.length ([((3:Int),a),((3:Int),a)])))) (ck (a+(1:Int)) fun t=>p t (l++([(e,d,n.2),(d,e,o)])) (m++([((3:Int),a),((3:Int),a)]))))) (q (l,m))
def aKx (a:Val Å) (k:Val ank→Option ρ):Option ρ :=
  Â (aex a) fun e=>Ì (fun(b:Val abO) f=>amb e a.1.1 a.1.2 a.2.1 a.2.2.1 a.2.2.2.1 a.2.2.2.2.1 a.2.2.2.2.2 b.1 b.2.1 b.2.2 (fun g h i=>f (g,h,i)) (fun d=>Ì (fun(c:Val abO) j=>ama a.1.1 a.1.2 a.2.1 a.2.2.1 a.2.2.2.1 a.2.2.2.2.1 a.2.2.2.2.2 c.1 c.2.1 c.2.2 (fun l m n=>j (l,m,n)) (fun o=>k o)) ((0:Int),d.1,d.2))) ((0:Int),[],[])
def am0 (a:Val Å):Option (Val ank):=aKx a some
def ah0 (b:Val f6) (a:Int) (c:Int→Option ρ) (d:Int→Option ρ) (e:Unit→Option ρ):Option ρ :=
  ifb (ilt a (Û b)) (ă b a fun f=>Â (aqr f) fun g=>ifb (!g) (d (1:Int)) (ifb (igt a (0:Int)) (ă b a fun h=>ck (a-(1:Int)) fun i=>ă b i fun j=>ifb (ile h.1 j.1) (d (6:Int)) (ck (a+(1:Int)) fun k=>c k)) (ck (a+(1:Int)) fun l=>c l))) (e ())
def ahZ (b:Int) (c:Val eW) (a:Int) (d:Int→Option ρ) (e:Int→Option ρ) (f:Unit→Option ρ):Option ρ :=
  ifb (ilt a b) (ă c a fun g=>ă c b fun h=>ifb (ieq g.1 h.1) (e (6:Int)) (ck (a+(1:Int)) fun i=>d i)) (f ())
def aeo (e:Int) (f:Int) (g:Val f6) (h:Val eI) (i:Val m5) (a:Val eW) (j:Val eI) (b:Int) (k:Int→Option ρ) (c:Int→Option ρ) (l:Unit→Option ρ):Option ρ :=
  ifb (ilt b (Û a)) (ă a b fun m=>Â (aqp m) fun n=>ifb (!n) (c (1:Int)) (Ì (fun(o:Int) p=>ahZ b a o (fun q=>p q) (fun r=>c r) (fun _=>ă a b fun s=>Â (aew ((e,f),g,h,i,a,j) s) fun d=>ifb (ine d (0:Int)) (c d) (ck (b+(1:Int)) fun t=>k t))) (0:Int))) (l ())
def aen (e:Int) (f:Int) (g:Val f6) (h:Val eI) (i:Val m5) (j:Val eW) (a:Val eI) (b:Int) (k:Int→Option ρ) (c:Int→Option ρ) (l:Unit→Option ρ):Option ρ :=
  ifb (ilt b (Û a)) (ă a b fun m=>Â (am2 m.2) fun n=>ifb (!n) (c (1:Int)) (ă a b fun o=>ă a b fun p=>Â (agG ((e,f),g,h,i,j,a) o.1 p.2) fun d=>ifb (ine d (0:Int)) (c d) (ck (b+(1:Int)) fun q=>k q))) (l ())
def axF (a:Val Å) (k:Int→Option ρ):Option ρ :=
  Â (aei a.1 (0:Int) (1000000:Int)) fun d=>ifb (!d) (k (1:Int)) (ifb (igt (Û a.2.1) (12:Int)) (k (2:Int)) (ifb (igt (Û a.2.2.1) (40:Int)) (k (2:Int)) (ifb (igt (Û a.2.2.2.1) (12:Int)) (k (2:Int)) (ifb (igt (Û a.2.2.2.2.1) (40:Int)) (k (2:Int)) (ifb (igt (Û a.2.2.2.2.2) (10:Int)) (k (2:Int)) (Ì (fun(e:Int) f=>ah0 a.2.1 e (fun g=>f g) (fun h=>k h) (fun _=>Â (awv a) fun b=>ifb (ieq b (0:Int)) (Â (aqq a) fun c=>ifb (ine c (0:Int)) (k c) (Ì (fun(i:Int) j=>aeo a.1.1 a.1.2 a.2.1 a.2.2.1 a.2.2.2.1 a.2.2.2.2.1 a.2.2.2.2.2 i (fun l=>j l) (fun m=>k m) (fun _=>Ì (fun(n:Int) o=>aen a.1.1 a.1.2 a.2.1 a.2.2.1 a.2.2.2.1 a.2.2.2.2.1 a.2.2.2.2.2 n (fun p=>o p) (fun q=>k q) (fun _=>Â (aex a) fun r=>ifb (igt (Û r) (59:Int)) (k (2:Int)) (Â (am0 a) fun s=>ifb (igt (Û s.1) (300:Int)) (k (2:Int)) (k (0:Int))))) (0:Int))) (0:Int))) (ifb (ine b (0:Int)) (k b) (Ì (fun(t:Int) u=>aeo a.1.1 a.1.2 a.2.1 a.2.2.1 a.2.2.2.1 a.2.2.2.2.1 a.2.2.2.2.2 t (fun v=>u v) (fun w=>k w) (fun _=>Ì (fun(x:Int) y=>aen a.1.1 a.1.2 a.2.1 a.2.2.1 a.2.2.2.1 a.2.2.2.2.1 a.2.2.2.2.2 x (fun z=>y z) (fun A=>k A) (fun _=>Â (aex a) fun B=>ifb (igt (Û B) (59:Int)) (k (2:Int)) (Â (am0 a) fun C=>ifb (igt (Û C.1) (300:Int)) (k (2:Int)) (k (0:Int))))) (0:Int))) (0:Int))))) (0:Int)))))))
def agH (a:Val Å):Option (Int):=axF a some
def asM (a:Val Å) (k:Val Ð→Option ρ):Option ρ :=
  Â (aex a) fun b=>ck ((Û b)+(1:Int)) fun c=>Â (am0 a) fun d=>k (c,d.1)
def aiY (a:Val Å):Option (Val Ð):=asM a some
def aDg (a:Val Å) (b:Val Ã) (k:Val abI→Option ρ):Option ρ :=
  ï (ì (0+(List.length a.2.2.2.2.2))) (ï (ì ((List.length (([])++a.2.2.2.2.2))+(List.length ([b])))) (Â (agH (a.1,a.2.1,a.2.2.1,a.2.2.2.1,a.2.2.2.2.1,((([])++a.2.2.2.2.2)++([b])))) fun c=>ifb (ine c (0:Int)) (k ((((0:Int),(0:Int)),[],[],[],[],[]),c)) (k ((a.1,a.2.1,a.2.2.1,a.2.2.2.1,a.2.2.2.2.1,((([])++a.2.2.2.2.2)++([b]))),(0:Int)))))
def alE (a:Val Å) (b:Val Ã):Option ((Val abI)):=aDg a b some
def afR (d:Int) (e:Int) (a:Int) (b:Val l5) (c:Int→Val l5→Option ρ) (f:Val l5→Option ρ):Option ρ :=
  ifb (ilt a d) (ï ((ile (0:Int) a)&&(ilt a (Đ b))) (Ň b (Int.toNat a) fun i=>ifb (ieq e a) (ï ((ile (0:Int) a)&&(ilt a (Đ (List.set b (Int.toNat a) (1152921504606846976:Int))))) (Ň (List.set b (Int.toNat a) (1152921504606846976:Int)) (Int.toNat a) fun j=>ck (a+(1:Int)) fun g=>c g (List.set (List.set b (Int.toNat a) (1152921504606846976:Int)) (Int.toNat a) (0:Int)))) (ck (a+(1:Int)) fun h=>c h (List.set b (Int.toNat a) (1152921504606846976:Int))))) (f b)
def afS (a:Int) (b:Int) (c:Val abr) (f:Int→Val abr→Option ρ) (g:Val abr→Option ρ):Option ρ :=
  ifb (ilt b a) (ï ((ile (0:Int) a)&&(ì (Int.toNat a))) (Ì (fun(d:Val abv) h=>afR a b d.1 d.2 (fun i j=>h (i,j)) (fun e=>ï (ì ((List.length c)+(List.length ([e])))) (ck (b+(1:Int)) fun k=>f k (c++([e]))))) ((0:Int),(List.replicate (Int.toNat a) (0:Int))))) (g c)
def afQ (d:Val wi) (c:Int) (b:Val abr) (f:Int→Val abr→Option ρ) (g:Val abr→Option ρ):Option ρ :=
  ifb (ilt c (Û d)) (ă d c fun a=>ï ((ile (0:Int) a.1)&&(ilt a.1 (Đ b))) (ï ((ile (0:Int) a.1)&&(ilt a.1 (Đ b))) (Ň b (Int.toNat a.1) fun h=>ï ((ile (0:Int) a.2.1)&&(ilt a.2.1 (Đ h))) (Ň b (Int.toNat a.1) fun i=>Ň i (Int.toNat a.2.1) fun j=>Ň b (Int.toNat a.1) fun k=>ï ((ile (0:Int) a.2.1)&&(ilt a.2.1 (Đ k))) (Ň b (Int.toNat a.1) fun e=>Ň e (Int.toNat a.2.1) fun m=>ck (c+(1:Int)) fun l=>f l (List.set b (Int.toNat a.1) (List.set e (Int.toNat a.2.1) (aMt j a.2.2)))))))) (g b)
def afO (d:Int) (c:Int) (g:Int) (b:Int) (a:Val abr) (e:Int→Val abr→Option ρ) (h:Val abr→Option ρ):Option ρ :=
  ifb (ilt b g) (ï ((ile (0:Int) d)&&(ilt d (Đ a))) (Ň a (Int.toNat d) fun i=>ï ((ile (0:Int) b)&&(ilt b (Đ i))) (Ň a (Int.toNat d) fun j=>Ň j (Int.toNat b) fun k=>ifb (ine k (1152921504606846976:Int)) (ï ((ile (0:Int) c)&&(ilt c (Đ a))) (ï ((ile (0:Int) c)&&(ilt c (Đ a))) (Ň a (Int.toNat c) fun l=>ï ((ile (0:Int) b)&&(ilt b (Đ l))) (Ň a (Int.toNat c) fun m=>Ň m (Int.toNat b) fun n=>ï ((ile (0:Int) c)&&(ilt c (Đ a))) (Ň a (Int.toNat c) fun o=>ï ((ile (0:Int) d)&&(ilt d (Đ o))) (Ň a (Int.toNat c) fun p=>Ň p (Int.toNat d) fun q=>ï ((ile (0:Int) d)&&(ilt d (Đ a))) (Ň a (Int.toNat d) fun r=>ï ((ile (0:Int) b)&&(ilt b (Đ r))) (Ň a (Int.toNat d) fun s=>Ň s (Int.toNat b) fun t=>ck (q+t) fun u=>Ň a (Int.toNat c) fun v=>ï ((ile (0:Int) b)&&(ilt b (Đ v))) (Ň a (Int.toNat c) fun f=>Ň f (Int.toNat b) fun y=>ck (b+(1:Int)) fun w=>e w (List.set a (Int.toNat c) (List.set f (Int.toNat b) (aMt n u)))))))))))) (ck (b+(1:Int)) fun x=>e x a)))) (h a)
def afP (c:Int) (d:Int) (a:Int) (b:Val abr) (e:Int→Val abr→Option ρ) (g:Val abr→Option ρ):Option ρ :=
  ifb (ilt a d) (ï ((ile (0:Int) a)&&(ilt a (Đ b))) (Ň b (Int.toNat a) fun h=>ï ((ile (0:Int) c)&&(ilt c (Đ h))) (Ň b (Int.toNat a) fun i=>Ň i (Int.toNat c) fun j=>ifb (ieq j (1152921504606846976:Int)) (ck (a+(1:Int)) fun k=>e k b) (Ì (fun(f:Val abN) l=>afO c a d f.1 f.2 (fun m n=>l (m,n)) (fun o=>ck (a+(1:Int)) fun p=>e p o)) ((0:Int),b))))) (g b)
def adE (c:Int) (b:Val abr) (a:Int) (d:Int→Option ρ) (e:Bool→Option ρ) (f:Unit→Option ρ):Option ρ :=
  ifb (ilt a c) (ï ((ile (0:Int) a)&&(ilt a (Đ b))) (Ň b (Int.toNat a) fun g=>ï ((ile (0:Int) a)&&(ilt a (Đ g))) (Ň b (Int.toNat a) fun h=>Ň h (Int.toNat a) fun i=>ifb (ilt i (0:Int)) (e false) (ck (a+(1:Int)) fun j=>d j)))) (f ())
def aep (a:Int) (b:Int) (d:Val abr) (f:Int→Val abr→Option ρ) (g:(Val (.pair .bool abr))→Option ρ) (h:Val abr→Option ρ):Option ρ :=
  ifb (ilt b a) (Ì (fun(e:Val abN) i=>afP b a e.1 e.2 (fun j k=>i (j,k)) (fun c=>Ì (fun(l:Int) m=>adE a c l (fun n=>m n) (fun o=>g (o,c)) (fun _=>ck (b+(1:Int)) fun p=>f p c)) (0:Int))) ((0:Int),d)) (h d)
def axG (a:Val Ð) (k:(Val (.pair abr .bool))→Option ρ):Option ρ :=
  Ì (fun(b:Val abN) e=>afS a.1 b.1 b.2 (fun f g=>e (f,g)) (fun h=>Ì (fun(c:Val abN) i=>afQ a.2 c.1 c.2 (fun j l=>i (j,l)) (fun m=>Ì (fun(d:Val abN) n=>aep a.1 d.1 d.2 (fun o p=>n (o,p)) (fun q=>k ([],q.1)) (fun r=>k (r,true))) ((0:Int),m))) ((0:Int),h))) ((0:Int),[])
def alF (a:Val Ð):Option ((Val (.pair abr .bool))):=axG a some
def ag8 (j:Val eI) (b:Int) (c:Int) (d:Int) (e:Val f6) (f:Val eI) (g:Val m5) (h:Val eW) (i:Val eI) (k:Int) (l:Int) (m:Int) (n:Int) (o:Int→Int→Int→Val f6→Val eI→Val m5→Val eW→Val eI→Int→Int→Int→Int→Option ρ) (p:Val abx→Option ρ) (q:Val abx→Option ρ):Option ρ :=
  ifb (ilt b (Û j)) (ă j b fun r=>Â (Œ ((c,d),e,f,g,h,i) r) fun s=>ifb (igt s (0:Int)) (ck (b+(1:Int)) fun t=>o t c d e f g h i k l m n) (ă j b fun u=>Â (alE ((c,d),e,f,g,h,i) u) fun a=>ifb (ine a.2 (0:Int)) (p (c,d,e,f,g,h,i,(0:Int),(0:Int),(0:Int),a.2)) (ck (b+(1:Int)) fun v=>o v a.1.1.1 a.1.1.2 a.1.2.1 a.1.2.2.1 a.1.2.2.2.1 a.1.2.2.2.2.1 a.1.2.2.2.2.2 k l m n))) (q (c,d,e,f,g,h,i,k,l,m,n))
def aCQ (c:Val Å) (h:Val eI) (k:Val Ų→Option ρ):Option ρ :=
  Â (agH c) fun e=>ifb (ine e (0:Int)) (k ((((0:Int),(0:Int)),[],[],[],[],[]),((0:Int),[]),[],e)) (Ì (fun(b:(Val (.pair tI abx))) i=>ag8 h b.1 b.2.1 b.2.2.1 b.2.2.2.1 b.2.2.2.2.1 b.2.2.2.2.2.1 b.2.2.2.2.2.2.1 b.2.2.2.2.2.2.2.1 b.2.2.2.2.2.2.2.2.1 b.2.2.2.2.2.2.2.2.2.1 b.2.2.2.2.2.2.2.2.2.2.1 b.2.2.2.2.2.2.2.2.2.2.2 (fun j l m n o p q r s t u v=>i (j,l,m,n,o,p,q,r,s,t,u,v)) (fun d=>k (((d.2.2.2.2.2.2.2.1,d.2.2.2.2.2.2.2.2.1),[],[],[],[],[]),(d.2.2.2.2.2.2.2.2.2.1,[]),[],d.2.2.2.2.2.2.2.2.2.2)) (fun a=>Â (aiY ((a.1,a.2.1),a.2.2.1,a.2.2.2.1,a.2.2.2.2.1,a.2.2.2.2.2.1,a.2.2.2.2.2.2.1)) fun f=>Â (alF f) fun g=>ifb (!g.2) (k ((((0:Int),(0:Int)),[],[],[],[],[]),((0:Int),[]),[],(9:Int))) (k (((a.1,a.2.1),a.2.2.1,a.2.2.2.1,a.2.2.2.2.1,a.2.2.2.2.2.1,a.2.2.2.2.2.2.1),f,g.1,(0:Int))))) ((0:Int),c.1.1,c.1.2,c.2.1,c.2.2.1,c.2.2.2.1,c.2.2.2.2.1,c.2.2.2.2.2,(0:Int),(0:Int),(0:Int),(0:Int)))
def alA (a:Val Å) (b:Val eI):Option (Val Ų):=aCQ a b some
def ae8 (a:Val Ų) (b:Int) (k:Val Ã→Option ρ):Option ρ :=
  ă a.2.2.1 b fun c=>ă c (0:Int) fun d=>ck ((0:Int)-d) fun e=>ă a.2.2.1 (0:Int) fun f=>ă f b fun g=>k (e,g)
def å (a:Val Ų) (b:Int):Option (Val Ã):=ae8 a b some
def al7 (a:Val Ų) (b:Val Ã) (k:Int→Option ρ):Option ρ :=
  Â (Œ a.1 b) fun c=>k c
def Ô (a:Val Ų) (b:Val Ã):Option (Int):=al7 a b some
def afK (a:Val Ų) (b:Int) (c:Int) (k:Val Ã→Option ρ):Option ρ :=
  ă a.2.2.1 b fun d=>ă d c fun e=>ck ((0:Int)-e) fun f=>ă a.2.2.1 c fun g=>ă g b fun h=>k (f,h)
def Þ (a:Val Ų) (b:Int) (c:Int):Option (Val Ã):=afK a b c some
def Ä (b:Val eI) (e:Int) (f:Int) (g:Val f6) (h:Val eI) (i:Val m5) (j:Val eW) (k:Val eI) (l:Int) (m:Val wi) (n:Val abr) (o:Int) (a:Int) (p:Int→Option ρ) (q:Bool→Option ρ) (r:Unit→Option ρ):Option ρ :=
  ifb (ilt a (Û b)) (ă b a fun c=>ck (a+(1:Int)) fun s=>Â (å (((e,f),g,h,i,j,k),(l,m),n,o) s) fun d=>ifb (!((Ă c.1 d.1)&&((Ă c.2 d.2)&&true))) (q false) (ck (a+(1:Int)) fun t=>p t)) (r ())
def ae4 (i:Val Å) (e:Val Ã) (g:Val Ã) (k:Bool→Option ρ):Option ρ :=
  Â (aBX i) fun I=>ifb (!I) (Â Ï fun J=>k J) (Â (afp i e) fun f=>Â (ah8 i) fun b=>Â (ai4 i e g) fun c=>Â (alA i ([e])) fun h=>Â (alA i ([])) fun a=>Â (alA i ([e,g])) fun d=>ifb (ine f.2 h.2.2.2) (k false) (ifb (ine b.2 a.2.2.2) (k false) (ifb (ine c.2 d.2.2.2) (k false) (ifb (ine f.2 (0:Int)) (ifb (!((Ă f.1.1 (0:Int))&&((Ă f.1.2 (0:Int))&&true))) (k false) (ifb (ine b.2 (0:Int)) (ifb (igt (Û b.1) (0:Int)) (k false) (ifb (ine c.2 (0:Int)) (ifb (!((Ă c.1.1 (0:Int))&&((Ă c.1.2 (0:Int))&&true))) (k false) (ifb (ieq f.2 (0:Int)) (Â (Ô h e) fun K=>Â (å h K) fun j=>ifb (!((Ă f.1.1 j.1)&&((Ă f.1.2 j.2)&&true))) (k false) (ifb (ieq c.2 (0:Int)) (Â (Ô d e) fun L=>Â (Ô d g) fun M=>Â (Þ d L M) fun l=>ifb (!((Ă c.1.1 l.1)&&((Ă c.1.2 l.2)&&true))) (k false) (ifb (ieq b.2 (0:Int)) (ck (a.2.1.1-(1:Int)) fun N=>ifb (ine (Û b.1) N) (k false) (Ì (fun(O:Int) P=>Ä b.1 a.1.1.1 a.1.1.2 a.1.2.1 a.1.2.2.1 a.1.2.2.2.1 a.1.2.2.2.2.1 a.1.2.2.2.2.2 a.2.1.1 a.2.1.2 a.2.2.1 a.2.2.2 O (fun Q=>P Q) (fun R=>k R) (fun _=>Â Ï fun S=>k S)) (0:Int))) (Ì (fun(T:Int) U=>Ä b.1 a.1.1.1 a.1.1.2 a.1.2.1 a.1.2.2.1 a.1.2.2.2.1 a.1.2.2.2.2.1 a.1.2.2.2.2.2 a.2.1.1 a.2.1.2 a.2.2.1 a.2.2.2 T (fun V=>U V) (fun W=>k W) (fun _=>Â Ï fun X=>k X)) (0:Int)))) (ifb (ieq b.2 (0:Int)) (ck (a.2.1.1-(1:Int)) fun Y=>ifb (ine (Û b.1) Y) (k false) (Ì (fun(Z:Int) kk37=>Ä b.1 a.1.1.1 a.1.1.2 a.1.2.1 a.1.2.2.1 a.1.2.2.2.1 a.1.2.2.2.2.1 a.1.2.2.2.2.2 a.2.1.1 a.2.1.2 a.2.2.1 a.2.2.2 Z (fun u36=>kk37 u36) (fun z32=>k z32) (fun _=>Â Ï fun r34=>k r34)) (0:Int))) (Ì (fun(v41:Int) kk43=>Ä b.1 a.1.1.1 a.1.1.2 a.1.2.1 a.1.2.2.1 a.1.2.2.2.1 a.1.2.2.2.2.1 a.1.2.2.2.2.2 a.2.1.1 a.2.1.2 a.2.2.1 a.2.2.2 v41 (fun u42=>kk43 u42) (fun z38=>k z38) (fun _=>Â Ï fun r40=>k r40)) (0:Int))))) (ifb (ieq c.2 (0:Int)) (Â (Ô d e) fun r44=>Â (Ô d g) fun r45=>Â (Þ d r44 r45) fun m=>ifb (!((Ă c.1.1 m.1)&&((Ă c.1.2 m.2)&&true))) (k false) (ifb (ieq b.2 (0:Int)) (ck (a.2.1.1-(1:Int)) fun n47=>ifb (ine (Û b.1) n47) (k false) (Ì (fun(v51:Int) kk53=>Ä b.1 a.1.1.1 a.1.1.2 a.1.2.1 a.1.2.2.1 a.1.2.2.2.1 a.1.2.2.2.2.1 a.1.2.2.2.2.2 a.2.1.1 a.2.1.2 a.2.2.1 a.2.2.2 v51 (fun u52=>kk53 u52) (fun z48=>k z48) (fun _=>Â Ï fun r50=>k r50)) (0:Int))) (Ì (fun(v57:Int) kk59=>Ä b.1 a.1.1.1 a.1.1.2 a.1.2.1 a.1.2.2.1 a.1.2.2.2.1 a.1.2.2.2.2.1 a.1.2.2.2.2.2 a.2.1.1 a.2.1.2 a.2.2.1 a.2.2.2 v57 (fun u58=>kk59 u58) (fun z54=>k z54) (fun _=>Â Ï fun r56=>k r56)) (0:Int)))) (ifb (ieq b.2 (0:Int)) (ck (a.2.1.1-(1:Int)) fun n60=>ifb (ine (Û b.1) n60) (k false) (Ì (fun(v64:Int) kk66=>Ä b.1 a.1.1.1 a.1.1.2 a.1.2.1 a.1.2.2.1 a.1.2.2.2.1 a.1.2.2.2.2.1 a.1.2.2.2.2.2 a.2.1.1 a.2.1.2 a.2.2.1 a.2.2.2 v64 (fun u65=>kk66 u65) (fun z61=>k z61) (fun _=>Â Ï fun r63=>k r63)) (0:Int))) (Ì (fun(v70:Int) kk72=>Ä b.1 a.1.1.1 a.1.1.2 a.1.2.1 a.1.2.2.1 a.1.2.2.2.1 a.1.2.2.2.2.1 a.1.2.2.2.2.2 a.2.1.1 a.2.1.2 a.2.2.1 a.2.2.2 v70 (fun u71=>kk72 u71) (fun z67=>k z67) (fun _=>Â Ï fun r69=>k r69)) (0:Int)))))) (ifb (ieq f.2 (0:Int)) (Â (Ô h e) fun r73=>Â (å h r73) fun n=>ifb (!((Ă f.1.1 n.1)&&((Ă f.1.2 n.2)&&true))) (k false) (ifb (ieq c.2 (0:Int)) (Â (Ô d e) fun r75=>Â (Ô d g) fun r76=>Â (Þ d r75 r76) fun o=>ifb (!((Ă c.1.1 o.1)&&((Ă c.1.2 o.2)&&true))) (k false) (ifb (ieq b.2 (0:Int)) (ck (a.2.1.1-(1:Int)) fun n78=>ifb (ine (Û b.1) n78) (k false) (Ì (fun(v82:Int) kk84=>Ä b.1 a.1.1.1 a.1.1.2 a.1.2.1 a.1.2.2.1 a.1.2.2.2.1 a.1.2.2.2.2.1 a.1.2.2.2.2.2 a.2.1.1 a.2.1.2 a.2.2.1 a.2.2.2 v82 (fun u83=>kk84 u83) (fun z79=>k z79) (fun _=>Â Ï fun r81=>k r81)) (0:Int))) (Ì (fun(v88:Int) kk90=>Ä b.1 a.1.1.1 a.1.1.2 a.1.2.1 a.1.2.2.1 a.1.2.2.2.1 a.1.2.2.2.2.1 a.1.2.2.2.2.2 a.2.1.1 a.2.1.2 a.2.2.1 a.2.2.2 v88 (fun u89=>kk90 u89) (fun z85=>k z85) (fun _=>Â Ï fun r87=>k r87)) (0:Int)))) (ifb (ieq b.2 (0:Int)) (ck (a.2.1.1-(1:Int)) fun n91=>ifb (ine (Û b.1) n91) (k false) (Ì (fun(v95:Int) kk97=>Ä b.1 a.1.1.1 a.1.1.2 a.1.2.1 a.1.2.2.1 a.1.2.2.2.1 a.1.2.2.2.2.1 a.1.2.2.2.2.2 a.2.1.1 a.2.1.2 a.2.2.1 a.2.2.2 v95 (fun u96=>kk97 u96) (fun z92=>k z92) (fun _=>Â Ï fun r94=>k r94)) (0:Int))) (Ì (fun(v101:Int) kk103=>Ä b.1 a.1.1.1 a.1.1.2 a.1.2.1 a.1.2.2.1 a.1.2.2.2.1 a.1.2.2.2.2.1 a.1.2.2.2.2.2 a.2.1.1 a.2.1.2 a.2.2.1 a.2.2.2 v101 (fun u102=>kk103 u102) (fun z98=>k z98) (fun _=>Â Ï fun r100=>k r100)) (0:Int))))) (ifb (ieq c.2 (0:Int)) (Â (Ô d e) fun r104=>Â (Ô d g) fun r105=>Â (Þ d r104 r105) fun p=>ifb (!((Ă c.1.1 p.1)&&((Ă c.1.2 p.2)&&true))) (k false) (ifb (ieq b.2 (0:Int)) (ck (a.2.1.1-(1:Int)) fun n107=>ifb (ine (Û b.1) n107) (k false) (Ì (fun(v111:Int) kk113=>Ä b.1 a.1.1.1 a.1.1.2 a.1.2.1 a.1.2.2.1 a.1.2.2.2.1 a.1.2.2.2.2.1 a.1.2.2.2.2.2 a.2.1.1 a.2.1.2 a.2.2.1 a.2.2.2 v111 (fun u112=>kk113 u112) (fun z108=>k z108) (fun _=>Â Ï fun r110=>k r110)) (0:Int))) (Ì (fun(v117:Int) kk119=>Ä b.1 a.1.1.1 a.1.1.2 a.1.2.1 a.1.2.2.1 a.1.2.2.2.1 a.1.2.2.2.2.1 a.1.2.2.2.2.2 a.2.1.1 a.2.1.2 a.2.2.1 a.2.2.2 v117 (fun u118=>kk119 u118) (fun z114=>k z114) (fun _=>Â Ï fun r116=>k r116)) (0:Int)))) (ifb (ieq b.2 (0:Int)) (ck (a.2.1.1-(1:Int)) fun n120=>ifb (ine (Û b.1) n120) (k false) (Ì (fun(v124:Int) kk126=>Ä b.1 a.1.1.1 a.1.1.2 a.1.2.1 a.1.2.2.1 a.1.2.2.2.1 a.1.2.2.2.2.1 a.1.2.2.2.2.2 a.2.1.1 a.2.1.2 a.2.2.1 a.2.2.2 v124 (fun u125=>kk126 u125) (fun z121=>k z121) (fun _=>Â Ï fun r123=>k r123)) (0:Int))) (Ì (fun(v130:Int) kk132=>Ä b.1 a.1.1.1 a.1.1.2 a.1.2.1 a.1.2.2.1 a.1.2.2.2.1 a.1.2.2.2.2.1 a.1.2.2.2.2.2 a.2.1.1 a.2.1.2 a.2.2.1 a.2.2.2 v130 (fun u131=>kk132 u131) (fun z127=>k z127) (fun _=>Â Ï fun r129=>k r129)) (0:Int))))))) (ifb (ine c.2 (0:Int)) (ifb (!((Ă c.1.1 (0:Int))&&((Ă c.1.2 (0:Int))&&true))) (k false) (ifb (ieq f.2 (0:Int)) (Â (Ô h e) fun r133=>Â (å h r133) fun q=>ifb (!((Ă f.1.1 q.1)&&((Ă f.1.2 q.2)&&true))) (k false) (ifb (ieq c.2 (0:Int)) (Â (Ô d e) fun r135=>Â (Ô d g) fun r136=>Â (Þ d r135 r136) fun r=>ifb (!((Ă c.1.1 r.1)&&((Ă c.1.2 r.2)&&true))) (k false) (ifb (ieq b.2 (0:Int)) (ck (a.2.1.1-(1:Int)) fun n138=>ifb (ine (Û b.1) n138) (k false) (Ì (fun(v142:Int) kk144=>Ä b.1 a.1.1.1 a.1.1.2 a.1.2.1 a.1.2.2.1 a.1.2.2.2.1 a.1.2.2.2.2.1 a.1.2.2.2.2.2 a.2.1.1 a.2.1.2 a.2.2.1 a.2.2.2 v142 (fun u143=>kk144 u143) (fun z139=>k z139) (fun _=>Â Ï fun r141=>k r141)) (0:Int))) (Ì (fun(v148:Int) kk150=>Ä b.1 a.1.1.1 a.1.1.2 a.1.2.1 a.1.2.2.1 a.1.2.2.2.1 a.1.2.2.2.2.1 a.1.2.2.2.2.2 a.2.1.1 a.2.1.2 a.2.2.1 a.2.2.2 v148 (fun u149=>kk150 u149) (fun z145=>k z145) (fun _=>Â Ï fun r147=>k r147)) (0:Int)))) (ifb (ieq b.2 (0:Int)) (ck (a.2.1.1-(1:Int)) fun n151=>ifb (ine (Û b.1) n151) (k false) (Ì (fun(v155:Int) kk157=>Ä b.1 a.1.1.1 a.1.1.2 a.1.2.1 a.1.2.2.1 a.1.2.2.2.1 a.1.2.2.2.2.1 a.1.2.2.2.2.2 a.2.1.1 a.2.1.2 a.2.2.1 a.2.2.2 v155 (fun u156=>kk157 u156) (fun z152=>k z152) (fun _=>Â Ï fun r154=>k r154)) (0:Int))) (Ì (fun(v161:Int) kk163=>Ä b.1 a.1.1.1 a.1.1.2 a.1.2.1 a.1.2.2.1 a.1.2.2.2.1 a.1.2.2.2.2.1 a.1.2.2.2.2.2 a.2.1.1 a.2.1.2 a.2.2.1 a.2.2.2 v161 (fun u162=>kk163 u162) (fun z158=>k z158) (fun _=>Â Ï fun r160=>k r160)) (0:Int))))) (ifb (ieq c.2 (0:Int)) (Â (Ô d e) fun r164=>Â (Ô d g) fun r165=>Â (Þ d r164 r165) fun s=>ifb (!((Ă c.1.1 s.1)&&((Ă c.1.2 s.2)&&true))) (k false) (ifb (ieq b.2 (0:Int)) (ck (a.2.1.1-(1:Int)) fun n167=>ifb (ine (Û b.1) n167) (k false) (Ì (fun(v171:Int) kk173=>Ä b.1 a.1.1.1 a.1.1.2 a.1.2.1 a.1.2.2.1 a.1.2.2.2.1 a.1.2.2.2.2.1 a.1.2.2.2.2.2 a.2.1.1 a.2.1.2 a.2.2.1 a.2.2.2 v171 (fun u172=>kk173 u172) (fun z168=>k z168) (fun _=>Â Ï fun r170=>k r170)) (0:Int))) (Ì (fun(v177:Int) kk179=>Ä b.1 a.1.1.1 a.1.1.2 a.1.2.1 a.1.2.2.1 a.1.2.2.2.1 a.1.2.2.2.2.1 a.1.2.2.2.2.2 a.2.1.1 a.2.1.2 a.2.2.1 a.2.2.2 v177 (fun u178=>kk179 u178) (fun z174=>k z174) (fun _=>Â Ï fun r176=>k r176)) (0:Int)))) (ifb (ieq b.2 (0:Int)) (ck (a.2.1.1-(1:Int)) fun n180=>ifb (ine (Û b.1) n180) (k false) (Ì (fun(v184:Int) kk186=>Ä b.1 a.1.1.1 a.1.1.2 a.1.2.1 a.1.2.2.1 a.1.2.2.2.1 a.1.2.2.2.2.1 a.1.2.2.2.2.2 a.2.1.1 a.2.1.2 a.2.2.1 a.2.2.2 v184 (fun u185=>kk186 u185) (fun z181=>k z181) (fun _=>Â Ï fun r183=>k r183)) (0:Int))) (Ì (fun(v190:Int) kk192=>Ä b.1 a.1.1.1 a.1.1.2 a.1.2.1 a.1.2.2.1 a.1.2.2.2.1 a.1.2.2.2.2.1 a.1.2.2.2.2.2 a.2.1.1 a.2.1.2 a.2.2.1 a.2.2.2 v190 (fun u191=>kk192 u191) (fun z187=>k z187) (fun _=>Â Ï fun r189=>k r189)) (0:Int)))))) (ifb (ieq f.2 (0:Int)) (Â (Ô h e) fun r193=>Â (å h r193) fun t=>ifb (!((Ă f.1.1 t.1)&&((Ă f.1.2 t.2)&&true))) (k false) (ifb (ieq c.2 (0:Int)) (Â (Ô d e) fun r195=>Â (Ô d g) fun r196=>Â (Þ d r195 r196) fun u=>ifb (!((Ă c.1.1 u.1)&&((Ă c.1.2 u.2)&&true))) (k false) (ifb (ieq b.2 (0:Int)) (ck (a.2.1.1-(1:Int)) fun n198=>ifb (ine (Û b.1) n198) (k false) (Ì (fun(v202:Int) kk204=>Ä b.1 a.1.1.1 a.1.1.2 a.1.2.1 a.1.2.2.1 a.1.2.2.2.1 a.1.2.2.2.2.1 a.1.2.2.2.2.2 a.2.1.1 a.2.1.2 a.2.2.1 a.2.2.2 v202 (fun u203=>kk204 u203) (fun z199=>k z199) (fun _=>Â Ï fun r201=>k r201)) (0:Int))) (Ì (fun(v208:Int) kk210=>Ä b.1 a.1.1.1 a.1.1.2 a.1.2.1 a.1.2.2.1 a.1.2.2.2.1 a.1.2.2.2.2.1 a.1.2.2.2.2.2 a.2.1.1 a.2.1.2 a.2.2.1 a.2.2.2 v208 (fun u209=>kk210 u209) (fun z205=>k z205) (fun _=>Â Ï fun r207=>k r207)) (0:Int)))) (ifb (ieq b.2 (0:Int)) (ck (a.2.1.1-(1:Int)) fun n211=>ifb (ine (Û b.1) n211) (k false) (Ì (fun(v215:Int) kk217=>Ä b.1 a.1.1.1 a.1.1.2 a.1.2.1 a.1.2.2.1 a.1.2.2.2.1 a.1.2.2.2.2.1 a.1.2.2.2.2.2 a.2.1.1 a.2.1.2 a.2.2.1 a.2.2.2 v215 (fun u216=>kk217 u216) (fun z212=>k z212) (fun _=>Â Ï fun r214=>k r214)) (0:Int))) (Ì (fun(v221:Int) kk223=>Ä b.1 a.1.1.1 a.1.1.2 a.1.2.1 a.1.2.2.1 a.1.2.2.2.1 a.1.2.2.2.2.1 a.1.2.2.2.2.2 a.2.1.1 a.2.1.2 a.2.2.1 a.2.2.2 v221 (fun u222=>kk223 u222) (fun z218=>k z218) (fun _=>Â Ï fun r220=>k r220)) (0:Int))))) (ifb (ieq c.2 (0:Int)) (Â (Ô d e) fun r224=>Â (Ô d g) fun r225=>Â (Þ d r224 r225) fun v=>ifb (!((Ă c.1.1 v.1)&&((Ă c.1.2 v.2)&&true))) (k false) (ifb (ieq b.2 (0:Int)) (ck (a.2.1.1-(1:Int)) fun n227=>ifb (ine (Û b.1) n227) (k false) (Ì (fun(v231:Int) kk233=>Ä b.1 a.1.1.1 a.1.1.2 a.1.2.1 a.1.2.2.1 a.1.2.2.2.1 a.1.2.2.2.2.1 a.1.2.2.2.2.2 a.2.1.1 a.2.1.2 a.2.2.1 a.2.2.2 v231 (fun u232=>kk233 u232) (fun z228=>k z228) (fun _=>Â Ï fun r230=>k r230)) (0:Int))) (Ì (fun(v237:Int) kk239=>Ä b.1 a.1.1.1 a.1.1.2 a.1.2.1 a.1.2.2.1 a.1.2.2.2.1 a.1.2.2.2.2.1 a.1.2.2.2.2.2 a.2.1.1 a.2.1.2 a.2.2.1 a.2.2.2 v237 (fun u238=>kk239 u238) (fun z234=>k z234) (fun _=>Â Ï fun r236=>k r236)) (0:Int)))) (ifb (ieq b.2 (0:Int)) (ck (a.2.1.1-(1:Int)) fun n240=>ifb (ine (Û b.1) n240) (k false) (Ì (fun(v244:Int) kk246=>Ä b.1 a.1.1.1 a.1.1.2 a.1.2.1 a.1.2.2.1 a.1.2.2.2.1 a.1.2.2.2.2.1 a.1.2.2.2.2.2 a.2.1.1 a.2.1.2 a.2.2.1 a.2.2.2 v244 (fun u245=>kk246 u245) (fun z241=>k z241) (fun _=>Â Ï fun r243=>k r243)) (0:Int))) (Ì (fun(v250:Int) kk252=>Ä b.1 a.1.1.1 a.1.1.2 a.1.2.1 a.1.2.2.1 a.1.2.2.2.1 a.1.2.2.2.2.1 a.1.2.2.2.2.2 a.2.1.1 a.2.1.2 a.2.2.1 a.2.2.2 v250 (fun u251=>kk252 u251) (fun z247=>k z247) (fun _=>Â Ï fun r249=>k r249)) (0:Int)))))))) (ifb (ine b.2 (0:Int)) (ifb (igt (Û b.1) (0:Int)) (k false) (ifb (ine c.2 (0:Int)) (ifb (!((Ă c.1.1 (0:Int))&&((Ă c.1.2 (0:Int))&&true))) (k false) (ifb (ieq f.2 (0:Int)) (Â (Ô h e) fun r253=>Â (å h r253) fun w=>ifb (!((Ă f.1.1 w.1)&&((Ă f.1.2 w.2)&&true))) (k false) (ifb (ieq c.2 (0:Int)) (Â (Ô d e) fun r255=>Â (Ô d g) fun r256=>Â (Þ d r255 r256) fun x=>ifb (!((Ă c.1.1 x.1)&&((Ă c.1.2 x.2)&&true))) (k false) (ifb (ieq b.2 (0:Int)) (ck (a.2.1.1-(1:Int)) fun n258=>ifb (ine (Û b.1) n258) (k false) (Ì (fun(v262:Int) kk264=>Ä b.1 a.1.1.1 a.1.1.2 a.1.2.1 a.1.2.2.1 a.1.2.2.2.1 a.1.2.2.2.2.1 a.1.2.2.2.2.2 a.2.1.1 a.2.1.2 a.2.2.1 a.2.2.2 v262 (fun u263=>kk264 u263) (fun z259=>k z259) (fun _=>Â Ï fun r261=>k r261)) (0:Int))) (Ì (fun(v268:Int) kk270=>Ä b.1 a.1.1.1 a.1.1.2 a.1.2.1 a.1.2.2.1 a.1.2.2.2.1 a.1.2.2.2.2.1 a.1.2.2.2.2.2 a.2.1.1 a.2.1.2 a.2.2.1 a.2.2.2 v268 (fun u269=>kk270 u269) (fun z265=>k z265) (fun _=>Â Ï fun r267=>k r267)) (0:Int)))) (ifb (ieq b.2 (0:Int)) (ck (a.2.1.1-(1:Int)) fun n271=>ifb (ine (Û b.1) n271) (k false) (Ì (fun(v275:Int) kk277=>Ä b.1 a.1.1.1 a.1.1.2 a.1.2.1 a.1.2.2.1 a.1.2.2.2.1 a.1.2.2.2.2.1 a.1.2.2.2.2.2 a.2.1.1 a.2.1.2 a.2.2.1 a.2.2.2 v275 (fun u276=>kk277 u276) (fun z272=>k z272) (fun _=>Â Ï fun r274=>k r274)) (0:Int))) (Ì (fun(v281:Int) kk283=>Ä b.1 a.1.1.1 a.1.1.2 a.1.2.1 a.1.2.2.1 a.1.2.2.2.1 a.1.2.2.2.2.1 a.1.2.2.2.2.2 a.2.1.1 a.2.1.2 a.2.2.1 a.2.2.2 v281 (fun u282=>kk283 u282) (fun z278=>k z278) (fun _=>Â Ï fun r280=>k r280)) (0:Int))))) (ifb (ieq c.2 (0:Int)) (Â (Ô d e) fun r284=>Â (Ô d g) fun r285=>Â (Þ d r284 r285) fun y=>ifb (!((Ă c.1.1 y.1)&&((Ă c.1.2 y.2)&&true))) (k false) (ifb (ieq b.2 (0:Int)) (ck (a.2.1.1-(1:Int)) fun n287=>ifb (ine (Û b.1) n287) (k false) (Ì (fun(v291:Int) kk293=>Ä b.1 a.1.1.1 a.1.1.2 a.1.2.1 a.1.2.2.1 a.1.2.2.2.1 a.1.2.2.2.2.1 a.1.2.2.2.2.2 a.2.1.1 a.2.1.2 a.2.2.1 a.2.2.2 v291 (fun u292=>kk293 u292) (fun z288=>k z288) (fun _=>Â Ï fun r290=>k r290)) (0:Int))) (Ì (fun(v297:Int) kk299=>Ä b.1 a.1.1.1 a.1.1.2 a.1.2.1 a.1.2.2.1 a.1.2.2.2.1 a.1.2.2.2.2.1 a.1.2.2.2.2.2 a.2.1.1 a.2.1.2 a.2.2.1 a.2.2.2 v297 (fun u298=>kk299 u298) (fun z294=>k z294) (fun _=>Â Ï fun r296=>k r296)) (0:Int)))) (ifb (ieq b.2 (0:Int)) (ck (a.2.1.1-(1:Int)) fun n300=>ifb (ine (Û b.1) n300) (k false) (Ì (fun(v304:Int) kk306=>Ä b.1 a.1.1.1 a.1.1.2 a.1.2.1 a.1.2.2.1 a.1.2.2.2.1 a.1.2.2.2.2.1 a.1.2.2.2.2.2 a.2.1.1 a.2.1.2 a.2.2.1 a.2.2.2 v304 (fun u305=>kk306 u305) (fun z301=>k z301) (fun _=>Â Ï fun r303=>k r303)) (0:Int))) (Ì (fun(v310:Int) kk312=>Ä b.1 a.1.1.1 a.1.1.2 a.1.2.1 a.1.2.2.1 a.1.2.2.2.1 a.1.2.2.2.2.1 a.1.2.2.2.2.2 a.2.1.1 a.2.1.2 a.2.2.1 a.2.2.2 v310 (fun u311=>kk312 u311) (fun z307=>k z307) (fun _=>Â Ï fun r309=>k r309)) (0:Int)))))) (ifb (ieq f.2 (0:Int)) (Â (Ô h e) fun r313=>Â (å h r313) fun z=>ifb (!((Ă f.1.1 z.1)&&((Ă f.1.2 z.2)&&true))) (k false) (ifb (ieq c.2 (0:Int)) (Â (Ô d e) fun r315=>Â (Ô d g) fun r316=>Â (Þ d r315 r316) fun A=>ifb (!((Ă c.1.1 A.1)&&((Ă c.1.2 A.2)&&true))) (k false) (ifb (ieq b.2 (0:Int)) (ck (a.2.1.1-(1:Int)) fun n318=>ifb (ine (Û b.1) n318) (k false) (Ì (fun(v322:Int) kk324=>Ä b.1 a.1.1.1 a.1.1.2 a.1.2.1 a.1.2.2.1 a.1.2.2.2.1 a.1.2.2.2.2.1 a.1.2.2.2.2.2 a.2.1.1 a.2.1.2 a.2.2.1 a.2.2.2 v322 (fun u323=>kk324 u323) (fun z319=>k z319) (fun _=>Â Ï fun r321=>k r321)) (0:Int))) (Ì (fun(v328:Int) kk330=>Ä b.1 a.1.1.1 a.1.1.2 a.1.2.1 a.1.2.2.1 a.1.2.2.2.1 a.1.2.2.2.2.1 a.1.2.2.2.2.2 a.2.1.1 a.2.1.2 a.2.2.1 a.2.2.2 v328 (fun u329=>kk330 u329) (fun z325=>k z325) (fun _=>Â Ï fun r327=>k r327)) (0:Int)))) (ifb (ieq b.2 (0:Int)) (ck (a.2.1.1-(1:Int)) fun n331=>ifb (ine (Û b.1) n331) (k false) (Ì (fun(v335:Int) kk337=>Ä b.1 a.1.1.1 a.1.1.2 a.1.2.1 a.1.2.2.1 a.1.2.2.2.1 a.1.2.2.2.2.1 a.1.2.2.2.2.2 a.2.1.1 a.2.1.2 a.2.2.1 a.2.2.2 v335 (fun u336=>kk337 u336) (fun z332=>k z332) (fun _=>Â Ï fun r334=>k r334)) (0:Int))) (Ì (fun(v341:Int) kk343=>Ä b.1 a.1.1.1 a.1.1.2 a.1.2.1 a.1.2.2.1 a.1.2.2.2.1 a.1.2.2.2.2.1 a.1.2.2.2.2.2 a.2.1.1 a.2.1.2 a.2.2.1 a.2.2.2 v341 (fun u342=>kk343 u342) (fun z338=>k z338) (fun _=>Â Ï fun r340=>k r340)) (0:Int))))) (ifb (ieq c.2 (0:Int)) (Â (Ô d e) fun r344=>Â (Ô d g) fun r345=>Â (Þ d r344 r345) fun B=>ifb (!((Ă c.1.1 B.1)&&((Ă c.1.2 B.2)&&true))) (k false) (ifb (ieq b.2 (0:Int)) (ck (a.2.1.1-(1:Int)) fun n347=>ifb (ine (Û b.1) n347) (k false) (Ì (fun(v351:Int) kk353=>Ä b.1 a.1.1.1 a.1.1.2 a.1.2.1 a.1.2.2.1 a.1.2.2.2.1 a.1.2.2.2.2.1 a.1.2.2.2.2.2 a.2.1.1 a.2.1.2 a.2.2.1 a.2.2.2 v351 (fun u352=>kk353 u352) (fun z348=>k z348) (fun _=>Â Ï fun r350=>k r350)) (0:Int))) (Ì (fun(v357:Int) kk359=>Ä b.1 a.1.1.1 a.1.1.2 a.1.2.1 a.1.2.2.1 a.1.2.2.2.1 a.1.2.2.2.2.1 a.1.2.2.2.2.2 a.2.1.1 a.2.1.2 a.2.2.1 a.2.2.2 v357 (fun u358=>kk359 u358) (fun z354=>k z354) (fun _=>Â Ï fun r356=>k r356)) (0:Int)))) (ifb (ieq b.2 (0:Int)) (ck (a.2.1.1-(1:Int)) fun n360=>ifb (ine (Û b.1) n360) (k false) (Ì (fun(v364:Int) kk366=>Ä b.1 a.1.1.1 a.1.1.2 a.1.2.1 a.1.2.2.1 a.1.2.2.2.1 a.1.2.2.2.2.1 a.1.2.2.2.2.2 a.2.1.1 a.2.1.2 a.2.2.1 a.2.2.2 v364 (fun u365=>kk366 u365) (fun z361=>k z361) (fun _=>Â Ï fun r363=>k r363)) (0:Int))) (Ì (fun(v370:Int) kk372=>Ä b.1 a.1.1.1 a.1.1.2 a.1.2.1 a.1.2.2.1 a.1.2.2.2.1 a.1.2.2.2.2.1 a.1.2.2.2.2.2 a.2.1.1 a.2.1.2 a.2.2.1 a.2.2.2 v370 (fun u371=>kk372 u371) (fun z367=>k z367) (fun _=>Â Ï fun r369=>k r369)) (0:Int))))))) (ifb (ine c.2 (0:Int)) (ifb (!((Ă c.1.1 (0:Int))&&((Ă c.1.2 (0:Int))&&true))) (k false) (ifb (ieq f.2 (0:Int)) (Â (Ô h e) fun r373=>Â (å h r373) fun C=>ifb (!((Ă f.1.1 C.1)&&((Ă f.1.2 C.2)&&true))) (k false) (ifb (ieq c.2 (0:Int)) (Â (Ô d e) fun r375=>Â (Ô d g) fun r376=>Â (Þ d r375 r376) fun D=>ifb (!((Ă c.1.1 D.1)&&((Ă c.1.2 D.2)&&true))) (k false) (ifb (ieq b.2 (0:Int)) (ck (a.2.1.1-(1:Int)) fun n378=>ifb (ine (Û b.1) n378) (k false) (Ì (fun(v382:Int) kk384=>Ä b.1 a.1.1.1 a.1.1.2 a.1.2.1 a.1.2.2.1 a.1.2.2.2.1 a.1.2.2.2.2.1 a.1.2.2.2.2.2 a.2.1.1 a.2.1.2 a.2.2.1 a.2.2.2 v382 (fun u383=>kk384 u383) (fun z379=>k z379) (fun _=>Â Ï fun r381=>k r381)) (0:Int))) (Ì (fun(v388:Int) kk390=>Ä b.1 a.1.1.1 a.1.1.2 a.1.2.1 a.1.2.2.1 a.1.2.2.2.1 a.1.2.2.2.2.1 a.1.2.2.2.2.2 a.2.1.1 a.2.1.2 a.2.2.1 a.2.2.2 v388 (fun u389=>kk390 u389) (fun z385=>k z385) (fun _=>Â Ï fun r387=>k r387)) (0:Int)))) (ifb (ieq b.2 (0:Int)) (ck (a.2.1.1-(1:Int)) fun n391=>ifb (ine (Û b.1) n391) (k false) (Ì (fun(v395:Int) kk397=>Ä b.1 a.1.1.1 a.1.1.2 a.1.2.1 a.1.2.2.1 a.1.2.2.2.1 a.1.2.2.2.2.1 a.1.2.2.2.2.2 a.2.1.1 a.2.1.2 a.2.2.1 a.2.2.2 v395 (fun u396=>kk397 u396) (fun z392=>k z392) (fun _=>Â Ï fun r394=>k r394)) (0:Int))) (Ì (fun(v401:Int) kk403=>Ä b.1 a.1.1.1 a.1.1.2 a.1.2.1 a.1.2.2.1 a.1.2.2.2.1 a.1.2.2.2.2.1 a.1.2.2.2.2.2 a.2.1.1 a.2.1.2 a.2.2.1 a.2.2.2 v401 (fun u402=>kk403 u402) (fun z398=>k z398) (fun _=>Â Ï fun r400=>k r400)) (0:Int))))) (ifb (ieq c.2 (0:Int)) (Â (Ô d e) fun r404=>Â (Ô d g) fun r405=>Â (Þ d r404 r405) fun E=>ifb (!((Ă c.1.1 E.1)&&((Ă c.1.2 E.2)&&true))) (k false) (ifb (ieq b.2 (0:Int)) (ck (a.2.1.1-(1:Int)) fun n407=>ifb (ine (Û b.1) n407) (k false) (Ì (fun(v411:Int) kk413=>Ä b.1 a.1.1.1 a.1.1.2 a.1.2.1 a.1.2.2.1 a.1.2.2.2.1 a.1.2.2.2.2.1 a.1.2.2.2.2.2 a.2.1.1 a.2.1.2 a.2.2.1 a.2.2.2 v411 (fun u412=>kk413 u412) (fun z408=>k z408) (fun _=>Â Ï fun r410=>k r410)) (0:Int))) (Ì (fun(v417:Int) kk419=>Ä b.1 a.1.1.1 a.1.1.2 a.1.2.1 a.1.2.2.1 a.1.2.2.2.1 a.1.2.2.2.2.1 a.1.2.2.2.2.2 a.2.1.1 a.2.1.2 a.2.2.1 a.2.2.2 v417 (fun u418=>kk419 u418) (fun z414=>k z414) (fun _=>Â Ï fun r416=>k r416)) (0:Int)))) (ifb (ieq b.2 (0:Int)) (ck (a.2.1.1-(1:Int)) fun n420=>ifb (ine (Û b.1) n420) (k false) (Ì (fun(v424:Int) kk426=>Ä b.1 a.1.1.1 a.1.1.2 a.1.2.1 a.1.2.2.1 a.1.2.2.2.1 a.1.2.2.2.2.1 a.1.2.2.2.2.2 a.2.1.1 a.2.1.2 a.2.2.1 a.2.2.2 v424 (fun u425=>kk426 u425) (fun z421=>k z421) (fun _=>Â Ï fun r423=>k r423)) (0:Int))) (Ì (fun(v430:Int) kk432=>Ä b.1 a.1.1.1 a.1.1.2 a.1.2.1 a.1.2.2.1 a.1.2.2.2.1 a.1.2.2.2.2.1 a.1.2.2.2.2.2 a.2.1.1 a.2.1.2 a.2.2.1 a.2.2.2 v430 (fun u431=>kk432 u431) (fun z427=>k z427) (fun _=>Â Ï fun r429=>k r429)) (0:Int)))))) (ifb (ieq f.2 (0:Int)) (Â (Ô h e) fun r433=>Â (å h r433) fun F=>ifb (!((Ă f.1.1 F.1)&&((Ă f.1.2 F.2)&&true))) (k false) (ifb (ieq c.2 (0:Int)) (Â (Ô d e) fun r435=>Â (Ô d g) fun r436=>Â (Þ d r435 r436) fun G=>ifb (!((Ă c.1.1 G.1)&&((Ă c.1.2 G.2)&&true))) (k false) (ifb (ieq b.2 (0:Int)) (ck (a.2.1.1-(1:Int)) fun n438=>ifb (ine (Û b.1) n438) (k false) (Ì (fun(v442:Int) kk444=>Ä b.1 a.1.1.1 a.1.1.2 a.1.2.1 a.1.2.2.1 a.1.2.2.2.1 a.1.2.2.2.2.1 a.1.2.2.2.2.2 a.2.1.1 a.2.1.2 a.2.2.1 a.2.2.2 v442 (fun u443=>kk444 u443) (fun z439=>k z439) (fun _=>Â Ï fun r441=>k r441)) (0:Int))) (Ì (fun(v448:Int) kk450=>Ä b.1 a.1.1.1 a.1.1.2 a.1.2.1 a.1.2.2.1 a.1.2.2.2.1 a.1.2.2.2.2.1 a.1.2.2.2.2.2 a.2.1.1 a.2.1.2 a.2.2.1 a.2.2.2 v448 (fun u449=>kk450 u449) (fun z445=>k z445) (fun _=>Â Ï fun r447=>k r447)) (0:Int)))) (ifb (ieq b.2 (0:Int)) (ck (a.2.1.1-(1:Int)) fun n451=>ifb (ine (Û b.1) n451) (k false) (Ì (fun(v455:Int) kk457=>Ä b.1 a.1.1.1 a.1.1.2 a.1.2.1 a.1.2.2.1 a.1.2.2.2.1 a.1.2.2.2.2.1 a.1.2.2.2.2.2 a.2.1.1 a.2.1.2 a.2.2.1 a.2.2.2 v455 (fun u456=>kk457 u456) (fun z452=>k z452) (fun _=>Â Ï fun r454=>k r454)) (0:Int))) (Ì (fun(v461:Int) kk463=>Ä b.1 a.1.1.1 a.1.1.2 a.1.2.1 a.1.2.2.1 a.1.2.2.2.1 a.1.2.2.2.2.1 a.1.2.2.2.2.2 a.2.1.1 a.2.1.2 a.2.2.1 a.2.2.2 v461 (fun u462=>kk463 u462) (fun z458=>k z458) (fun _=>Â Ï fun r460=>k r460)) (0:Int))))) (ifb (ieq c.2 (0:Int)) (Â (Ô d e) fun r464=>Â (Ô d g) fun r465=>Â (Þ d r464 r465) fun H=>ifb (!((Ă c.1.1 H.1)&&((Ă c.1.2 H.2)&&true))) (k false) (ifb (ieq b.2 (0:Int)) (ck (a.2.1.1-(1:Int)) fun n467=>ifb (ine (Û b.1) n467) (k false) (Ì (fun(v471:Int) kk473=>Ä b.1 a.1.1.1 a.1.1.2 a.1.2.1 a.1.2.2.1 a.1.2.2.2.1 a.1.2.2.2.2.1 a.1.2.2.2.2.2 a.2.1.1 a.2.1.2 a.2.2.1 a.2.2.2 v471 (fun u472=>kk473 u472) (fun z468=>k z468) (fun _=>Â Ï fun r470=>k r470)) (0:Int))) (Ì (fun(v477:Int) kk479=>Ä b.1 a.1.1.1 a.1.1.2 a.1.2.1 a.1.2.2.1 a.1.2.2.2.1 a.1.2.2.2.2.1 a.1.2.2.2.2.2 a.2.1.1 a.2.1.2 a.2.2.1 a.2.2.2 v477 (fun u478=>kk479 u478) (fun z474=>k z474) (fun _=>Â Ï fun r476=>k r476)) (0:Int)))) (ifb (ieq b.2 (0:Int)) (ck (a.2.1.1-(1:Int)) fun n480=>ifb (ine (Û b.1) n480) (k false) (Ì (fun(v484:Int) kk486=>Ä b.1 a.1.1.1 a.1.1.2 a.1.2.1 a.1.2.2.1 a.1.2.2.2.1 a.1.2.2.2.2.1 a.1.2.2.2.2.2 a.2.1.1 a.2.1.2 a.2.2.1 a.2.2.2 v484 (fun u485=>kk486 u485) (fun z481=>k z481) (fun _=>Â Ï fun r483=>k r483)) (0:Int))) (Ì (fun(v490:Int) kk492=>Ä b.1 a.1.1.1 a.1.1.2 a.1.2.1 a.1.2.2.1 a.1.2.2.2.1 a.1.2.2.2.2.1 a.1.2.2.2.2.2 a.2.1.1 a.2.1.2 a.2.2.1 a.2.2.2 v490 (fun u491=>kk492 u491) (fun z487=>k z487) (fun _=>Â Ï fun r489=>k r489)) (0:Int)))))))))))
def aff (a:Val Å) (b:Val Ã) (c:Val Ã):Option (Bool):=ae4 a b c some
end Go.Proofs.ZzM
end
