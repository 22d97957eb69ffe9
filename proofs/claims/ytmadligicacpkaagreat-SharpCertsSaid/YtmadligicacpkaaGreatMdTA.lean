/- lemmas -/
import Derived.Test.YtmadligicacpkaaGreatAmF
set_option linter.all false
set_option linter.unusedSectionVars false
set_option linter.unusedVariables false
set_option linter.unusedSimpArgs false
noncomputable section
variable {ρ:Type}
set_option maxRecDepth 100000
namespace Go.Proofs.ZzM
open Go Go.Am
abbrev tI:Ty:=.int .i64
abbrev Â:Ty:=(.pair tI tI)
abbrev ć:Ty:=(.pair tI Â)
abbrev ç:Ty:=(.pair Â Â)
abbrev ł:Ty:=(.pair Â tI)
abbrev ő:Ty:=(.pair tI ł)
abbrev tD:Ty:=(.pair ç tI)
abbrev Ï:Ty:=(.pair tI (.slice ć))
abbrev ų:Ty:=(.pair Â (.pair ć ć))
abbrev xi:Ty:=(.pair (.slice ć) (.slice Â))
abbrev Ð:Ty:=(.pair tI (.pair tI (.pair tI (.pair Â ł))))
abbrev Ê:Ty:=(.pair tI (.pair tI (.pair (.slice tI) (.pair (.slice tI) (.pair tI ć)))))
abbrev OJ:Ty:=(.pair tI (.pair tI (.pair tI (.pair tI (.pair tI ć)))))
abbrev Ä:Ty:=(.pair Â (.pair (.slice Ð) (.pair (.slice Â) (.pair (.slice ő) (.pair (.slice Ê) (.slice Â))))))
abbrev jk:Ty:=(.pair Ä (.pair Ï (.pair (.slice (.slice tI)) tI)))
abbrev ö:Ty:=(.pair Ä (.pair Â (.pair .bool (.pair tI (.slice tI)))))
abbrev tyroom:Ty:=(.pair Ä Ï)
abbrev aqq:Ty:=(.pair Ä (.pair (.slice Â) (.pair Ï (.slice Â))))
abbrev aa:Ty:=(.slice Â)
abbrev ab:Ty:=(.slice Ê)
abbrev ac:Ty:=(.slice Ð)
abbrev ae:Ty:=(.slice ő)
abbrev af:Ty:=(.slice tI)
abbrev ah:Ty:=(.pair tI (.pair tI (.pair ac (.pair aa (.pair ae (.pair ab aa))))))
abbrev ai:Ty:=(.slice ć)
abbrev aj:Ty:=(.pair tI (.pair tI (.pair ac (.pair aa (.pair ae (.pair ab (.pair aa (.pair tI (.pair tI (.pair ac (.pair aa (.pair ae (.pair ab (.pair aa (.pair tI (.pair tI (.pair ac (.pair aa (.pair ae (.pair ab (.pair aa (.pair (.map tI .bool) (.pair (.map tI .bool) ac)))))))))))))))))))))))
abbrev ak:Ty:=(.map tI .bool)
abbrev am:Ty:=(.slice af)
abbrev ao:Ty:=(.pair af (.pair tI (.pair tI (.pair tI (.pair ac (.pair aa (.pair ae (.pair ab (.pair aa (.pair tI (.pair tI (.pair tI (.pair tI (.pair tI (.pair tI (.pair af (.pair af (.pair tI (.pair tI (.pair tI (.pair tI (.pair aa (.pair tI (.pair tI (.pair ac (.pair aa (.pair ae (.pair ab (.pair aa (.pair tI (.pair ai (.pair tI (.pair tI (.pair tI (.pair tI (.pair tI (.pair tI (.pair tI (.pair tI (.pair am (.pair am am)))))))))))))))))))))))))))))))))))))))))
abbrev aq:Ty:=(.pair tI (.pair tI (.pair ac (.pair aa (.pair ae (.pair ab (.pair aa ah)))))))
abbrev ar:Ty:=(.map tI Ð)
abbrev au:Ty:=(.pair tI af)
abbrev aw:Ty:=(.pair tI (.pair tI (.pair tI (.pair ac (.pair aa (.pair ae (.pair ab (.pair aa (.pair tI (.pair tI (.pair tI (.pair tI (.pair tI (.pair tI (.pair af (.pair af (.pair tI (.pair tI (.pair tI (.pair tI aa))))))))))))))))))))
abbrev ax:Ty:=(.pair tI (.pair tI (.pair ac (.pair aa (.pair ae (.pair ab (.pair aa (.pair tI ć))))))))
abbrev ay:Ty:=(.ptr tyroom)
abbrev az:Ty:=(.pair tI (.pair tI (.pair ac (.pair aa (.pair ae (.pair ab (.pair aa (.pair tI (.pair tI (.pair af (.pair af (.pair tI (.pair tI (.pair tI au))))))))))))))
abbrev aA:Ty:=(.slice .bool)
abbrev aB:Ty:=(.pair tI (.pair tI (.pair ac (.pair aa (.pair ae (.pair ab (.pair aa OJ)))))))
abbrev aC:Ty:=(.pair Ä Ê)
abbrev aD:Ty:=(.pair tI ah)
abbrev aE:Ty:=(.pair Ä Â)
abbrev aF:Ty:=(.pair tI aa)
abbrev aG:Ty:=(.pair Ä tI)
abbrev aH:Ty:=(.pair af tI)
abbrev aI:Ty:=(.pair tI Ï)
abbrev aJ:Ty:=(.pair af af)
abbrev aK:Ty:=(.pair tI (.pair tI (.pair ac (.pair aa (.pair ae (.pair ab (.pair aa aq)))))))
abbrev aL:Ty:=(.pair .bool tI)
abbrev aM:Ty:=(.pair tI (.pair tI au))
abbrev aO:Ty:=(.pair tI (.pair tI .bool))
abbrev aP:Ty:=(.pair aA af)
abbrev aQ:Ty:=(.pair tI xi)
abbrev aR:Ty:=(.pair tI am)
abbrev aS:Ty:=(.slice am)
abbrev aT:Ty:=(.pair ay Â)
abbrev aU:Ty:=(.pair Ä Ä)
abbrev aV:Ty:=(.pair tI aF)
abbrev aW:Ty:=(.ptr Â)
abbrev aX:Ty:=(.ptr aqq)
abbrev aY:Ty:=(.pair af (.pair aA aJ))
abbrev aZ:Ty:=(.pair Â Ê)
abbrev ba:Ty:=(.pair aa Â)
abbrev bc:Ty:=(.pair Ï Â)
abbrev bf:Ty:=(.pair tI OJ)
abbrev bg:Ty:=(.pair ö (.pair (.int .u8) tI))
abbrev bh:Ty:=(.pair ő .bool)
abbrev bi:Ty:=(.pair (.int .u64) (.int .u64))
abbrev bj:Ty:=(.pair Ï af)
abbrev bm:Ty:=(.pair tI (.pair tI ć))
abbrev bn:Ty:=(.pair Ä (.pair ar tI))
def ļ (d:Val am) (e:Int) (b:Int) (a:Int) (f:Int→Int→Option ρ) (g:Int→Option ρ):Option ρ :=
  ifb (ilt a e) (õ d a fun h=>ck (b+(Ú h)) fun c=>ifb (ilt c 0) (none) (ck (a+(1:Int)) fun i=>f c i)) (g b)
def ñ (d:Val am) (e:Int) (a:Int) (b:Val af) (f:Int→Val af→Option ρ) (g:Val af→Option ρ):Option ρ :=
  ifb (ilt a e) (õ d a fun c=>í (ë ((List.length b)+(List.length c))) (ck (a+(1:Int)) fun h=>f h (b++c))) (g b)
def jf (a:Val am) (k:Val af→Option ρ):Option ρ :=
  Ñ (fun(c:Val Â) g=>ļ a (Ú a) c.1 c.2 (fun h i=>g (h,i)) (fun d=>ifb (ilt d 0) (none) (ck (d-(0:Int)) fun b=>ifb (igt b 0) (í ((ilt 0 b)&&(ë (Int.toNat b))) (í (ile 0 (Ĕ (List.replicate (Int.toNat b) (0:Int)))) (Ñ (fun(e:Val au) j=>ñ a (Ú a) e.1 e.2 (fun l m=>j (l,m)) (fun n=>k n)) ((0:Int),(List.take 0 (List.replicate (Int.toNat b) (0:Int))))))) (Ñ (fun(f:Val au) o=>ñ a (Ú a) f.1 f.2 (fun p q=>o (p,q)) (fun r=>k r)) ((0:Int),[]))))) ((0:Int),(0:Int))
def ï (a:Val am):Option ((Val af)):=jf a some
def Bj (l:List (Val Ð)) (m:List (Int×Bool)):Option (List (Val Ð)) :=
  í (ë l.length) (some (l.filter fun g=>(tR (k:=tI) (v:=.bool) g.1 m).getD false))
def uq (c:Val af) (d:Int) (a:Int) (b:Val ak) (e:Int→Val ak→Option ρ) (f:Val ak→Option ρ):Option ρ :=
  ifb (ilt a d) (õ c a fun g=>ck (a+(1:Int)) fun h=>e h (OW (k:=tI) (v:=.bool) g true b)) (f b)
def A9 (j:Val aa) (l:Int) (f:Val ac) (g:Val ab) (b:Int) (c:Val ak) (d:Val ak) (e:Int→Val ak→Val ak→Option ρ) (m:(Val (.pair ak ak))→Option ρ):Option ρ :=
  ifb (ilt b l) (õ j b fun a=>ifb (ü a.1 0) (none) (ifb (ü a.1 1) (õ f a.2 fun n=>ck (b+(1:Int)) fun o=>e o (OW (k:=tI) (v:=.bool) n.1 true c) d) (ifb (ü a.1 2) (õ f a.2 fun p=>ck (b+(1:Int)) fun q=>e q (OW (k:=tI) (v:=.bool) p.1 true c) d) (í (ü a.1 3) (õ g a.2 fun r=>õ g a.2 fun s=>Ã (ï ([r.2.2.1,s.2.2.2.1])) fun h=>Ñ (fun(i:(Val (.pair tI ak))) t=>uq h (Ú h) i.1 i.2 (fun u w=>t (u,w)) (fun x=>ck (b+(1:Int)) fun y=>e y x (OW (k:=tI) (v:=.bool) a.2 true d))) ((0:Int),c)))))) (m (c,d))
def un (c:Val aa) (d:Int) (a:Int) (b:Val ak) (e:Int→Val ak→Option ρ) (f:Val ak→Option ρ):Option ρ :=
  ifb (ilt a d) (õ c a fun g=>ck (a+(1:Int)) fun h=>e h (OW (k:=tI) (v:=.bool) g.1 true b)) (f b)
def uk (e:Val aa) (f:Int) (g:Val ak) (a:Int) (b:Val aa) (c:Int→Val aa→Option ρ) (h:Val aa→Option ρ):Option ρ :=
  ifb (ilt a f) (õ e a fun d=>abd (k:=tI) (v:=.bool) d.1 g (fun i=>ifb i (í (ë ((List.length b)+(List.length ([d])))) (ck (a+(1:Int)) fun j=>c j (b++([d])))) (ck (a+(1:Int)) fun l=>c l b)) (ck (a+(1:Int)) fun m=>c m b)) (h b)
def uj (e:Val ae) (f:Int) (g:Val ak) (a:Int) (b:Val ae) (c:Int→Val ae→Option ρ) (h:Val ae→Option ρ):Option ρ :=
  ifb (ilt a f) (õ e a fun d=>abd (k:=tI) (v:=.bool) d.1 g (fun i=>ifb i (í (ë ((List.length b)+(List.length ([d])))) (ck (a+(1:Int)) fun j=>c j (b++([d])))) (ck (a+(1:Int)) fun l=>c l b)) (ck (a+(1:Int)) fun m=>c m b)) (h b)
def uh (e:Val ab) (f:Int) (g:Val ak) (a:Int) (b:Val ab) (d:Int→Val ab→Option ρ) (h:Val ab→Option ρ):Option ρ :=
  ifb (ilt a f) (õ e a fun c=>abd (k:=tI) (v:=.bool) a g (fun i=>ifb i (í (ë (List.length c.2.2.1)) (í (ë (List.length c.2.2.2.1)) (í (ë ((List.length b)+(List.length ([c])))) (ck (a+(1:Int)) fun j=>d j (b++([c])))))) (ck (a+(1:Int)) fun l=>d l b)) (ck (a+(1:Int)) fun m=>d m b)) (h b)
def nB (p:Val aV) (v:Val aj) (k:Val Ä→Option ρ):Option ρ :=
  Ñ (fun(a:Val aF) d=>uk v.2.2.2.1 (Ú v.2.2.2.1) v.2.2.2.2.2.2.2.2.2.2.2.2.2.2.2.2.2.2.2.2.2.1 a.1 a.2 (fun e f=>d (e,f)) (fun g=>Ñ (fun(b:(Val (.pair tI ae))) h=>uj v.2.2.2.2.1 (Ú v.2.2.2.2.1) v.2.2.2.2.2.2.2.2.2.2.2.2.2.2.2.2.2.2.2.2.2.1 b.1 b.2 (fun i j=>h (i,j)) (fun l=>Ñ (fun(c:(Val (.pair tI ab))) m=>uh v.2.2.2.2.2.1 (Ú v.2.2.2.2.2.1) v.2.2.2.2.2.2.2.2.2.2.2.2.2.2.2.2.2.2.2.2.2.2.1 c.1 c.2 (fun n o=>m (n,o)) (fun q=>k ((p.1,p.2.1),v.2.2.2.2.2.2.2.2.2.2.2.2.2.2.2.2.2.2.2.2.2.2.2,g,l,q,p.2.2))) ((0:Int),[]))) ((0:Int),[]))) ((0:Int),[])
def Hk (a:Val Ä) (d:Val aa) (b:Val aa) (kA:Val aV→Val aj→Option ρ):Option ρ :=
  Ñ (fun(c:(Val (.pair tI (.pair ak ak)))) g=>A9 d (Ú d) a.2.1 a.2.2.2.2.1 c.1 c.2.1 c.2.2 (fun h i j=>g (h,i,j)) (fun e=>Ñ (fun(f:(Val (.pair tI ak))) k=>un b (Ú b) f.1 f.2 (fun l m=>k (l,m)) (fun n=>kA (a.1.1,a.1.2,b) (a.1.1,a.1.2,a.2.1,a.2.2.1,a.2.2.2.1,a.2.2.2.2.1,a.2.2.2.2.2,(0:Int),(0:Int),[],[],[],[],[],a.1.1,a.1.2,a.2.1,a.2.2.1,a.2.2.2.1,a.2.2.2.2.1,a.2.2.2.2.2,n,e.2,[]))) ((0:Int),e.1))) ((0:Int),[],[])
def alD (a:Val Ä) (b:Val aa) (c:Val aa) (k:Val Ä→Option ρ):Option ρ :=
  Hk a b c fun p v=>Ã (Bj v.2.2.2.2.2.2.2.2.2.2.2.2.2.2.2.2.1 v.2.2.2.2.2.2.2.2.2.2.2.2.2.2.2.2.2.2.2.2.2.1) fun z=>nB p (v.1,v.2.1,v.2.2.1,v.2.2.2.1,v.2.2.2.2.1,v.2.2.2.2.2.1,v.2.2.2.2.2.2.1,v.2.2.2.2.2.2.2.1,v.2.2.2.2.2.2.2.2.1,v.2.2.2.2.2.2.2.2.2.1,v.2.2.2.2.2.2.2.2.2.2.1,v.2.2.2.2.2.2.2.2.2.2.2.1,v.2.2.2.2.2.2.2.2.2.2.2.2.1,v.2.2.2.2.2.2.2.2.2.2.2.2.2.1,v.2.2.2.2.2.2.2.2.2.2.2.2.2.2.1,v.2.2.2.2.2.2.2.2.2.2.2.2.2.2.2.1,v.2.2.2.2.2.2.2.2.2.2.2.2.2.2.2.2.1,v.2.2.2.2.2.2.2.2.2.2.2.2.2.2.2.2.2.1,v.2.2.2.2.2.2.2.2.2.2.2.2.2.2.2.2.2.2.1,v.2.2.2.2.2.2.2.2.2.2.2.2.2.2.2.2.2.2.2.1,v.2.2.2.2.2.2.2.2.2.2.2.2.2.2.2.2.2.2.2.2.1,v.2.2.2.2.2.2.2.2.2.2.2.2.2.2.2.2.2.2.2.2.2.1,v.2.2.2.2.2.2.2.2.2.2.2.2.2.2.2.2.2.2.2.2.2.2.1,z) k
def Tb (a:Val Ä) (b:Val aa) (c:Val aa):Option (Val Ä):=alD a b c some
def K7 (a:Val Â) (b:Int) (c:Int) (k:Bool→Option ρ):Option ρ :=
  ifb (ile b a.1) (ifb (ile a.1 a.2) (k (ile a.2 c)) (k false)) (k false)
def Ν (a:Val Â) (b:Int) (c:Int):Option (Bool):=K7 a b c some
def KY (a:Int) (b:Int) (c:Int) (k:Bool→Option ρ):Option ρ :=
  ifb (ile b a) (k (ile a c)) (k false)
def Ġ (a:Int) (b:Int) (c:Int):Option (Bool):=KY a b c some
def Ss (a:Int) (k:Bool→Option ρ):Option ρ :=
  Ã (Ġ a (0:Int) (20000:Int)) fun b=>k b
def nX (a:Int):Option (Bool):=Ss a some
def ZH (a:Int) (k:Int→Option ρ):Option ρ :=
  ifb (ilt a 0) (k (IntKind.wrap .u64 (0-(IntKind.wrap .u64 a)))) (k (IntKind.wrap .u64 a))
def sG (a:Int):Option (Int):=ZH a some
def Bc (b:Int) (a:Int) (c:Int→Int→Option ρ) (d:Int→Option ρ):Option ρ :=
  ifb (ine a 0) (ifb (ü a 0) (none) (c a (Int.tmod b a))) (d b)
def af9 (b:Int) (c:Int) (k:Int→Option ρ):Option ρ :=
  Ñ (fun(a:Val bi) d=>Bc a.1 a.2 (fun e f=>d (e,f)) (fun g=>k g)) (b,c)
def Tc (a:Int) (b:Int):Option (Int):=af9 a b some
def RV (a:Val Â) (k:Bool→Option ρ):Option ρ :=
  ifb (ige a.2 1) (ifb (ile a.2 2147483647) (Ã (sG a.1) fun b=>ifb (ile b 2147483647) (Ã (sG a.1) fun c=>Ã (sG a.2) fun d=>Ã (Tc c d) fun e=>k (ieq e 1)) (k false)) (k false)) (k false)
def vf (a:Val Â):Option (Bool):=RV a some
def EU (a:Val Ð) (k:Bool→Option ρ):Option ρ :=
  Ã (vf a.2.2.2.2.1) fun b=>ifb b (Ã (Ġ a.2.2.2.2.1.1 (-1000:Int) (1000:Int)) fun c=>ifb c (Ã (Ġ a.1 (1:Int) (1099511627776:Int)) fun d=>ifb d (Ã (nX a.2.1) fun e=>ifb e (Ã (Ġ a.2.2.1 (1:Int) (1125899906842624:Int)) fun f=>ifb f (Ã (Ν a.2.2.2.1 (-1073741824:Int) (1073741824:Int)) fun g=>ifb g (ifb (ile a.2.2.2.2.1.2 100) (Ã (Ġ a.2.2.2.2.2 (0:Int) (1048576:Int)) fun h=>k h) (k false)) (k false)) (k false)) (k false)) (k false)) (Ã (Ġ a.1 (1:Int) (1099511627776:Int)) fun i=>ifb i (Ã (nX a.2.1) fun j=>ifb j (Ã (Ġ a.2.2.1 (1:Int) (1125899906842624:Int)) fun l=>ifb l (Ã (Ν a.2.2.2.1 (-1073741824:Int) (1073741824:Int)) fun m=>ifb m (k false) (k false)) (k false)) (k false)) (k false))) (Ã (Ġ a.1 (1:Int) (1099511627776:Int)) fun n=>ifb n (Ã (nX a.2.1) fun o=>ifb o (Ã (Ġ a.2.2.1 (1:Int) (1125899906842624:Int)) fun p=>ifb p (Ã (Ν a.2.2.2.1 (-1073741824:Int) (1073741824:Int)) fun q=>ifb q (k false) (k false)) (k false)) (k false)) (k false))
def w8 (a:Val Ð):Option (Bool):=EU a some
def jh (e:Val ac) (f:Int) (g:Val ac) (a:Int) (b:Int→Option ρ) (c:Int→Option ρ) (h:Unit→Option ρ):Option ρ :=
  ifb (ilt a f) (õ e a fun d=>Ã (w8 d) fun i=>ifb (!i) (c (1:Int)) (ifb (igt a 0) (ck (a-(1:Int)) fun j=>õ g j fun k=>ifb (ile d.1 k.1) (c (6:Int)) (ck (a+(1:Int)) fun l=>b l)) (ck (a+(1:Int)) fun m=>b m))) (h ())
def qj (a:Val Ä) (k:Int→Option ρ):Option ρ :=
  Ñ (fun(b:Int) c=>jh a.2.1 (Ú a.2.1) a.2.1 b (fun d=>c d) (fun e=>k e) (fun _=>k (0:Int))) (0:Int)
def ž (a:Val Ä):Option (Int):=qj a some
def nc (d:Val ac) (e:Int) (a:Int) (b:Val ar) (f:Int→Val ar→Option ρ) (g:Val ar→Option ρ):Option ρ :=
  ifb (ilt a e) (õ d a fun c=>ck (a+(1:Int)) fun h=>f h (OW (k:=tI) (v:=Ð) c.1 c b)) (g b)
def ER (a:Val Ä) (k:Val ar→Option ρ):Option ρ :=
  Ñ (fun(b:(Val (.pair tI ar))) c=>nc a.2.1 (Ú a.2.1) b.1 b.2 (fun d e=>c (d,e)) (fun f=>k f)) ((0:Int),[])
def υ (a:Val Ä):Option ((Val ar)):=ER a some
def hO (b:Val af) (c:Int) (d:Int) (a:Int) (e:Int→Option ρ) (f:Int→Option ρ) (g:Unit→Option ρ):Option ρ :=
  ifb (ilt a d) (õ b a fun h=>ifb (ieq c h) (f a) (ck (a+(1:Int)) fun i=>e i)) (g ())
def mu (a:Val af) (b:Int) (k:Int→Option ρ):Option ρ :=
  Ñ (fun(c:Int) d=>hO a b (Ú a) c (fun e=>d e) (fun f=>k f) (fun _=>k (-1:Int))) (0:Int)
def jJ (a:Val af) (b:Int):Option (Int):=mu a b some
def jV (a:Val af) (b:Int) (k:Bool→Option ρ):Option ρ :=
  Ã (jJ a b) fun c=>k (ige c 0)
def ĩ (a:Val af) (b:Int):Option (Bool):=jV a b some
def wG (f:Val ab) (g:Int) (d:Int) (a:Int) (b:Val af) (e:Int→Val af→Option ρ) (h:Val af→Option ρ):Option ρ :=
  ifb (ilt a g) (õ f a fun c=>Ã (ĩ c.2.2.1 d) fun i=>Ã (ĩ c.2.2.2.1 d) fun j=>ifb (!(i==j)) (í (ë ((List.length b)+(List.length ([c.2.1])))) (ck (a+(1:Int)) fun k=>e k (b++([c.2.1])))) (ck (a+(1:Int)) fun l=>e l b)) (h b)
def wF (e:Val aa) (f:Int) (g:Int) (a:Int) (b:Val af) (d:Int→Val af→Option ρ) (h:Val af→Option ρ):Option ρ :=
  ifb (ilt a f) (õ e a fun c=>ifb (ieq c.1 g) (í (ë ((List.length b)+(List.length ([c.2])))) (ck (a+(1:Int)) fun i=>d i (b++([c.2])))) (ck (a+(1:Int)) fun j=>d j b)) (h b)
def Z4 (a:Val Ä) (b:Val Ð) (k:Val af→Option ρ):Option ρ :=
  Ñ (fun(d:Val au) f=>wG a.2.2.2.2.1 (Ú a.2.2.2.2.1) b.1 d.1 d.2 (fun g h=>f (g,h)) (fun i=>Ñ (fun(e:Val au) j=>wF a.2.2.2.2.2 (Ú a.2.2.2.2.2) b.1 e.1 e.2 (fun l m=>j (l,m)) (fun c=>í (ë (List.length c)) (í (ë (List.length (Fs c))) (k (BF (Fs c)))))) ((0:Int),i))) ((0:Int),[b.2.1])
def pf (a:Val Ä) (b:Val Ð):Option ((Val af)):=Z4 a b some
def sk (e:Val af) (f:Int) (c:Int) (a:Int) (b:Val aa) (g:Int→Val aa→Option ρ) (h:Val aa→Option ρ):Option ρ :=
  ifb (ilt a f) (õ e a fun d=>í (ë ((List.length b)+(List.length ([(c,d)])))) (ck (a+(1:Int)) fun i=>g i (b++([(c,d)])))) (h b)
def sl (f:Val ac) (g:Int) (h:Int) (i:Int) (j:Val ac) (k:Val aa) (l:Val ae) (m:Val ab) (n:Val aa) (a:Int) (b:Val aa) (o:Int→Val aa→Option ρ) (p:Val aa→Option ρ):Option ρ :=
  ifb (ilt a g) (õ f a fun c=>Ã (pf ((h,i),j,k,l,m,n) c) fun d=>Ñ (fun(e:Val aF) q=>sk d (Ú d) c.1 e.1 e.2 (fun r s=>q (r,s)) (fun t=>ck (a+(1:Int)) fun u=>o u t)) ((0:Int),b)) (p b)
def Sk (a:Val Ä) (k:Val aa→Option ρ):Option ρ :=
  Ñ (fun(b:Val aF) c=>sl a.2.1 (Ú a.2.1) a.1.1 a.1.2 a.2.1 a.2.2.1 a.2.2.2.1 a.2.2.2.2.1 a.2.2.2.2.2 b.1 b.2 (fun d e=>c (d,e)) (fun f=>k f)) ((0:Int),[])
def qE (a:Val Ä):Option ((Val aa)):=Sk a some
def td (a:Val ar) (b:Int) (c:Int) (k:Int→Option ρ):Option ρ :=
  abd (k:=tI) (v:=Ð) b a (fun d=>ifb (ilt c d.2.1) (k (4:Int)) (k (0:Int))) (k (5:Int))
def i9 (a:Val ar) (b:Int) (c:Int):Option (Int):=td a b c some
def ET (b:Int) (a:Int) (c:(Val (.ptr ar))) (k:Int→Option ρ):Option ρ :=
  Ã (nX a) fun d=>ifb (!d) (k (1:Int)) (Ã (i9 c b a) fun e=>k e)
def Ň (a:Int) (b:Int) (c:(Val (.ptr ar))):Option (Int):=ET a b c some
def kr (d:Val ae) (e:Int) (f:Int) (g:Int) (h:Int) (a:Int) (b:Int→Option ρ) (i:Int→Option ρ) (j:Unit→Option ρ):Option ρ :=
  ifb (ilt a e) (õ d a fun c=>ifb (ieq c.1 f) (ifb (ile c.2.1.1 h) (ifb (ile g c.2.1.2) (i a) (ck (a+(1:Int)) fun k=>b k)) (ck (a+(1:Int)) fun l=>b l)) (ck (a+(1:Int)) fun m=>b m)) (j ())
def Λ (d:Val aa) (e:Int) (f:Int) (g:Int) (h:Int) (a:Int) (b:Int→Option ρ) (i:Int→Option ρ) (j:Unit→Option ρ):Option ρ :=
  ifb (ilt a e) (õ d a fun c=>ifb (ieq c.1 f) (Ã (Ġ c.2 g h) fun k=>ifb k (i a) (ck (a+(1:Int)) fun l=>b l)) (ck (a+(1:Int)) fun m=>b m)) (j ())
def wH (b:Val Ä) (e:Val ar) (c:Int) (k:Int→Option ρ):Option ρ :=
  õ b.2.2.2.1 c fun a=>Ã (Ν a.2.1 (0:Int) (20000:Int)) fun f=>ifb (!f) (k (1:Int)) (Ã (Ġ a.2.2 (0:Int) (1048576:Int)) fun g=>ifb (!g) (k (1:Int)) (Ã (i9 e a.1 a.2.1.1) fun d=>ifb (ine d 0) (k d) (í ((ile 0 c)&&(ile c (Ĕ b.2.2.2.1))) (Ñ (fun(h:Int) i=>kr (List.take (Int.toNat c) b.2.2.2.1) (Ú (List.take (Int.toNat c) b.2.2.2.1)) a.1 a.2.1.1 a.2.1.2 h (fun j=>i j) (fun l=>ifb (ige l 0) (k (9:Int)) (Ñ (fun(m:Int) n=>Λ b.2.2.1 (Ú b.2.2.1) a.1 a.2.1.1 a.2.1.2 m (fun o=>n o) (fun p=>ifb (ige p 0) (k (9:Int)) (k (0:Int))) (fun _=>k (0:Int))) (0:Int))) (fun _=>Ñ (fun(q:Int) r=>Λ b.2.2.1 (Ú b.2.2.1) a.1 a.2.1.1 a.2.1.2 q (fun s=>r s) (fun t=>ifb (ige t 0) (k (9:Int)) (k (0:Int))) (fun _=>k (0:Int))) (0:Int))) (0:Int)))))
def Ψ (a:Val Ä) (b:Val ar) (c:Int):Option (Int):=wH a b c some
def wE (c:Int) (d:Val af) (b:Val af) (a:Int) (e:Int→Option ρ) (f:Int→Option ρ) (g:Unit→Option ρ):Option ρ :=
  ifb (ilt a c) (í ((ile 0 a)&&(ilt a (Ĕ b))) (Ŋ b (Int.toNat a) fun h=>Ã (ĩ d h) fun i=>ifb i (f a) (ck (a+(1:Int)) fun j=>e j))) (g ())
def kL (f:Val af) (b:Int) (c:Int) (a:Val af) (d:Int→Int→Val af→Option ρ) (g:Val au→Option ρ):Option ρ :=
  ifb (ilt c (Ú a)) (í ((ile 0 c)&&(ilt c (Ĕ a))) (Ŋ a (Int.toNat c) fun e=>Ã (ĩ f e) fun h=>ifb (!h) (í ((ile 0 b)&&(ilt b (Ĕ a))) (Ŋ a (Int.toNat b) fun l=>ck (b+(1:Int)) fun i=>ck (c+(1:Int)) fun j=>d i j (List.set a (Int.toNat b) e))) (ck (c+(1:Int)) fun k=>d b k a))) (g (b,a))
def ZX (b:Val af) (e:Val af) (k:Val af→Option ρ):Option ρ :=
  í (ë (List.length b)) (Ñ (fun(f:Int) g=>wE (Ú b) e b f (fun h=>g h) (fun c=>ifb (ieq c (-1:Int)) (k b) (ck (c+(1:Int)) fun i=>Ñ (fun(d:(Val (.pair tI au))) j=>kL e d.1 d.2.1 d.2.2 (fun l m n=>j (l,m,n)) (fun a=>í ((ile 0 a.1)&&(ile a.1 (Ĕ a.2))) (í ((ile 0 a.1)&&(ile a.1 (Ĕ (List.take (Int.toNat a.1) a.2++List.replicate (List.length a.2-(Int.toNat a.1)) (0:Int)++List.drop ((Int.toNat a.1)+(List.length a.2-(Int.toNat a.1))) a.2)))) (k (List.take (Int.toNat a.1) (List.drop 0 (List.take (Int.toNat a.1) a.2++List.replicate (List.length a.2-(Int.toNat a.1)) (0:Int)++List.drop ((Int.toNat a.1)+(List.length a.2-(Int.toNat a.1))) a.2))))))) (c,i,b))) (fun _=>k b)) (0:Int))
def ũ (a:Val af) (b:Val af):Option ((Val af)):=ZX a b some
def oY (e:Val af) (f:Val af) (g:Int) (a:Int) (b:Int→Option ρ) (c:Bool→Option ρ) (h:Unit→Option ρ):Option ρ :=
  ifb (ilt a g) (õ f a fun d=>Ã (Ġ d (1:Int) (1099511627776:Int)) fun i=>ifb (!i) (c false) (ifb (igt a 0) (ck (a-(1:Int)) fun j=>õ e j fun k=>ifb (ile d k) (c false) (ck (a+(1:Int)) fun l=>b l)) (ck (a+(1:Int)) fun m=>b m))) (h ())
def K6 (a:Val af) (k:Bool→Option ρ):Option ρ :=
  Ñ (fun(b:Int) c=>oY a a (Ú a) b (fun d=>c d) (fun e=>k e) (fun _=>k (ile (Ú a) 6))) (0:Int)
def mR (a:Val af):Option (Bool):=K6 a some
def wI (d:Val ae) (e:Int) (f:Int) (g:Int) (a:Int) (c:Int→Option ρ) (h:Int→Option ρ) (i:Unit→Option ρ):Option ρ :=
  ifb (ilt a e) (õ d a fun b=>ifb (ieq b.1 f) (Ã (Ġ g b.2.1.1 b.2.1.2) fun j=>ifb j (h a) (ck (a+(1:Int)) fun k=>c k)) (ck (a+(1:Int)) fun l=>c l)) (i ())
def Z5 (a:Val Ä) (c:Int) (d:Int) (k:Val bh→Option ρ):Option ρ :=
  Ñ (fun(e:Int) f=>wI a.2.2.2.1 (Ú a.2.2.2.1) c d e (fun g=>f g) (fun b=>ifb (ilt b 0) (k (((0:Int),((0:Int),(0:Int)),(0:Int)),false)) (õ a.2.2.2.1 b fun h=>k (h,true))) (fun _=>k (((0:Int),((0:Int),(0:Int)),(0:Int)),false))) (0:Int)
def BA (a:Val Ä) (b:Int) (c:Int):Option ((Val bh)):=Z5 a b c some
def iJ (b:Val ab) (c:Int) (d:Int) (a:Int) (e:Int→Option ρ) (f:Int→Option ρ) (g:Unit→Option ρ):Option ρ :=
  ifb (ilt a c) (õ b a fun h=>ifb (ieq h.1 d) (f a) (ck (a+(1:Int)) fun i=>e i)) (g ())
def iI (c:Val ar) (b:Int) (d:Val af) (e:Int) (f:Int) (a:Int) (g:Int→Option ρ) (h:Int→Option ρ) (i:Unit→Option ρ):Option ρ :=
  ifb (ilt a e) (õ d a fun j=>Ã (i9 c j f) fun k=>ifb (ieq k b) (h b) (ck (a+(1:Int)) fun l=>g l)) (i ())
def Ŗ (d:Val ar) (b:Val af) (e:Int) (f:Int) (c:Val af) (a:Int) (g:Int→Option ρ) (h:Int→Option ρ) (i:Unit→Option ρ):Option ρ :=
  ifb (ilt a e) (í ((ile 0 a)&&(ilt a (Ĕ c))) (Ŋ c (Int.toNat a) fun j=>Ñ (fun(k:Int) l=>iI d j b (Ú b) f k (fun m=>l m) (fun n=>h n) (fun _=>ck (a+(1:Int)) fun o=>g o)) (0:Int))) (i ())
def ŕ (b:Val af) (c:Int) (d:Int) (e:Int) (f:Val ac) (g:Val aa) (h:Val ae) (i:Val ab) (j:Val aa) (k:Int) (a:Int) (l:Int→Option ρ) (m:Int→Option ρ) (n:Unit→Option ρ):Option ρ :=
  ifb (ilt a c) (õ b a fun o=>Ã (BA ((d,e),f,g,h,i,j) o k) fun p=>ifb p.2 (m (9:Int)) (ck (a+(1:Int)) fun q=>l q)) (n ())
def oq (b:Val Ä) (f:Val ar) (c:Int) (k:Int→Option ρ):Option ρ :=
  õ b.2.2.2.2.1 c fun a=>Ã (Ġ a.1 (1:Int) (1099511627776:Int)) fun l=>ifb (!l) (k (1:Int)) (Ã (nX a.2.1) fun m=>ifb (!m) (k (1:Int)) (Ã (Ġ a.2.2.2.2.1 (-1125899906842624:Int) (1125899906842624:Int)) fun n=>ifb (!n) (k (1:Int)) (Ã (Ġ a.2.2.2.2.2.1 (0:Int) (1073741824:Int)) fun o=>ifb (!o) (k (1:Int)) (Ã (Ν a.2.2.2.2.2.2 (-10000:Int) (10000:Int)) fun p=>ifb (!p) (k (1:Int)) (Ã (mR a.2.2.1) fun q=>ifb (!q) (k (1:Int)) (Ã (mR a.2.2.2.1) fun r=>ifb (!r) (k (1:Int)) (í ((ile 0 c)&&(ile c (Ĕ b.2.2.2.2.1))) (Ñ (fun(s:Int) t=>iJ (List.take (Int.toNat c) b.2.2.2.2.1) (Ú (List.take (Int.toNat c) b.2.2.2.2.1)) a.1 s (fun u=>t u) (fun v=>ifb (ige v 0) (k (6:Int)) (Ã (ï ([a.2.2.1,a.2.2.2.1])) fun d=>Ñ (fun(w:Int) x=>Ŗ f d (Ú ([(5:Int),(4:Int)])) a.2.1 ([(5:Int),(4:Int)]) w (fun y=>x y) (fun z=>k z) (fun _=>Ñ (fun(A:Int) B=>ŕ d (Ú d) b.1.1 b.1.2 b.2.1 b.2.2.1 b.2.2.2.1 b.2.2.2.2.1 b.2.2.2.2.2 a.2.1 A (fun C=>B C) (fun D=>k D) (fun _=>Ã (ũ a.2.2.1 a.2.2.2.1) fun g=>Ã (ũ a.2.2.2.1 a.2.2.1) fun h=>ifb (igt (Ú g) 1) (k (1:Int)) (ifb (igt (Ú h) 1) (k (1:Int)) (ck ((Ú g)+(Ú h)) fun E=>ifb (ieq E 0) (k (1:Int)) (k (0:Int)))))) (0:Int))) (0:Int))) (fun _=>Ã (ï ([a.2.2.1,a.2.2.2.1])) fun e=>Ñ (fun(F:Int) G=>Ŗ f e (Ú ([(5:Int),(4:Int)])) a.2.1 ([(5:Int),(4:Int)]) F (fun H=>G H) (fun I=>k I) (fun _=>Ñ (fun(J:Int) K=>ŕ e (Ú e) b.1.1 b.1.2 b.2.1 b.2.2.1 b.2.2.2.1 b.2.2.2.2.1 b.2.2.2.2.2 a.2.1 J (fun L=>K L) (fun M=>k M) (fun _=>Ã (ũ a.2.2.1 a.2.2.2.1) fun i=>Ã (ũ a.2.2.2.1 a.2.2.1) fun j=>ifb (igt (Ú i) 1) (k (1:Int)) (ifb (igt (Ú j) 1) (k (1:Int)) (ck ((Ú i)+(Ú j)) fun N=>ifb (ieq N 0) (k (1:Int)) (k (0:Int)))))) (0:Int))) (0:Int))) (0:Int)))))))))
def Ō (a:Val Ä) (b:Val ar) (c:Int):Option (Int):=oq a b c some
def nP (b:Val Ä) (s:Val ar):Option (List Int) :=
  Ã (PW (fun u=>Ň u.1 u.2 s) (b.2.2.1:List (Int×Int))) fun a=>Ã (PW (fun i=>Ψ b s i) (yc (b.2.2.2.1:List (Val ő)).length)) fun c =>
    Ã (PW (fun i=>Ō b s i) (yc (b.2.2.2.2.1:List (Val Ê)).length)) fun d=>Ã (PW (fun u=>Ň u.1 u.2 s) (b.2.2.2.2.2:List (Int×Int))) fun e=>some (a++(c++(d++e)))
def Sz (a:Val Ä) (k:Int→Option ρ):Option ρ :=
  Ã (Ν a.1 (0:Int) (1000000:Int)) fun d=>ifb (!d) (k (1:Int)) (ifb (igt (Ú a.2.1) 12) (k (2:Int)) (ifb (igt (Ú a.2.2.1) 40) (k (2:Int)) (ifb (igt (Ú a.2.2.2.1) 12) (k (2:Int)) (ifb (igt (Ú a.2.2.2.2.1) 40) (k (2:Int)) (ifb (igt (Ú a.2.2.2.2.2) 10) (k (2:Int)) (Ã (ž a) fun b=>ifb (ine b 0) (k b) (Ã (υ a) fun e=>abK (nP a e) (fun f=>k f) (Ã (qE a) fun c=>ifb (igt (Ú c) 59) (k (2:Int)) (ck ((2:Int)*(Ú a.2.1)) fun g=>ck ((Ú c)-(Ú a.2.1)) fun h=>ck ((2:Int)*h) fun i=>ck (g+i) fun j=>ck ((2:Int)*(Ú a.2.2.2.2.1)) fun l=>ck (j+l) fun m=>ifb (igt m 300) (k (2:Int)) (k (0:Int)))))))))))
def Ā (a:Val Ä):Option (Int):=Sz a some
def J2 (a:Val Ê) (k:Bool→Option ρ):Option ρ :=
  ifb (ile (Ú a.2.2.1) 10) (k (ile (Ú a.2.2.2.1) 10)) (k false)
def Bn (a:Val Ê):Option (Bool):=J2 a some
def vF (b:Val ab) (a:Int) (d:Int→Option ρ) (e:Bool→Option ρ) (c:Unit→Option ρ):Option ρ :=
  ifb (ilt a (Ú b)) (ifb (ilt a 50) (õ b a fun f=>Ã (Bn f) fun g=>ifb (!g) (e false) (ck (a+(1:Int)) fun h=>d h)) (c ())) (c ())
def Yp (a:Val Ä) (k:Bool→Option ρ):Option ρ :=
  Ñ (fun(b:Int) c=>vF a.2.2.2.2.1 b (fun d=>c d) (fun e=>k e) (fun _=>ifb (ile (Ú a.2.1) 14) (ifb (ile (Ú a.2.2.1) 45) (ifb (ile (Ú a.2.2.2.1) 14) (ifb (ile (Ú a.2.2.2.2.1) 42) (k (ile (Ú a.2.2.2.2.2) 12)) (k false)) (k false)) (k false)) (k false))) (0:Int)
def IV (a:Val Ä):Option (Bool):=Yp a some
def Ī (c:Val aa) (d:Int) (e:Int) (f:Int) (a:Int) (g:Int→Option ρ) (h:Int→Option ρ) (i:Unit→Option ρ):Option ρ :=
  ifb (ilt a d) (õ c a fun b=>ifb ((ü e b.1)&&((ü f b.2)&&true)) (h a) (ck (a+(1:Int)) fun j=>g j)) (i ())
def Ÿ (a:Val aa) (b:Val Â) (k:Int→Option ρ):Option ρ :=
  Ñ (fun(c:Int) d=>Ī a (Ú a) b.1 b.2 c (fun e=>d e) (fun f=>k f) (fun _=>k (-1:Int))) (0:Int)
def þ (a:Val aa) (b:Val Â):Option (Int):=Ÿ a b some
def Sy (a:Val Ä) (d:Val Â) (k:Val Â→Option ρ):Option ρ :=
  Ã (Ā a) fun b=>ifb (ine b 0) (k ((0:Int),b)) (Ã (qE a) fun e=>Ã (þ e d) fun c=>ifb (ilt c 0) (k ((0:Int),(5:Int))) (ck (c+(1:Int)) fun f=>k (f,(0:Int))))
def Ŧ (a:Val Ä) (b:Val Â):Option (Val Â):=Sy a b some
def EC (a:Val ay) (b:Val Â) (k:Int→Option ρ):Option ρ :=
  Ã (Ŧ a.1 b) fun c=>k c.1
def ς (a:Val ay) (b:Val Â):Option (Int):=EC a b some
def il (c:Val ai) (d:Int) (b:Int) (a:Int) (e:Int→Int→Option ρ) (f:Int→Option ρ):Option ρ :=
  ifb (ilt a d) (õ c a fun g=>ck (b+(aam g.2.2 (0:Int))) fun h=>ck (a+(1:Int)) fun i=>e h i) (f b)
def ś (f:Int) (d:Val af) (a:Int) (b:Val aA) (c:Val af) (e:Int→Val aA→Val af→Option ρ) (g:Val aP→Option ρ):Option ρ :=
  ifb (ilt a f) (í ((ile 0 a)&&(ilt a (Ĕ d))) (Ŋ d (Int.toNat a) fun h=>ifb (ine h 1152921504606846976) (í (ë ((List.length c)+(List.length ([a])))) (í ((ile 0 a)&&(ilt a (Ĕ b))) (Ŋ b (Int.toNat a) fun k=>ck (a+(1:Int)) fun i=>e i (List.set b (Int.toNat a) true) (c++([a]))))) (ck (a+(1:Int)) fun j=>e j b c))) (g (b,c))
def jp (m:Val ak) (j:Int) (d:Int) (n:Val ai) (o:Int) (f:Int) (b:Val af) (c:Val aA) (e:Val af) (g:Int→Val af→Val aA→Val af→Option ρ) (l:(Val (.pair .bool (.pair af aP)))→Option ρ) (p:(Val (.pair af aP))→Option ρ):Option ρ :=
  ifb (ilt f o) (õ n f fun a=>ifb (ine a.1 d) (ck (f+(1:Int)) fun q=>g q b c e) (abd (k:=tI) (v:=.bool) f m (fun r=>ifb r (ck (f+(1:Int)) fun s=>g s b c e) (í ((ile 0 d)&&(ilt d (Ĕ b))) (Ŋ b (Int.toNat d) fun t=>ck (t+a.2.2) fun u=>í ((ile 0 a.2.1)&&(ilt a.2.1 (Ĕ b))) (Ŋ b (Int.toNat a.2.1) fun w=>ifb (ige u w) (ck (f+(1:Int)) fun x=>g x b c e) (í ((ile 0 d)&&(ilt d (Ĕ b))) (Ŋ b (Int.toNat d) fun y=>ck (y+a.2.2) fun h=>í ((ile 0 a.2.1)&&(ilt a.2.1 (Ĕ b))) (Ŋ b (Int.toNat a.2.1) fun M=>í ((ile 0 a.2.1)&&(ilt a.2.1 (Ĕ (List.set b (Int.toNat a.2.1) h)))) (Ŋ (List.set b (Int.toNat a.2.1) h) (Int.toNat a.2.1) fun z=>ifb (ilt z j) (l (false,(List.set b (Int.toNat a.2.1) h),c,e)) (í ((ile 0 a.2.1)&&(ilt a.2.1 (Ĕ c))) (Ŋ c (Int.toNat a.2.1) fun A=>ifb (!A) (í (ë ((List.length e)+(List.length ([a.2.1])))) (í ((ile 0 a.2.1)&&(ilt a.2.1 (Ĕ c))) (Ŋ c (Int.toNat a.2.1) fun N=>ck (f+(1:Int)) fun B=>g B (List.set b (Int.toNat a.2.1) h) (List.set c (Int.toNat a.2.1) true) (e++([a.2.1]))))) (ck (f+(1:Int)) fun C=>g C (List.set b (Int.toNat a.2.1) h) c e))))))))))) (í ((ile 0 d)&&(ilt d (Ĕ b))) (Ŋ b (Int.toNat d) fun D=>ck (D+a.2.2) fun E=>í ((ile 0 a.2.1)&&(ilt a.2.1 (Ĕ b))) (Ŋ b (Int.toNat a.2.1) fun F=>ifb (ige E F) (ck (f+(1:Int)) fun G=>g G b c e) (í ((ile 0 d)&&(ilt d (Ĕ b))) (Ŋ b (Int.toNat d) fun H=>ck (H+a.2.2) fun i=>í ((ile 0 a.2.1)&&(ilt a.2.1 (Ĕ b))) (Ŋ b (Int.toNat a.2.1) fun O=>í ((ile 0 a.2.1)&&(ilt a.2.1 (Ĕ (List.set b (Int.toNat a.2.1) i)))) (Ŋ (List.set b (Int.toNat a.2.1) i) (Int.toNat a.2.1) fun I=>ifb (ilt I j) (l (false,(List.set b (Int.toNat a.2.1) i),c,e)) (í ((ile 0 a.2.1)&&(ilt a.2.1 (Ĕ c))) (Ŋ c (Int.toNat a.2.1) fun J=>ifb (!J) (í (ë ((List.length e)+(List.length ([a.2.1])))) (í ((ile 0 a.2.1)&&(ilt a.2.1 (Ĕ c))) (Ŋ c (Int.toNat a.2.1) fun P=>ck (f+(1:Int)) fun K=>g K (List.set b (Int.toNat a.2.1) i) (List.set c (Int.toNat a.2.1) true) (e++([a.2.1]))))) (ck (f+(1:Int)) fun L=>g L (List.set b (Int.toNat a.2.1) i) c e)))))))))))) (p (b,c,e))
def Ĵ (l:Val ak) (m:Int) (n:Int) (k:Val ai) (h:Val af) (d:Val aA) (b:Val af) (c:Val af) (o:Val af→Val aA→Val af→Val af→Option ρ) (i:(Val (.pair .bool aY))→Option ρ):Option ρ :=
  ifb (ieq (Ú c) 0) (i (true,h,d,b,c)) (í (ilt 0 (Ĕ c)) (Ŋ c 0 fun a=>í (ile 1 (Ĕ c)) (í (decide (1+(List.length c-1)=List.length c)) (í ((ile 0 a)&&(ilt a (Ĕ d))) (Ŋ d (Int.toNat a) fun x=>í ((ile 0 a)&&(ilt a (Ĕ b))) (Ŋ b (Int.toNat a) fun p=>ck (p+(1:Int)) fun e=>í ((ile 0 a)&&(ilt a (Ĕ b))) (Ŋ b (Int.toNat a) fun y=>í ((ile 0 a)&&(ilt a (Ĕ (List.set b (Int.toNat a) e)))) (Ŋ (List.set b (Int.toNat a) e) (Int.toNat a) fun q=>ck (n+(1:Int)) fun r=>ifb (igt q r) (i (false,h,(List.set d (Int.toNat a) false),(List.set b (Int.toNat a) e),(List.drop 1 c))) (Ñ (fun(f:(Val (.pair tI (.pair af aP)))) s=>jp l m a k (Ú k) f.1 f.2.1 f.2.2.1 f.2.2.2 (fun t u v w=>s (t,u,v,w)) (fun g=>i (g.1,g.2.1,g.2.2.1,(List.set b (Int.toNat a) e),g.2.2.2)) (fun j=>o j.1 j.2.1 (List.set b (Int.toNat a) e) j.2.2)) ((0:Int),h,(List.set d (Int.toNat a) false),(List.drop 1 c)))))))))))
def jo (c:Int) (d:Int) (a:Int) (b:Val af) (e:Int→Val af→Option ρ) (f:Val af→Option ρ):Option ρ :=
  ifb (ilt a d) (í ((ile 0 a)&&(ilt a (Ĕ b))) (Ŋ b (Int.toNat a) fun g=>ck (g-c) fun h=>í ((ile 0 a)&&(ilt a (Ĕ b))) (Ŋ b (Int.toNat a) fun j=>ck (a+(1:Int)) fun i=>e i (List.set b (Int.toNat a) h)))) (f b)
def zK (a:Val Ï) (h:Val ak) (k:(Val (.pair af .bool))→Option ρ):Option ρ :=
  í ((ile 0 a.1)&&(ë (Int.toNat a.1))) (í ((ile 0 a.1)&&(ë (Int.toNat a.1))) (í ((ile 0 a.1)&&(ë (Int.toNat a.1))) (Ñ (fun(e:Val Â) i=>il a.2 (Ú a.2) e.1 e.2 (fun j l=>i (j,l)) (fun m=>Ñ (fun(d:(Val (.pair tI aP))) n=>ś a.1 (List.replicate (Int.toNat a.1) (0:Int)) d.1 d.2.1 d.2.2 (fun o p q=>n (o,p,q)) (fun f=>Ñ (fun(c:Val aY) r=>Ĵ h m a.1 a.2 c.1 c.2.1 c.2.2.1 c.2.2.2 (fun s t u v=>r (s,t,u,v)) (fun b=>ifb (!b.1) (k ([],false)) (í (ilt 0 (Ĕ b.2.1)) (Ŋ b.2.1 0 fun w=>Ñ (fun(g:Val au) x=>jo w (Ú b.2.1) g.1 g.2 (fun y z=>x (y,z)) (fun A=>k (A,true))) ((0:Int),b.2.1))))) ((List.replicate (Int.toNat a.1) (0:Int)),f.1,(List.replicate (Int.toNat a.1) (0:Int)),f.2))) ((0:Int),(List.replicate (Int.toNat a.1) false),[]))) ((0:Int),(0:Int)))))
def kX (a:Val Ï) (b:Val ak):Option ((Val (.pair af .bool))):=zK a b some
def Zy (b:Val Ï) (a:Int) (k:Bool→Option ρ):Option ρ :=
  ifb (ige a 0) (k (ilt a b.1)) (k false)
def sF (a:Val Ï) (b:Int):Option (Bool):=Zy a b some
def sa (f:Val ai) (g:Int) (d:Int) (e:Val ai) (a:Int) (h:Int→Option ρ) (c:Val Â→Option ρ) (i:Unit→Option ρ):Option ρ :=
  ifb (ilt a g) (õ f a fun b=>Ã (sF (d,e) b.1) fun j=>ifb (!j) (c ((1:Int),a)) (Ã (sF (d,e) b.2.1) fun k=>ifb (!k) (c ((1:Int),a)) (ifb (ieq b.1 b.2.1) (c ((1:Int),a)) (ifb (ilt b.2.2 (-4503599627370496:Int)) (c ((1:Int),a)) (ifb (igt b.2.2 4503599627370496) (c ((1:Int),a)) (ck (a+(1:Int)) fun l=>h l)))))) (i ())
def RF (a:Val Ï) (k:Val Â→Option ρ):Option ρ :=
  ifb (ilt a.1 1) (k ((1:Int),(-1:Int))) (ifb (igt a.1 60) (k ((1:Int),(-1:Int))) (ifb (igt (Ú a.2) 300) (k ((2:Int),(-1:Int))) (Ñ (fun(c:Int) d=>sa a.2 (Ú a.2) a.1 a.2 c (fun e=>d e) (fun b=>k (b.1,b.2)) (fun _=>k ((0:Int),(-1:Int)))) (0:Int))))
def nW (a:Val Ï):Option (Val Â):=RF a some
def rY (b:Val af) (c:Int) (d:Int) (e:Val ai) (a:Int) (f:Int→Option ρ) (g:Int→Option ρ) (h:Unit→Option ρ):Option ρ :=
  ifb (ilt a c) (õ b a fun i=>Ã (sF (d,e) i) fun j=>ifb (!j) (g (1:Int)) (ck (a+(1:Int)) fun k=>f k)) (h ())
def Rx (a:Val Ï) (b:Val af) (k:Int→Option ρ):Option ρ :=
  Ã (nW a) fun c=>ifb (ine c.1 0) (k c.1) (Ñ (fun(d:Int) e=>rY b (Ú b) a.1 a.2 d (fun f=>e f) (fun g=>k g) (fun _=>Ã (kX a ([])) fun h=>ifb (!h.2) (k (9:Int)) (k (0:Int)))) (0:Int))
def Ja (a:Val Ï) (b:Val af):Option (Int):=Rx a b some
def oX (c:Int) (a:Int) (b:Val af) (d:Int→Val af→Option ρ) (e:Val af→Option ρ):Option ρ :=
  ifb (ilt a c) (í ((ile 0 a)&&(ilt a (Ĕ b))) (Ŋ b (Int.toNat a) fun g=>ck (a+(1:Int)) fun f=>d f (List.set b (Int.toNat a) (1152921504606846976:Int)))) (e b)
def wq (c:Val ai) (d:Int) (b:Int) (a:Int) (e:Int→Int→Option ρ) (f:Int→Option ρ):Option ρ :=
  ifb (ilt a d) (õ c a fun g=>ck (b+(aam g.2.2 (0:Int))) fun h=>ck (a+(1:Int)) fun i=>e h i) (f b)
def wp (f:Int) (d:Val af) (a:Int) (b:Val aA) (c:Val af) (e:Int→Val aA→Val af→Option ρ) (g:Val aP→Option ρ):Option ρ :=
  ifb (ilt a f) (í ((ile 0 a)&&(ilt a (Ĕ d))) (Ŋ d (Int.toNat a) fun h=>ifb (ine h 1152921504606846976) (í (ë ((List.length c)+(List.length ([a])))) (í ((ile 0 a)&&(ilt a (Ĕ b))) (Ŋ b (Int.toNat a) fun k=>ck (a+(1:Int)) fun i=>e i (List.set b (Int.toNat a) true) (c++([a]))))) (ck (a+(1:Int)) fun j=>e j b c))) (g (b,c))
def HF (m:Val ak) (j:Int) (d:Int) (n:Val ai) (o:Int) (f:Int) (b:Val af) (c:Val aA) (e:Val af) (g:Int→Val af→Val aA→Val af→Option ρ) (l:(Val (.pair .bool (.pair af aP)))→Option ρ) (p:(Val (.pair af aP))→Option ρ):Option ρ :=
  ifb (ilt f o) (õ n f fun a=>ifb (ine a.1 d) (ck (f+(1:Int)) fun q=>g q b c e) (abd (k:=tI) (v:=.bool) f m (fun r=>ifb r (ck (f+(1:Int)) fun s=>g s b c e) (í ((ile 0 d)&&(ilt d (Ĕ b))) (Ŋ b (Int.toNat d) fun t=>ck (t+a.2.2) fun u=>í ((ile 0 a.2.1)&&(ilt a.2.1 (Ĕ b))) (Ŋ b (Int.toNat a.2.1) fun w=>ifb (ige u w) (ck (f+(1:Int)) fun x=>g x b c e) (í ((ile 0 d)&&(ilt d (Ĕ b))) (Ŋ b (Int.toNat d) fun y=>ck (y+a.2.2) fun h=>í ((ile 0 a.2.1)&&(ilt a.2.1 (Ĕ b))) (Ŋ b (Int.toNat a.2.1) fun M=>í ((ile 0 a.2.1)&&(ilt a.2.1 (Ĕ (List.set b (Int.toNat a.2.1) h)))) (Ŋ (List.set b (Int.toNat a.2.1) h) (Int.toNat a.2.1) fun z=>ifb (ilt z j) (l (false,(List.set b (Int.toNat a.2.1) h),c,e)) (í ((ile 0 a.2.1)&&(ilt a.2.1 (Ĕ c))) (Ŋ c (Int.toNat a.2.1) fun A=>ifb (!A) (í (ë ((List.length e)+(List.length ([a.2.1])))) (í ((ile 0 a.2.1)&&(ilt a.2.1 (Ĕ c))) (Ŋ c (Int.toNat a.2.1) fun N=>ck (f+(1:Int)) fun B=>g B (List.set b (Int.toNat a.2.1) h) (List.set c (Int.toNat a.2.1) true) (e++([a.2.1]))))) (ck (f+(1:Int)) fun C=>g C (List.set b (Int.toNat a.2.1) h) c e))))))))))) (í ((ile 0 d)&&(ilt d (Ĕ b))) (Ŋ b (Int.toNat d) fun D=>ck (D+a.2.2) fun E=>í ((ile 0 a.2.1)&&(ilt a.2.1 (Ĕ b))) (Ŋ b (Int.toNat a.2.1) fun F=>ifb (ige E F) (ck (f+(1:Int)) fun G=>g G b c e) (í ((ile 0 d)&&(ilt d (Ĕ b))) (Ŋ b (Int.toNat d) fun H=>ck (H+a.2.2) fun i=>í ((ile 0 a.2.1)&&(ilt a.2.1 (Ĕ b))) (Ŋ b (Int.toNat a.2.1) fun O=>í ((ile 0 a.2.1)&&(ilt a.2.1 (Ĕ (List.set b (Int.toNat a.2.1) i)))) (Ŋ (List.set b (Int.toNat a.2.1) i) (Int.toNat a.2.1) fun I=>ifb (ilt I j) (l (false,(List.set b (Int.toNat a.2.1) i),c,e)) (í ((ile 0 a.2.1)&&(ilt a.2.1 (Ĕ c))) (Ŋ c (Int.toNat a.2.1) fun J=>ifb (!J) (í (ë ((List.length e)+(List.length ([a.2.1])))) (í ((ile 0 a.2.1)&&(ilt a.2.1 (Ĕ c))) (Ŋ c (Int.toNat a.2.1) fun P=>ck (f+(1:Int)) fun K=>g K (List.set b (Int.toNat a.2.1) i) (List.set c (Int.toNat a.2.1) true) (e++([a.2.1]))))) (ck (f+(1:Int)) fun L=>g L (List.set b (Int.toNat a.2.1) i) c e)))))))))))) (p (b,c,e))
def wo (l:Val ak) (m:Int) (n:Int) (k:Val ai) (h:Val af) (d:Val aA) (b:Val af) (c:Val af) (o:Val af→Val aA→Val af→Val af→Option ρ) (i:(Val (.pair .bool aY))→Option ρ):Option ρ :=
  ifb (ieq (Ú c) 0) (i (true,h,d,b,c)) (í (ilt 0 (Ĕ c)) (Ŋ c 0 fun a=>í (ile 1 (Ĕ c)) (í (decide (1+(List.length c-1)=List.length c)) (í ((ile 0 a)&&(ilt a (Ĕ d))) (Ŋ d (Int.toNat a) fun x=>í ((ile 0 a)&&(ilt a (Ĕ b))) (Ŋ b (Int.toNat a) fun p=>ck (p+(1:Int)) fun e=>í ((ile 0 a)&&(ilt a (Ĕ b))) (Ŋ b (Int.toNat a) fun y=>í ((ile 0 a)&&(ilt a (Ĕ (List.set b (Int.toNat a) e)))) (Ŋ (List.set b (Int.toNat a) e) (Int.toNat a) fun q=>ck (n+(1:Int)) fun r=>ifb (igt q r) (i (false,h,(List.set d (Int.toNat a) false),(List.set b (Int.toNat a) e),(List.drop 1 c))) (Ñ (fun(f:(Val (.pair tI (.pair af aP)))) s=>HF l m a k (Ú k) f.1 f.2.1 f.2.2.1 f.2.2.2 (fun t u v w=>s (t,u,v,w)) (fun g=>i (g.1,g.2.1,g.2.2.1,(List.set b (Int.toNat a) e),g.2.2.2)) (fun j=>o j.1 j.2.1 (List.set b (Int.toNat a) e) j.2.2)) ((0:Int),h,(List.set d (Int.toNat a) false),(List.drop 1 c)))))))))))
def KT (a:Val Ï) (i:Val ak) (b:Int) (k:Val af→Option ρ):Option ρ :=
  í ((ile 0 a.1)&&(ë (Int.toNat a.1))) (Ñ (fun(f:Val au) j=>oX (Ú (List.replicate (Int.toNat a.1) (0:Int))) f.1 f.2 (fun l m=>j (l,m)) (fun c=>í ((ile 0 b)&&(ilt b (Ĕ c))) (Ŋ c (Int.toNat b) fun B=>í ((ile 0 a.1)&&(ë (Int.toNat a.1))) (í ((ile 0 a.1)&&(ë (Int.toNat a.1))) (Ñ (fun(g:Val Â) n=>wq a.2 (Ú a.2) g.1 g.2 (fun o p=>n (o,p)) (fun q=>Ñ (fun(e:(Val (.pair tI aP))) r=>wp a.1 (List.set c (Int.toNat b) (0:Int)) e.1 e.2.1 e.2.2 (fun s t u=>r (s,t,u)) (fun h=>Ñ (fun(d:Val aY) v=>wo i q a.1 a.2 d.1 d.2.1 d.2.2.1 d.2.2.2 (fun w x y z=>v (w,x,y,z)) (fun A=>k A.2.1)) ((List.set c (Int.toNat b) (0:Int)),h.1,(List.replicate (Int.toNat a.1) (0:Int)),h.2))) ((0:Int),(List.replicate (Int.toNat a.1) false),[]))) ((0:Int),(0:Int))))))) ((0:Int),(List.replicate (Int.toNat a.1) (0:Int))))
def By (a:Val Ï) (b:Val ak) (c:Int):Option ((Val af)):=KT a b c some
def RL (a:Val Ï) (b:Int) (c:Int) (k:Val Â→Option ρ):Option ρ :=
  Ã (Ja a ([b,c])) fun d=>ifb (ine d 0) (k ((0:Int),d)) (Ã (By a ([]) b) fun f=>õ f c fun e=>ifb (ieq e 1152921504606846976) (k ((0:Int),(5:Int))) (k (e,(0:Int))))
def qC (a:Val Ï) (b:Int) (c:Int):Option (Val Â):=RL a b c some
def sT (a:Val ay) (b:Int) (c:Int) (k:Int→Option ρ):Option ρ :=
  Ã (qC a.2 c b) fun d=>k d.1
def Ď (a:Val ay) (b:Int) (c:Int):Option (Int):=sT a b c some
def sS (a:Val ay) (b:Val Â) (k:Int→Option ρ):Option ρ :=
  Ã (ς a b) fun c=>Ã (Ď a (0:Int) c) fun d=>ck (0-d) fun e=>k e
def π (a:Val ay) (b:Val Â):Option (Int):=sS a b some
def mG (a:Val ay) (b:Val Â) (k:Int→Option ρ):Option ρ :=
  Ã (ς a b) fun c=>Ã (Ď a c (0:Int)) fun d=>k d
def iv (a:Val ay) (b:Val Â):Option (Int):=mG a b some
def mF (a:Val ay) (b:Val Â) (k:Val Â→Option ρ):Option ρ :=
  Ã (π a b) fun c=>Ã (iv a b) fun d=>k (c,d)
def ű (a:Val ay) (b:Val Â):Option (Val Â):=mF a b some
def Ab (b:Val aX) (a:Val af) (c:Int) (k:Int→Option ρ):Option ρ :=
  ifb (ieq (Ú a) 0) (k (0:Int)) (õ a (0:Int) fun d=>Ã (þ b.2.1 (d,c)) fun e=>ck (e+(1:Int)) fun f=>k f)
def iC (a:Val aX) (b:Val af) (c:Int):Option (Int):=Ab a b c some
def oo (b:Val ar) (a:Val af) (k:Val Â→Option ρ):Option ρ :=
  ifb (ieq (Ú a) 0) (k ((0:Int),(1:Int))) (õ a (0:Int) fun c=>abd (k:=tI) (v:=Ð) c b (fun d=>k d.2.2.2.2.1) (k ((0:Int),(0:Int))))
def i5 (a:Val ar) (b:Val af):Option (Val Â):=oo a b some
def sg (b:Val aa) (c:Int) (a:Int) (d:Int→Option ρ) (e:Int→Option ρ) (f:Unit→Option ρ):Option ρ :=
  ifb (ilt a c) (õ b a fun g=>Ã (vf g) fun h=>ifb (!h) (e (1:Int)) (ck (a+(1:Int)) fun i=>d i)) (f ())
def RN (a:Val aa) (k:Int→Option ρ):Option ρ :=
  Ñ (fun(b:Int) c=>sg a (Ú a) b (fun d=>c d) (fun e=>k e) (fun _=>k (0:Int))) (0:Int)
def kf (a:Val aa):Option (Int):=RN a some
def EP (d:Int) (e:Int) (k:Val ł→Option ρ):Option ρ :=
  Ã (sG d) fun b=>Ã (sG e) fun c=>Ã (Tc b c) fun a=>ifb (ü a 0) (none) (ifb (ü a 0) (none) (ifb (igt (IntKind.wrap .u64 (Int.tdiv b a)) 2147483647) (k (((0:Int),(0:Int)),(3:Int))) (ifb (igt (IntKind.wrap .u64 (Int.tdiv c a)) 2147483647) (k (((0:Int),(0:Int)),(3:Int))) (ifb (!((ilt d 0)==(ilt e 0))) (ck (0-(IntKind.wrap .i64 (IntKind.wrap .u64 (Int.tdiv b a)))) fun f=>k ((f,(IntKind.wrap .i64 (IntKind.wrap .u64 (Int.tdiv c a)))),(0:Int))) (k (((IntKind.wrap .i64 (IntKind.wrap .u64 (Int.tdiv b a))),(IntKind.wrap .i64 (IntKind.wrap .u64 (Int.tdiv c a)))),(0:Int)))))))
def qD (a:Int) (b:Int):Option (Val ł):=EP a b some
def agd (a:Val Â) (b:Val Â) (k:Val ł→Option ρ):Option ρ :=
  Ã (kf ([a,b])) fun c=>ifb (ine c 0) (k (((0:Int),(0:Int)),c)) (ck (a.1*b.2) fun e=>ck (b.1*a.2) fun f=>ck (e-f) fun g=>ck (a.2*b.2) fun h=>Ã (qD g h) fun d=>k (d.1,d.2))
def aaA (a:Val Â) (b:Val Â):Option (Val ł):=agd a b some
def wx (a:Val Â) (b:Val Â) (k:Val Â→Option ρ):Option ρ :=
  Ã (aaA a b) fun c=>k c.1
def w7 (a:Val Â) (b:Val Â):Option (Val Â):=wx a b some
def agb (a:Val Â) (b:Val Â) (k:Int→Option ρ):Option ρ :=
  ck (a.1*b.2) fun c=>ck (b.1*a.2) fun d=>ifb ((ü a.1 b.1)&&((ü a.2 b.2)&&true)) (k (0:Int)) (ifb (ilt c d) (k (-1:Int)) (ifb (igt c d) (k (1:Int)) (k (0:Int))))
def Td (a:Val Â) (b:Val Â):Option (Int):=agb a b some
def tc (a:Val ç) (k:Bool→Option ρ):Option ρ :=
  Ã (kf ([a.1,a.2])) fun b=>ifb (ieq b 0) (Ã (Td a.1 a.2) fun c=>k (ile c 0)) (k false)
def tp (a:Val ç):Option (Bool):=tc a some
def agf (a:Val Â) (b:Val Â) (k:Val ł→Option ρ):Option ρ :=
  Ã (kf ([a,b])) fun c=>ifb (ine c 0) (k (((0:Int),(0:Int)),c)) (ck (a.1*b.1) fun e=>ck (a.2*b.2) fun f=>Ã (qD e f) fun d=>k (d.1,d.2))
def Tf (a:Val Â) (b:Val Â):Option (Val ł):=agf a b some
def RX (c:Val ç) (d:Val Â) (k:Val tD→Option ρ):Option ρ :=
  Ã (tp c) fun e=>ifb (!e) (k ((((0:Int),(0:Int)),(0:Int),(0:Int)),(1:Int))) (Ã (vf d) fun f=>ifb (!f) (k ((((0:Int),(0:Int)),(0:Int),(0:Int)),(1:Int))) (Ã (Tf d c.1) fun a=>ifb (ine a.2 0) (k ((((0:Int),(0:Int)),(0:Int),(0:Int)),a.2)) (Ã (Tf d c.2) fun b=>ifb (ine b.2 0) (k ((((0:Int),(0:Int)),(0:Int),(0:Int)),b.2)) (Ã (Td a.1 b.1) fun g=>ifb (igt g 0) (k ((b.1,a.1),(0:Int))) (k ((a.1,b.1),(0:Int)))))))
def Te (a:Val ç) (b:Val Â):Option (Val tD):=RX a b some
def ww (b:Val Â) (a:Val Â) (k:Val ç→Option ρ):Option ρ :=
  Ã (Te ((a.1,(1:Int)),a.2,(1:Int)) b) fun c=>k c.1
def pd (a:Val Â) (b:Val Â):Option (Val ç):=ww a b some
def K8 (c:Val Ä) (a:Val Ê) (k:Val ç→Option ρ):Option ρ :=
  Ã (υ c) fun b=>Ã (ũ a.2.2.1 a.2.2.2.1) fun d=>Ã (i5 b d) fun e=>Ã (ũ a.2.2.2.1 a.2.2.1) fun f=>Ã (i5 b f) fun g=>Ã (w7 e g) fun h=>Ã (pd h a.2.2.2.2.2.2) fun i=>k i
def pB (a:Val Ä) (b:Val Ê):Option (Val ç):=K8 a b some
def Sv (a:Val Ä) (b:Val Ê) (k:Val Â→Option ρ):Option ρ :=
  ck ((Ú b.2.2.1)-(1:Int)) fun c=>ck ((Ú b.2.2.2.1)-(1:Int)) fun d=>ck ((T0 (0:Int) c)*a.1.1) fun e=>ck ((T0 (0:Int) d)*a.1.2) fun f=>ck (e-f) fun g=>ck ((T0 (0:Int) c)*a.1.2) fun h=>ck ((T0 (0:Int) d)*a.1.1) fun i=>ck (h-i) fun j=>k (g,j)
def vh (a:Val Ä) (b:Val Ê):Option (Val Â):=Sv a b some
def HS (b:Int) (a:Int) (k:Int→Option ρ):Option ρ :=
  ifb (ü a 0) (none) (ck (Int.tdiv b a) fun c=>ifb (ü a 0) (none) (ifb (ilt (Int.tmod b a) 0) (ck (c-1) fun d=>k d) (k c)))
def ve (a:Int) (b:Int):Option (Int):=HS a b some
def ZN (a:Val Â) (k:Val Â→Option ρ):Option ρ :=
  Ã (kf ([a])) fun b=>ifb (ine b 0) (k ((0:Int),b)) (ck (0-a.1) fun c=>Ã (ve c a.2) fun d=>ck (0-d) fun e=>k (e,(0:Int)))
def Jb (a:Val Â):Option (Val Â):=ZN a some
def R0 (a:Val Â) (k:Val Â→Option ρ):Option ρ :=
  Ã (kf ([a])) fun b=>ifb (ine b 0) (k ((0:Int),b)) (Ã (ve a.1 a.2) fun c=>k (c,(0:Int)))
def AC (a:Val Â):Option (Val Â):=R0 a some
def ZR (b:Val Ä) (a:Val Ê) (k:Val Â→Option ρ):Option ρ :=
  Ã (pB b a) fun c=>Ã (vh b a) fun d=>Ã (AC c.2) fun e=>Ã (Jb c.1) fun f=>ck (a.2.2.2.2.1-a.2.2.2.2.2.1) fun g=>ck (g-d.2) fun h=>ck (h-e.1) fun i=>ck (a.2.2.2.2.1+a.2.2.2.2.2.1) fun j=>ck (j-d.1) fun l=>ck (l-f.1) fun m=>k (i,m)
def wZ (a:Val Ä) (b:Val Ê):Option (Val Â):=ZR a b some
def wD (f:Int) (g:Int) (h:Val ae) (i:Int) (j:Int) (b:Int) (a:Int) (d:Int→Int→Option ρ) (k:Int→Option ρ):Option ρ :=
  ifb (ilt a i) (õ h a fun c=>ck (g-(1:Int)) fun l=>ck ((aam c.2.1.2 l)-(T0 c.2.1.1 f)) fun m=>ck (m+1) fun e=>ifb (ieq c.1 j) (ifb (igt e 0) (ck (e*c.2.2) fun n=>ck (b+n) fun o=>ck (a+(1:Int)) fun p=>d o p) (ck (a+(1:Int)) fun q=>d b q)) (ck (a+(1:Int)) fun r=>d b r)) (k b)
def wC (e:Int) (f:Int) (g:Val aa) (h:Int) (i:Int) (a:Int) (b:Val af) (d:Int→Val af→Option ρ) (j:Val af→Option ρ):Option ρ :=
  ifb (ilt a h) (õ g a fun c=>ifb (ieq c.1 i) (ck (f-(1:Int)) fun k=>Ã (Ġ c.2 e k) fun l=>ifb l (í (ë ((List.length b)+(List.length ([c.2])))) (ck (a+(1:Int)) fun m=>d m (b++([c.2])))) (ck (a+(1:Int)) fun n=>d n b)) (ck (a+(1:Int)) fun o=>d o b)) (j b)
def ZU (a:Val Ä) (b:Val Ð) (d:Int) (e:Int) (k:Int→Option ρ):Option ρ :=
  Ñ (fun(f:Val Â) h=>wD d e a.2.2.2.1 (Ú a.2.2.2.1) b.1 f.1 f.2 (fun i j=>h (i,j)) (fun l=>Ñ (fun(g:Val au) m=>wC d e a.2.2.1 (Ú a.2.2.1) b.1 g.1 g.2 (fun n o=>m (n,o)) (fun c=>í (ë (List.length c)) (í (ë (List.length (Fs c))) (ck ((Ú (BF (Fs c)))*b.2.2.2.2.2) fun p=>ck (l+p) fun q=>k q)))) ((0:Int),[]))) ((0:Int),(0:Int))
def Bz (a:Val Ä) (b:Val Ð) (c:Int) (d:Int):Option (Int):=ZU a b c d some
def wA (b:Int) (e:Val af) (h:Int) (j:Int) (k:Int) (l:Val ac) (m:Val aa) (n:Val ae) (o:Val ab) (p:Val aa) (q:Int) (r:Int) (s:Int) (t:Int) (u:Int) (v:Int) (w:Int) (x:Int) (a:Int) (f:Val ai) (g:Val aa) (y:Int→Val ai→Val aa→Option ρ) (z:Val xi→Option ρ):Option ρ :=
  ifb (ilt a (Ú e)) (ck (h+a) fun A=>ck (A-1) fun c=>ck (h+a) fun d=>ck (a-(1:Int)) fun B=>õ e B fun C=>õ e a fun D=>Ã (Bz ((j,k),l,m,n,o,p) (q,r,s,(t,u),(v,w),x) C D) fun E=>ck (0-E) fun F=>ck (0-F) fun i=>í (ë ((List.length f)+(List.length ([(c,d,(0:Int)),(d,c,i)])))) (í (ë ((List.length g)+(List.length ([((2:Int),b),((2:Int),b)])))) (ck (a+(1:Int)) fun G=>y G (f++([(c,d,(0:Int)),(d,c,i)])) (g++([((2:Int),b),((2:Int),b)]))))) (z (f,g))
def wB (q:Val ac) (r:Int) (f:Int) (g:Int) (h:Val ac) (i:Val aa) (j:Val ae) (k:Val ab) (l:Val aa) (s:Val aa) (t:Int) (b:Int) (d:Val ai) (e:Val aa) (u:Int→Val ai→Val aa→Option ρ) (v:Val xi→Option ρ):Option ρ :=
  ifb (ilt b r) (õ q b fun a=>Ã (pf ((f,g),h,i,j,k,l) a) fun w=>Ã (iC (((f,g),h,i,j,k,l),s,(t,d),e) ([a.1]) a.2.1) fun c=>ck (a.2.2.1+a.2.2.2.1.1) fun x=>ck (a.2.2.1+a.2.2.2.1.2) fun n=>ck (0-x) fun o=>í (ë ((List.length d)+(List.length ([((0:Int),c,n),(c,(0:Int),o)])))) (í (ë ((List.length e)+(List.length ([((1:Int),b),((1:Int),b)])))) (Ñ (fun(m:Val aQ) y=>wA b w c f g h i j k l a.1 a.2.1 a.2.2.1 a.2.2.2.1.1 a.2.2.2.1.2 a.2.2.2.2.1.1 a.2.2.2.2.1.2 a.2.2.2.2.2 m.1 m.2.1 m.2.2 (fun z A B=>y (z,A,B)) (fun p=>ck (b+(1:Int)) fun C=>u C p.1 p.2)) ((1:Int),(d++([((0:Int),c,n),(c,(0:Int),o)])),(e++([((1:Int),b),((1:Int),b)])))))) (v (d,e))
def wz (r:Val ab) (s:Int) (g:Int) (h:Int) (i:Val ac) (j:Val aa) (k:Val ae) (l:Val ab) (m:Val aa) (o:Val aa) (p:Int) (a:Int) (c:Val ai) (d:Val aa) (t:Int→Val ai→Val aa→Option ρ) (u:Val xi→Option ρ):Option ρ :=
  ifb (ilt a s) (õ r a fun b=>Ã (ũ b.2.2.2.1 b.2.2.1) fun v=>Ã (iC (((g,h),i,j,k,l,m),o,(p,c),d) v b.2.1) fun e=>Ã (ũ b.2.2.1 b.2.2.2.1) fun w=>Ã (iC (((g,h),i,j,k,l,m),o,(p,c),d) w b.2.1) fun f=>Ã (wZ ((g,h),i,j,k,l,m) b) fun n=>ck (0-n.1) fun q=>í (ë ((List.length c)+(List.length ([(e,f,n.2),(f,e,q)])))) (í (ë ((List.length d)+(List.length ([((3:Int),a),((3:Int),a)])))) (ck (a+(1:Int)) fun x=>t x (c++([(e,f,n.2),(f,e,q)])) (d++([((3:Int),a),((3:Int),a)]))))) (u (c,d))
def ZT (a:Val Ä) (k:Val aX→Option ρ):Option ρ :=
  Ã (qE a) fun b=>ck ((Ú b)+(1:Int)) fun c=>Ñ (fun(d:Val aQ) h=>wB a.2.1 (Ú a.2.1) a.1.1 a.1.2 a.2.1 a.2.2.1 a.2.2.2.1 a.2.2.2.2.1 a.2.2.2.2.2 b c d.1 d.2.1 d.2.2 (fun i j l=>h (i,j,l)) (fun f=>Ñ (fun(e:Val aQ) m=>wz a.2.2.2.2.1 (Ú a.2.2.2.2.1) a.1.1 a.1.2 a.2.1 a.2.2.1 a.2.2.2.1 a.2.2.2.2.1 a.2.2.2.2.2 b c e.1 e.2.1 e.2.2 (fun n o p=>m (n,o,p)) (fun g=>k (a,b,(c,g.1),g.2))) ((0:Int),f.1,f.2))) ((0:Int),[],[])
def Jd (a:Val Ä):Option ((Val aX)):=ZT a some
def Lc (a:Val Ä) (k:(Val (.pair Ï (.pair aa tI)))→Option ρ):Option ρ :=
  Ã (Ā a) fun b=>ifb (ine b 0) (k (((0:Int),[]),[],b)) (Ã (Jd a) fun c=>k (c.2.2.1,c.2.2.2,(0:Int)))
def Į (a:Val Ä):Option ((Val (.pair Ï (.pair aa tI)))):=Lc a some
def wK (f:Int) (a:Int) (c:Val ab) (g:Int→Val ab→Option ρ) (h:Val ab→Option ρ):Option ρ :=
  ifb (ilt a f) (í ((ile 0 a)&&(ilt a (Ĕ c))) (Ŋ c (Int.toNat a) fun d=>í (ë (List.length d.2.2.1)) (í (ë (List.length d.2.2.2.1)) (í ((ile 0 a)&&(ilt a (Ĕ c))) (Ŋ c (Int.toNat a) fun b=>í ((ile 0 a)&&(ilt a (Ĕ (List.set c (Int.toNat a) (b.1,b.2.1,d.2.2.1,b.2.2.2))))) (Ŋ (List.set c (Int.toNat a) (b.1,b.2.1,d.2.2.1,b.2.2.2)) (Int.toNat a) fun e=>ck (a+(1:Int)) fun i=>g i (List.set (List.set c (Int.toNat a) (b.1,b.2.1,d.2.2.1,b.2.2.2)) (Int.toNat a) (e.1,e.2.1,e.2.2.1,d.2.2.2.1,e.2.2.2.2)))))))) (h c)
def Z9 (a:Val Ä) (b:Val Â) (k:Val aG→Option ρ):Option ρ :=
  Ã (Ā a) fun c=>ifb (ine c 0) (k ((((0:Int),(0:Int)),[],[],[],[],[]),c)) (í (ë (List.length a.2.1)) (í (ë (List.length a.2.2.1)) (í (ë (List.length a.2.2.2.1)) (í (ë (List.length a.2.2.2.2.2)) (í (ë (List.length a.2.2.2.2.1)) (Ñ (fun(d:(Val (.pair tI ab))) g=>wK (Ú a.2.2.2.2.1) d.1 d.2 (fun h i=>g (h,i)) (fun e=>í (ë ((List.length a.2.2.2.2.2)+(List.length ([b])))) (Ã (Ā (a.1,a.2.1,a.2.2.1,a.2.2.2.1,e,(a.2.2.2.2.2++([b])))) fun f=>ifb (ine f 0) (k ((((0:Int),(0:Int)),[],[],[],[],[]),f)) (k ((a.1,a.2.1,a.2.2.1,a.2.2.2.1,e,(a.2.2.2.2.2++([b]))),(0:Int)))))) ((0:Int),a.2.2.2.2.1)))))))
def kv (a:Val Ä) (b:Val Â):Option ((Val aG)):=Z9 a b some
def s8 (a:Val Ï) (k:Val aL→Option ρ):Option ρ :=
  Ã (nW a) fun b=>ifb (ine b.1 0) (k (false,b.1)) (Ã (kX a ([])) fun c=>k (c.2,(0:Int)))
def ĥ (a:Val Ï):Option ((Val aL)):=s8 a some
def ĕ (m:Int) (j:Val aa) (b:Int) (c:Int) (d:Int) (e:Val ac) (f:Val aa) (g:Val ae) (h:Val ab) (i:Val aa) (k:Int→Int→Int→Val ac→Val aa→Val ae→Val ab→Val aa→Option ρ) (n:Val aD→Option ρ) (o:Val ah→Option ρ):Option ρ :=
  ifb (ilt b m) (í ((ile 0 b)&&(ilt b (Ĕ j))) (Ŋ j (Int.toNat b) fun l=>Ã (Ŧ ((c,d),e,f,g,h,i) l) fun p=>ifb (ieq p.2 0) (ck (b+(1:Int)) fun q=>k q c d e f g h i) (Ã (kv ((c,d),e,f,g,h,i) l) fun a=>ifb (ine a.2 0) (n (a.2,c,d,e,f,g,h,i)) (ck (b+(1:Int)) fun r=>k r a.1.1.1 a.1.1.2 a.1.2.1 a.1.2.2.1 a.1.2.2.2.1 a.1.2.2.2.2.1 a.1.2.2.2.2.2)))) (o (c,d,e,f,g,h,i))
def zF (a:Val Ä) (e:Val Â) (k:Val ł→Option ρ):Option ρ :=
  Ã (Ā a) fun f=>ifb (ine f 0) (í (ine f 0) (k (((0:Int),(0:Int)),f))) (Ñ (fun(b:Val aD) h=>ĕ (Ú ([e])) ([e]) b.1 b.2.1 b.2.2.1 b.2.2.2.1 b.2.2.2.2.1 b.2.2.2.2.2.1 b.2.2.2.2.2.2.1 b.2.2.2.2.2.2.2 (fun i j l m n o p q=>h (i,j,l,m,n,o,p,q)) (fun g=>í (ine g.1 0) (k (((0:Int),(0:Int)),g.1))) (fun c=>Ã (Į ((c.1,c.2.1),c.2.2)) fun d=>ifb (ine d.2.2 0) (í (ine d.2.2 0) (k (((0:Int),(0:Int)),d.2.2))) (Ã (ĥ d.1) fun r=>ifb (!r.1) (k (((0:Int),(0:Int)),(9:Int))) (Ã (ű (((c.1,c.2.1),c.2.2),d.1) e) fun s=>k (s,(0:Int)))))) ((0:Int),a.1.1,a.1.2,a.2.1,a.2.2.1,a.2.2.2.1,a.2.2.2.2.1,a.2.2.2.2.2))
def nV (a:Val Ä) (b:Val Â):Option (Val ł):=zF a b some
def s7 (m:Int) (j:Val aa) (b:Int) (c:Int) (d:Int) (e:Val ac) (f:Val aa) (g:Val ae) (h:Val ab) (i:Val aa) (k:Int→Int→Int→Val ac→Val aa→Val ae→Val ab→Val aa→Option ρ) (n:Val aD→Option ρ) (o:Val ah→Option ρ):Option ρ :=
  ifb (ilt b m) (í ((ile 0 b)&&(ilt b (Ĕ j))) (Ŋ j (Int.toNat b) fun l=>Ã (Ŧ ((c,d),e,f,g,h,i) l) fun p=>ifb (ieq p.2 0) (ck (b+(1:Int)) fun q=>k q c d e f g h i) (Ã (kv ((c,d),e,f,g,h,i) l) fun a=>ifb (ine a.2 0) (n (a.2,c,d,e,f,g,h,i)) (ck (b+(1:Int)) fun r=>k r a.1.1.1 a.1.1.2 a.1.2.1 a.1.2.2.1 a.1.2.2.2.1 a.1.2.2.2.2.1 a.1.2.2.2.2.2)))) (o (c,d,e,f,g,h,i))
def EK (b:Val Ä) (e:Val Â) (f:Val Â) (k:Val ł→Option ρ):Option ρ :=
  Ã (Ā b) fun g=>ifb (ine g 0) (í (ine g 0) (k (((0:Int),(0:Int)),g))) (Ñ (fun(c:Val aD) l=>s7 (Ú ([e,f])) ([e,f]) c.1 c.2.1 c.2.2.1 c.2.2.2.1 c.2.2.2.2.1 c.2.2.2.2.2.1 c.2.2.2.2.2.2.1 c.2.2.2.2.2.2.2 (fun m n o p q r s t=>l (m,n,o,p,q,r,s,t)) (fun h=>í (ine h.1 0) (k (((0:Int),(0:Int)),h.1))) (fun a=>Ã (Į ((a.1,a.2.1),a.2.2)) fun d=>ifb (ine d.2.2 0) (í (ine d.2.2 0) (k (((0:Int),(0:Int)),d.2.2))) (Ã (ĥ d.1) fun u=>ifb (!u.1) (k (((0:Int),(0:Int)),(9:Int))) (Ã (ς (((a.1,a.2.1),a.2.2),d.1) e) fun i=>Ã (ς (((a.1,a.2.1),a.2.2),d.1) f) fun j=>Ã (Ď (((a.1,a.2.1),a.2.2),d.1) j i) fun v=>ck (0-v) fun w=>Ã (Ď (((a.1,a.2.1),a.2.2),d.1) i j) fun x=>k ((w,x),(0:Int)))))) ((0:Int),b.1.1,b.1.2,b.2.1,b.2.2.1,b.2.2.2.1,b.2.2.2.2.1,b.2.2.2.2.2))
def wY (a:Val Ä) (b:Val Â) (c:Val Â):Option (Val ł):=EK a b c some
def EA (a:Val Â) (b:Val Â) (k:Int→Option ρ):Option ρ :=
  ifb (ile b.1 a.1) (ifb (ile a.2 b.2) (k (1:Int)) (ifb (ilt a.2 b.1) (k (2:Int)) (ifb (ilt b.2 a.1) (k (2:Int)) (k (3:Int))))) (ifb (ilt a.2 b.1) (k (2:Int)) (ifb (ilt b.2 a.1) (k (2:Int)) (k (3:Int))))
def qx (a:Val Â) (b:Val Â):Option (Int):=EA a b some
def zE (m:Int) (j:Val aa) (b:Int) (c:Int) (d:Int) (e:Val ac) (f:Val aa) (g:Val ae) (h:Val ab) (i:Val aa) (k:Int→Int→Int→Val ac→Val aa→Val ae→Val ab→Val aa→Option ρ) (n:Val aD→Option ρ) (o:Val ah→Option ρ):Option ρ :=
  ifb (ilt b m) (í ((ile 0 b)&&(ilt b (Ĕ j))) (Ŋ j (Int.toNat b) fun l=>Ã (Ŧ ((c,d),e,f,g,h,i) l) fun p=>ifb (ieq p.2 0) (ck (b+(1:Int)) fun q=>k q c d e f g h i) (Ã (kv ((c,d),e,f,g,h,i) l) fun a=>ifb (ine a.2 0) (n (a.2,c,d,e,f,g,h,i)) (ck (b+(1:Int)) fun r=>k r a.1.1.1 a.1.1.2 a.1.2.1 a.1.2.2.1 a.1.2.2.2.1 a.1.2.2.2.2.1 a.1.2.2.2.2.2)))) (o (c,d,e,f,g,h,i))
def Rn (b:Val Ä) (f:Val Â) (a:Val Â) (k:Val Â→Option ρ):Option ρ :=
  Ã (Ā b) fun g=>ifb (ine g 0) (ifb (ine g 0) (k ((0:Int),g)) (í (igt a.1 a.2) (k ((0:Int),(1:Int))))) (Ñ (fun(c:Val aD) i=>zE (Ú ([f])) ([f]) c.1 c.2.1 c.2.2.1 c.2.2.2.1 c.2.2.2.2.1 c.2.2.2.2.2.1 c.2.2.2.2.2.2.1 c.2.2.2.2.2.2.2 (fun j l m n o p q r=>i (j,l,m,n,o,p,q,r)) (fun h=>ifb (ine h.1 0) (k ((0:Int),h.1)) (í (igt a.1 a.2) (k ((0:Int),(1:Int))))) (fun d=>Ã (Į ((d.1,d.2.1),d.2.2)) fun e=>ifb (ine e.2.2 0) (ifb (ine e.2.2 0) (k ((0:Int),e.2.2)) (í (igt a.1 a.2) (k ((0:Int),(1:Int))))) (Ã (ĥ e.1) fun s=>ifb (!s.1) (k ((0:Int),(9:Int))) (ifb (igt a.1 a.2) (k ((0:Int),(1:Int))) (Ã (ű (((d.1,d.2.1),d.2.2),e.1) f) fun t=>Ã (qx t a) fun u=>k (u,(0:Int))))))) ((0:Int),b.1.1,b.1.2,b.2.1,b.2.2.1,b.2.2.2.1,b.2.2.2.2.1,b.2.2.2.2.2))
def I7 (a:Val Ä) (b:Val Â) (c:Val Â):Option (Val Â):=Rn a b c some
def Bb (c:Int) (a:Int) (b:Val af) (d:Int→Val af→Option ρ) (e:Val af→Option ρ):Option ρ :=
  ifb (ilt a c) (í ((ile 0 a)&&(ilt a (Ĕ b))) (Ŋ b (Int.toNat a) fun g=>ck (a+(1:Int)) fun f=>d f (List.set b (Int.toNat a) (1152921504606846976:Int)))) (e b)
def Zz (c:Int) (a:Int) (b:Val af) (d:Int→Val af→Option ρ) (e:Val af→Option ρ):Option ρ :=
  ifb (ilt a c) (í ((ile 0 a)&&(ilt a (Ĕ b))) (Ŋ b (Int.toNat a) fun g=>ck (a+(1:Int)) fun f=>d f (List.set b (Int.toNat a) (1152921504606846976:Int)))) (e b)
def HE (d:Val af) (f:Val ai) (g:Int) (c:Int) (b:Val af) (e:Int→Val af→Option ρ) (h:Val af→Option ρ):Option ρ :=
  ifb (ilt c g) (õ f c fun a=>õ d a.2.1 fun i=>ifb (ine i 1152921504606846976) (í ((ile 0 a.1)&&(ilt a.1 (Ĕ b))) (Ŋ b (Int.toNat a.1) fun j=>õ d a.2.1 fun k=>ck (a.2.2+k) fun l=>í ((ile 0 a.1)&&(ilt a.1 (Ĕ b))) (Ŋ b (Int.toNat a.1) fun o=>ck (c+(1:Int)) fun m=>e m (List.set b (Int.toNat a.1) (aam j l))))) (ck (c+(1:Int)) fun n=>e n b)) (h b)
def O0 (i:Int) (b:Int) (d:Val ai) (e:Int) (a:Val am) (j:Int→Val am→Option ρ) (k:Val am→Option ρ):Option ρ :=
  ifb (ilt e i) (ck ((Ú a)-(1:Int)) fun c=>í ((ile 0 c)&&(ilt c (Ĕ a))) (Ŋ a (Int.toNat c) fun l=>í ((ile 0 b)&&(ë (Int.toNat b))) (Ñ (fun(f:Val au) m=>Zz (Ú (List.replicate (Int.toNat b) (0:Int))) f.1 f.2 (fun n o=>m (n,o)) (fun p=>Ñ (fun(g:Val au) q=>HE l d (Ú d) g.1 g.2 (fun r s=>q (r,s)) (fun h=>í (ë ((List.length a)+(List.length ([h])))) (ck (e+(1:Int)) fun t=>j t (a++([h]))))) ((0:Int),p))) ((0:Int),(List.replicate (Int.toNat b) (0:Int)))))) (k a)
def Rv (a:Val Ï) (b:Int) (f:Int) (k:Val am→Option ρ):Option ρ :=
  í ((ile 0 a.1)&&(ë (Int.toNat a.1))) (Ñ (fun(d:Val au) g=>Bb (Ú (List.replicate (Int.toNat a.1) (0:Int))) d.1 d.2 (fun h i=>g (h,i)) (fun c=>í ((ile 0 b)&&(ilt b (Ĕ c))) (Ŋ c (Int.toNat b) fun o=>Ñ (fun(e:Val aR) j=>O0 f a.1 a.2 e.1 e.2 (fun l m=>j (l,m)) (fun n=>k n)) ((0:Int),[(List.set c (Int.toNat b) (0:Int))])))) ((0:Int),(List.replicate (Int.toNat a.1) (0:Int))))
def Az (a:Val Ï) (b:Int) (c:Int):Option ((Val am)):=Rv a b c some
def sf (b:Val am) (c:Int) (d:Int) (e:Int) (a:Int) (f:Int→Option ρ) (g:Int→Option ρ) (h:Unit→Option ρ):Option ρ :=
  ifb (ilt a c) (õ b a fun i=>õ i d fun j=>ifb (ieq j e) (g a) (ck (a+(1:Int)) fun k=>f k)) (h ())
def MI (g:Int) (h:Val am) (j:Val ai) (k:Int) (l:Int) (e:Int) (b:Int) (a:Int) (c:Val af) (f:Int→Int→Int→Val af→Option ρ) (i:(Val (.pair tI au))→Option ρ):Option ρ :=
  ifb (ilt a k) (õ j a fun d=>ifb (ieq d.1 e) (ck (g-(1:Int)) fun m=>õ h m fun n=>õ n d.2.1 fun o=>ifb (ine o 1152921504606846976) (ck (b+d.2.2) fun p=>ck (g-(1:Int)) fun q=>õ h q fun r=>õ r d.2.1 fun s=>ck (p+s) fun t=>ifb (ieq t l) (í (ë ((List.length c)+(List.length ([a])))) (ck (b+d.2.2) fun u=>i (d.2.1,u,(c++([a]))))) (ck (a+(1:Int)) fun v=>f e b v c)) (ck (a+(1:Int)) fun w=>f e b w c)) (ck (a+(1:Int)) fun x=>f e b x c)) (i (e,b,c))
def se (f:Val am) (g:Int) (d:Val ai) (h:Int) (b:Int) (i:Int) (e:Val af) (j:Int→Int→Int→Val af→Option ρ) (k:Val af→Option ρ):Option ρ :=
  ifb (igt b 0) (Ñ (fun(a:Val aM) l=>MI b f d (Ú d) g a.1 a.2.1 a.2.2.1 a.2.2.2 (fun m n o p=>l (m,n,o,p)) (fun c=>ck (b-(1:Int)) fun q=>j c.1 q c.2.1 c.2.2)) (h,i,(0:Int),e)) (k e)
def RJ (a:Val Ï) (c:Int) (g:Int) (k:Val aH→Option ρ):Option ρ :=
  Ã (qC a c g) fun b=>ifb (ine b.2 0) (k ([],b.2)) (Ã (Az a g a.1) fun d=>Ñ (fun(h:Int) i=>sf d (Ú d) c b.1 h (fun j=>i j) (fun l=>Ñ (fun(e:Val aM) m=>se d b.1 a.2 e.1 e.2.1 e.2.2.1 e.2.2.2 (fun n o p q=>m (n,o,p,q)) (fun r=>k (r,(0:Int)))) (c,l,(0:Int),[])) (fun _=>Ñ (fun(f:Val aM) s=>se d b.1 a.2 f.1 f.2.1 f.2.2.1 f.2.2.2 (fun t u v w=>s (t,u,v,w)) (fun x=>k (x,(0:Int)))) (c,(-1:Int),(0:Int),[]))) (0:Int))
def AB (a:Val Ï) (b:Int) (c:Int):Option ((Val aH)):=RJ a b c some
def wi (a:Val ay) (c:Val aW) (d:(Val (.ptr .bool))) (k:Val af→Option ρ):Option ρ :=
  Ã (ς a c) fun b=>ifb d (Ã (AB a.2 (0:Int) b) fun e=>k e.1) (Ã (AB a.2 b (0:Int)) fun f=>k f.1)
def lV (a:Val ay) (b:Val aW) (c:(Val (.ptr .bool))):Option ((Val af)):=wi a b c some
def m7 (d:Val aa) (e:Val af) (f:Int) (a:Int) (b:Val aa) (g:Int→Val aa→Option ρ) (h:Val aa→Option ρ):Option ρ :=
  ifb (ilt a f) (õ e a fun i=>õ d i fun c=>í (ë ((List.length b)+(List.length ([c])))) (ck (a+(1:Int)) fun j=>g j (b++([c])))) (h b)
def EB (c:Val Ä) (a:Val af) (k:Val aa→Option ρ):Option ρ :=
  Ã (Į c) fun d=>Ñ (fun(b:Val aF) e=>m7 d.2.1 a (Ú a) b.1 b.2 (fun f g=>e (f,g)) (fun h=>k h)) ((0:Int),[])
def qy (a:Val Ä) (b:Val af):Option ((Val aa)):=EB a b some
def sZ (m:Int) (j:Val aa) (b:Int) (c:Int) (d:Int) (e:Val ac) (f:Val aa) (g:Val ae) (h:Val ab) (i:Val aa) (k:Int→Int→Int→Val ac→Val aa→Val ae→Val ab→Val aa→Option ρ) (n:Val aD→Option ρ) (o:Val ah→Option ρ):Option ρ :=
  ifb (ilt b m) (í ((ile 0 b)&&(ilt b (Ĕ j))) (Ŋ j (Int.toNat b) fun l=>Ã (Ŧ ((c,d),e,f,g,h,i) l) fun p=>ifb (ieq p.2 0) (ck (b+(1:Int)) fun q=>k q c d e f g h i) (Ã (kv ((c,d),e,f,g,h,i) l) fun a=>ifb (ine a.2 0) (n (a.2,c,d,e,f,g,h,i)) (ck (b+(1:Int)) fun r=>k r a.1.1.1 a.1.1.2 a.1.2.1 a.1.2.2.1 a.1.2.2.2.1 a.1.2.2.2.2.1 a.1.2.2.2.2.2)))) (o (c,d,e,f,g,h,i))
def sY (a:Int) (b:Int) (d:Int→Option ρ) (c:Unit→Option ρ):Option ρ :=
  ifb (ilt b a) (none) (c ())
def EJ (d:Val Ä) (b:Val Â) (f:Bool) (k:(Val (.pair ö tI))→Option ρ):Option ρ :=
  Ã (Ā d) fun i=>ifb (ine i 0) (í (ine i 0) (k (((((0:Int),(0:Int)),[],[],[],[],[]),((0:Int),(0:Int)),false,(0:Int),[]),i))) (Ñ (fun(e:Val aD) n=>sZ (Ú ([b])) ([b]) e.1 e.2.1 e.2.2.1 e.2.2.2.1 e.2.2.2.2.1 e.2.2.2.2.2.1 e.2.2.2.2.2.2.1 e.2.2.2.2.2.2.2 (fun o p q r s t u v=>n (o,p,q,r,s,t,u,v)) (fun l=>í (ine l.1 0) (k (((((0:Int),(0:Int)),[],[],[],[],[]),((0:Int),(0:Int)),false,(0:Int),[]),l.1))) (fun a=>Ã (Į ((a.1,a.2.1),a.2.2)) fun c=>ifb (ine c.2.2 0) (í (ine c.2.2 0) (k (((((0:Int),(0:Int)),[],[],[],[],[]),((0:Int),(0:Int)),false,(0:Int),[]),c.2.2))) (Ã (ĥ c.1) fun w=>ifb (!w.1) (k (((((0:Int),(0:Int)),[],[],[],[],[]),((0:Int),(0:Int)),false,(0:Int),[]),(9:Int))) (Ã (lV (((a.1,a.2.1),a.2.2),c.1) b f) fun x=>Ã (qy ((a.1,a.2.1),a.2.2) x) fun y=>Ã (Tb ((a.1,a.2.1),a.2.2) y ([b])) fun g=>Ã (Ā g) fun j=>ifb (ine j 0) (ifb (ine j 0) (k (((((0:Int),(0:Int)),[],[],[],[],[]),((0:Int),(0:Int)),false,(0:Int),[]),j)) (Ã (π (((a.1,a.2.1),a.2.2),c.1) b) fun F=>none)) (Ñ (fun(z:Int) A=>sY (0:Int) z (fun B=>A B) (fun _=>Ã (Į g) fun h=>ifb (ine h.2.2 0) (ifb (ine h.2.2 0) (k (((((0:Int),(0:Int)),[],[],[],[],[]),((0:Int),(0:Int)),false,(0:Int),[]),h.2.2)) (Ã (π (((a.1,a.2.1),a.2.2),c.1) b) fun G=>none)) (Ã (ĥ h.1) fun C=>ifb (!C.1) (k (((((0:Int),(0:Int)),[],[],[],[],[]),((0:Int),(0:Int)),false,(0:Int),[]),(9:Int))) (Ã (π (((a.1,a.2.1),a.2.2),c.1) b) fun D=>Ã (lV (g,h.1) b f) fun m=>ifb f (Ã (iv (((a.1,a.2.1),a.2.2),c.1) b) fun E=>k ((g,b,f,E,m),(0:Int))) (k ((g,b,f,D,m),(0:Int))))))) (0:Int)))))) ((0:Int),d.1.1,d.1.2,d.2.1,d.2.2.1,d.2.2.2.1,d.2.2.2.2.1,d.2.2.2.2.2))
def qA (a:Val Ä) (b:Val Â) (c:Bool):Option ((Val (.pair ö tI))):=EJ a b c some
def m9 (d:Val af) (e:Int) (f:Val ai) (a:Int) (g:Int→Option ρ) (b:Int→Option ρ) (h:Unit→Option ρ):Option ρ :=
  ifb (ilt a e) (õ d a fun c=>ifb (ilt c 0) (b a) (ifb (ige c (Ú f)) (b a) (ck (a+(1:Int)) fun i=>g i))) (h ())
def EL (b:Val Ï) (a:Val af) (k:Int→Option ρ):Option ρ :=
  ifb (igt (Ú a) 80) (k (2:Int)) (Ñ (fun(c:Int) d=>m9 a (Ú a) b.2 c (fun e=>d e) (fun f=>ifb (ige f 0) (k (1:Int)) (k (0:Int))) (fun _=>k (0:Int))) (0:Int))
def qB (a:Val Ï) (b:Val af):Option (Int):=EL a b some
def wm (e:Val af) (f:Int) (g:Val ai) (c:Int) (d:Int) (a:Int) (h:Int→Int→Int→Option ρ) (i:Val aO→Option ρ) (j:Val Â→Option ρ):Option ρ :=
  ifb (ilt a f) (õ e a fun k=>õ g k fun b=>ifb (ine b.1 c) (i ((0:Int),(0:Int),false)) (ck (d+b.2.2) fun l=>ck (a+(1:Int)) fun m=>h b.2.1 l m)) (j (c,d))
def Zx (e:Val Ï) (f:Int) (c:Val af) (k:Val aO→Option ρ):Option ρ :=
  Ñ (fun(a:Val ć) g=>wm c (Ú c) e.2 a.1 a.2.1 a.2.2 (fun h i j=>g (h,i,j)) (fun b=>k (b.1,b.2.1,b.2.2)) (fun d=>k (d.1,d.2,true))) (f,(0:Int),(0:Int))
def I9 (a:Val Ï) (b:Int) (c:Val af):Option ((Val aO)):=Zx a b c some
def ta (a:Val Ï) (c:Int) (d:Int) (e:Val af) (k:Val Â→Option ρ):Option ρ :=
  Ã (nW a) fun f=>ifb (ine f.1 0) (k ((0:Int),f.1)) (Ã (sF a c) fun h=>ifb (!h) (k ((0:Int),(1:Int))) (Ã (sF a d) fun i=>ifb (!i) (k ((0:Int),(1:Int))) (Ã (qB a e) fun g=>ifb (ine g 0) (k ((0:Int),g)) (Ã (I9 a c e) fun b=>ifb (!b.2.2) (k ((0:Int),(8:Int))) (ifb (ine b.1 d) (k ((0:Int),(8:Int))) (k (b.2.1,(0:Int))))))))
def ke (a:Val Ï) (b:Int) (c:Int) (d:Val af):Option (Val Â):=ta a b c d some
def wh (a:Val ö) (k:Int→Option ρ):Option ρ :=
  Ã (Ā a.1) fun c=>ifb (ine c 0) (k c) (Ã (Ŧ a.1 a.2.1) fun b=>ifb (ine b.2 0) (k (5:Int)) (Ã (Į a.1) fun d=>ck (0-a.2.2.2.1) fun g=>ifb a.2.2.1 (Ã (ke d.1 (0:Int) b.1 a.2.2.2.2) fun e=>ifb (ine e.2 0) (k (8:Int)) (ifb (ine e.1 a.2.2.2.1) (k (8:Int)) (k (0:Int)))) (Ã (ke d.1 b.1 (0:Int) a.2.2.2.2) fun f=>ifb (ine f.2 0) (k (8:Int)) (ifb (ine f.1 g) (k (8:Int)) (k (0:Int))))))
def Ĉ (a:Val ö):Option (Int):=wh a some
def wJ (f:Int) (a:Int) (c:Val ab) (g:Int→Val ab→Option ρ) (h:Val ab→Option ρ):Option ρ :=
  ifb (ilt a f) (í ((ile 0 a)&&(ilt a (Ĕ c))) (Ŋ c (Int.toNat a) fun d=>í (ë (List.length d.2.2.1)) (í (ë (List.length d.2.2.2.1)) (í ((ile 0 a)&&(ilt a (Ĕ c))) (Ŋ c (Int.toNat a) fun b=>í ((ile 0 a)&&(ilt a (Ĕ (List.set c (Int.toNat a) (b.1,b.2.1,d.2.2.1,b.2.2.2))))) (Ŋ (List.set c (Int.toNat a) (b.1,b.2.1,d.2.2.1,b.2.2.2)) (Int.toNat a) fun e=>ck (a+(1:Int)) fun i=>g i (List.set (List.set c (Int.toNat a) (b.1,b.2.1,d.2.2.1,b.2.2.2)) (Int.toNat a) (e.1,e.2.1,e.2.2.1,d.2.2.2.1,e.2.2.2.2)))))))) (h c)
def Z6 (a:Val Ä) (b:Val Ê) (k:Val aG→Option ρ):Option ρ :=
  í (ë (List.length b.2.2.1)) (í (ë (List.length b.2.2.2.1)) (Ã (Ā a) fun d=>ifb (ine d 0) (k ((((0:Int),(0:Int)),[],[],[],[],[]),d)) (í (ë (List.length a.2.1)) (í (ë (List.length a.2.2.1)) (í (ë (List.length a.2.2.2.1)) (í (ë (List.length a.2.2.2.2.2)) (í (ë (List.length a.2.2.2.2.1)) (Ñ (fun(e:(Val (.pair tI ab))) g=>wJ (Ú a.2.2.2.2.1) e.1 e.2 (fun h i=>g (h,i)) (fun c=>í (ë ((List.length c)+(List.length ([b])))) (Ã (Ā (a.1,a.2.1,a.2.2.1,a.2.2.2.1,(c++([b])),a.2.2.2.2.2)) fun f=>ifb (ine f 0) (k ((((0:Int),(0:Int)),[],[],[],[],[]),f)) (k ((a.1,a.2.1,a.2.2.1,a.2.2.2.1,(c++([b])),a.2.2.2.2.2),(0:Int)))))) ((0:Int),a.2.2.2.2.1)))))))))
def ph (a:Val Ä) (b:Val Ê):Option ((Val aG)):=Z6 a b some
def Sf (b:Val Ä) (a:Val Ê) (c:Val Â) (k:Val ł→Option ρ):Option ρ :=
  Ã (pB b a) fun d=>Ã (vh b a) fun e=>Ã (Jb d.1) fun h=>Ã (AC d.2) fun i=>ck (h.1+e.1) fun j=>ck (j-a.2.2.2.2.2.1) fun f=>ck (i.1+e.2) fun l=>ck (l+a.2.2.2.2.2.1) fun g=>ifb (igt f g) (k (((0:Int),(0:Int)),(5:Int))) (ck (c.1+f) fun m=>ck (c.2+g) fun n=>k ((m,n),(0:Int)))
def vg (a:Val Ä) (b:Val Ê) (c:Val Â):Option (Val ł):=Sf a b c some
def EZ (g:Val Ä) (a:Val Ê) (k:Val ł→Option ρ):Option ρ :=
  Ã (ph g (a.1,a.2.1,a.2.2.1,a.2.2.2.1,(0:Int),a.2.2.2.2.2)) fun d=>ifb (ine d.2 0) (k (((0:Int),(0:Int)),d.2)) (Ã (Jd d.1) fun b=>ck ((Ú b.2.2.1.2)-(2:Int)) fun c=>í ((ile 0 c)&&(ile c (Ĕ b.2.2.1.2))) (Ã (ũ a.2.2.1 a.2.2.2.1) fun l=>Ã (iC b l a.2.1) fun h=>Ã (ũ a.2.2.2.1 a.2.2.1) fun m=>Ã (iC b m a.2.1) fun i=>Ã (qC (b.2.2.1.1,(List.take (Int.toNat c) b.2.2.1.2)) i h) fun e=>ifb (ine e.2 0) (k (((0:Int),(0:Int)),e.2)) (Ã (qC (b.2.2.1.1,(List.take (Int.toNat c) b.2.2.1.2)) h i) fun f=>ifb (ine f.2 0) (k (((0:Int),(0:Int)),f.2)) (ck (0-f.1) fun n=>Ã (vg g (a.1,a.2.1,a.2.2.1,a.2.2.2.1,(0:Int),a.2.2.2.2.2) (n,e.1)) fun j=>k (j.1,j.2)))))
def w9 (a:Val Ä) (b:Val Ê):Option (Val ł):=EZ a b some
def Sd (a:Val Ä) (b:Int) (k:(Val (.pair Ê tI))→Option ρ):Option ρ :=
  Ã (Ā a) fun c=>ifb (ine c 0) (k (((0:Int),(0:Int),[],[],(0:Int),(0:Int),(0:Int),(0:Int)),c)) (ifb (ilt b 0) (k (((0:Int),(0:Int),[],[],(0:Int),(0:Int),(0:Int),(0:Int)),(1:Int))) (ifb (ige b (Ú a.2.2.2.2.1)) (k (((0:Int),(0:Int),[],[],(0:Int),(0:Int),(0:Int),(0:Int)),(1:Int))) (õ a.2.2.2.2.1 b fun d=>k (d,(0:Int)))))
def Jc (a:Val Ä) (b:Int):Option ((Val (.pair Ê tI))):=Sd a b some
def Z8 (b:Val Ä) (c:Int) (k:Val ł→Option ρ):Option ρ :=
  Ã (Jc b c) fun a=>ifb (ine a.2 0) (k (((0:Int),(0:Int)),a.2)) (Ã (wZ b a.1) fun d=>k (d,(0:Int)))
def Pa (a:Val Ä) (b:Int):Option (Val ł):=Z8 a b some
def Le (a:Val af) (b:Val af) (k:(Val (.pair af aH))→Option ρ):Option ρ :=
  Ã (mR a) fun c=>ifb (!c) (k ([],[],(1:Int))) (Ã (mR b) fun d=>ifb (!d) (k ([],[],(1:Int))) (Ã (ũ a b) fun e=>Ã (ũ b a) fun f=>k (e,f,(0:Int))))
def vk (a:Val af) (b:Val af):Option ((Val (.pair af aH))):=Le a b some
def zy (a:Val af) (b:Val ay) (c:(Val (.ptr Ê))) (k:Int→Option ρ):Option ρ :=
  ifb (ieq (Ú a) 0) (k (0:Int)) (õ a (0:Int) fun d=>Ã (ς b (d,c.2.1)) fun e=>k e)
def nT (a:Val af) (b:Val ay) (c:(Val (.ptr Ê))):Option (Int):=zy a b c some
def zx (b:Int) (c:Int) (a:Val ay) (d:(Val (.ptr tI))) (e:Val aW) (f:(Val (.ptr tI))) (k:Val ć→Option ρ):Option ρ :=
  Ã (Ď a b c) fun g=>Ã (Ď a d c) fun h=>ck (h+e.2) fun i=>Ã (Ď a b f) fun j=>ck (i+j) fun l=>Ã (Ď a f c) fun m=>ck (m-e.1) fun n=>Ã (Ď a b d) fun o=>ck (n+o) fun p=>k (g,l,p)
def nS (a:Int) (b:Int) (c:Val ay) (d:(Val (.ptr tI))) (e:Val aW) (f:(Val (.ptr tI))):Option (Val ć):=zx a b c d e f some
def lN (f:Int) (g:Val aa) (h:Val ai) (i:Int) (a:Int) (b:Val ai) (c:Int→Val ai→Option ρ) (j:Val ai→Option ρ):Option ρ :=
  ifb (ilt a i) (õ h a fun d=>õ g a fun e=>ifb (!((ü e.1 (3:Int))&&((ü e.2 f)&&true))) (í (ë ((List.length b)+(List.length ([d])))) (ck (a+(1:Int)) fun k=>c k (b++([d])))) (ck (a+(1:Int)) fun l=>c l b)) (j b)
def Kz (f:Val ay) (o:Val Â) (a:Val Ê) (k:(Val (.pair ų tI))→Option ρ):Option ρ :=
  Ã (w9 f.1 a) fun e=>ifb (ine e.2 0) (k ((((0:Int),(0:Int)),((0:Int),(0:Int),(0:Int)),(0:Int),(0:Int),(0:Int)),e.2)) (Ã (ph f.1 (a.1,a.2.1,a.2.2.1,a.2.2.2.1,(0:Int),a.2.2.2.2.2)) fun b=>ifb (ine b.2 0) (k ((((0:Int),(0:Int)),((0:Int),(0:Int),(0:Int)),(0:Int),(0:Int),(0:Int)),b.2)) (ck ((Ú b.1.2.2.2.2.1)-(1:Int)) fun g=>Ã (Pa b.1 g) fun h=>Ã (vk a.2.2.1 a.2.2.2.1) fun i=>Ã (Į b.1) fun c=>Ñ (fun(j:Val Ï) p=>lN g c.2.1 c.1.2 (Ú c.1.2) j.1 j.2 (fun q r=>p (q,r)) (fun d=>Ã (nT i.1 (b.1,c.1.1,d) (a.1,a.2.1,a.2.2.1,a.2.2.2.1,(0:Int),a.2.2.2.2.2)) fun l=>Ã (nT i.2.1 (b.1,c.1.1,d) (a.1,a.2.1,a.2.2.1,a.2.2.2.1,(0:Int),a.2.2.2.2.2)) fun m=>Ã (ς (b.1,c.1.1,d) o) fun n=>Ã (nS n (0:Int) (b.1,c.1.1,d) m h.1 l) fun s=>Ã (nS (0:Int) n (b.1,c.1.1,d) m h.1 l) fun t=>k ((e.1,s,t),(0:Int)))) ((0:Int),[])))
def vc (a:Val ay) (b:Val Â) (c:Val Ê):Option ((Val (.pair ų tI))):=Kz a b c some
def vY (a:Val ć) (k:Val af→Option ρ):Option ρ :=
  ck (a.2.2-a.2.1) fun c=>ck (Int.tdiv c (2:Int)) fun b=>ck (a.1-a.2.1) fun d=>ck (a.2.2-a.1) fun e=>ck (b-1) fun f=>ck (b+1) fun g=>k ([d,e,b,f,g])
def iP (a:Val ć):Option ((Val af)):=vY a some
def KC (a:Val ć) (b:Int) (k:Int→Option ρ):Option ρ :=
  ck (a.2.1+b) fun c=>ck (a.2.2-b) fun d=>k (aam (aam a.1 c) d)
def vd (a:Val ć) (b:Int):Option (Int):=KC a b some
def sQ (a:Val ų) (b:Int) (k:Val Â→Option ρ):Option ρ :=
  Ã (vd a.2.2 b) fun c=>ck (0-c) fun d=>Ã (vd a.2.1 b) fun e=>k (d,e)
def Ř (a:Val ų) (b:Int):Option (Val Â):=sQ a b some
def ik (d:Int) (e:Int) (f:Int) (a:Int) (b:Val af) (c:Int→Val af→Option ρ) (g:Val af→Option ρ):Option ρ :=
  ck (d+(2:Int)) fun h=>ifb (ile a h) (ifb (igt a e) (ifb (ilt a f) (í (ë ((List.length b)+(List.length ([a])))) (ck (a+(1:Int)) fun i=>c i (b++([a])))) (ck (a+(1:Int)) fun j=>c j b)) (ck (a+(1:Int)) fun k=>c k b)) (g b)
def jF (e:Val af) (f:Int) (g:Int) (h:Int) (a:Int) (b:Val af) (i:Int→Val af→Option ρ) (j:Val af→Option ρ):Option ρ :=
  ifb (ilt a f) (õ e a fun c=>ck (c-(2:Int)) fun k=>Ñ (fun(d:Val au) l=>ik c g h d.1 d.2 (fun m n=>l (m,n)) (fun o=>ck (a+(1:Int)) fun p=>i p o)) (k,b)) (j b)
def sR (a:Val ų) (b:Val af) (k:Val af→Option ρ):Option ρ :=
  Ñ (fun(c:Val au) d=>jF b (Ú b) a.1.1 a.1.2 c.1 c.2 (fun e f=>d (e,f)) (fun g=>k g)) ((0:Int),[a.1.1,a.1.2])
def kd (a:Val ų) (b:Val af):Option ((Val af)):=sR a b some
def jg (d:Val af) (e:Int) (f:Int) (g:Int) (h:Int) (i:Int) (j:Int) (k:Int) (l:Int) (m:Int) (b:Int) (a:Int) (n:Int→Int→Option ρ) (o:Int→Option ρ):Option ρ :=
  ifb (ilt a e) (õ d a fun p=>Ã (Ř ((f,g),(h,i,j),k,l,m) p) fun c=>ck (c.2-c.1) fun q=>ck (a+(1:Int)) fun r=>n (T0 b q) r) (o b)
def pT (a:Val ų) (k:Int→Option ρ):Option ρ :=
  Ã (iP a.2.1) fun d=>Ã (iP a.2.2) fun e=>Ã (ï ([d,e])) fun f=>Ã (kd a f) fun b=>Ñ (fun(c:Val Â) g=>jg b (Ú b) a.1.1 a.1.2 a.2.1.1 a.2.1.2.1 a.2.1.2.2 a.2.2.1 a.2.2.2.1 a.2.2.2.2 c.1 c.2 (fun h i=>g (h,i)) (fun j=>k j)) ((-1:Int),(0:Int))
def lT (a:Val ų):Option (Int):=pT a some
def zB (m:Int) (j:Val aa) (b:Int) (c:Int) (d:Int) (e:Val ac) (f:Val aa) (g:Val ae) (h:Val ab) (i:Val aa) (k:Int→Int→Int→Val ac→Val aa→Val ae→Val ab→Val aa→Option ρ) (n:Val aD→Option ρ) (o:Val ah→Option ρ):Option ρ :=
  ifb (ilt b m) (í ((ile 0 b)&&(ilt b (Ĕ j))) (Ŋ j (Int.toNat b) fun l=>Ã (Ŧ ((c,d),e,f,g,h,i) l) fun p=>ifb (ieq p.2 0) (ck (b+(1:Int)) fun q=>k q c d e f g h i) (Ã (kv ((c,d),e,f,g,h,i) l) fun a=>ifb (ine a.2 0) (n (a.2,c,d,e,f,g,h,i)) (ck (b+(1:Int)) fun r=>k r a.1.1.1 a.1.1.2 a.1.2.1 a.1.2.2.1 a.1.2.2.2.1 a.1.2.2.2.2.1 a.1.2.2.2.2.2)))) (o (c,d,e,f,g,h,i))
def Rk (a:Val Ä) (e:Val Â) (i:Val Ê) (k:Val Â→Option ρ):Option ρ :=
  Ã (Ā a) fun f=>ifb (ine f 0) (í (ine f 0) (k ((0:Int),f))) (Ñ (fun(b:Val aD) j=>zB (Ú ([e])) ([e]) b.1 b.2.1 b.2.2.1 b.2.2.2.1 b.2.2.2.2.1 b.2.2.2.2.2.1 b.2.2.2.2.2.2.1 b.2.2.2.2.2.2.2 (fun l m n o p q r s=>j (l,m,n,o,p,q,r,s)) (fun h=>í (ine h.1 0) (k ((0:Int),h.1))) (fun c=>Ã (Į ((c.1,c.2.1),c.2.2)) fun d=>ifb (ine d.2.2 0) (í (ine d.2.2 0) (k ((0:Int),d.2.2))) (Ã (ĥ d.1) fun t=>ifb (!t.1) (k ((0:Int),(9:Int))) (Ã (vc (((c.1,c.2.1),c.2.2),d.1) e i) fun g=>ifb (ine g.2 0) (k ((0:Int),g.2)) (Ã (lT g.1) fun u=>k (u,(0:Int))))))) ((0:Int),a.1.1,a.1.2,a.2.1,a.2.2.1,a.2.2.2.1,a.2.2.2.2.1,a.2.2.2.2.2))
def Ay (a:Val Ä) (b:Val Â) (c:Val Ê):Option (Val Â):=Rk a b c some
def wd (a:Int) (k:Int→Option ρ):Option ρ :=
  k (T0 (-288230376151711744:Int) (aam a (288230376151711744:Int)))
def lU (a:Int):Option (Int):=wd a some
def vZ (a:Val ć) (b:Int) (k:Val af→Option ρ):Option ρ :=
  ck (b-a.2.1) fun c=>ck (a.2.2-b) fun d=>k ([c,d])
def iQ (a:Val ć) (b:Int):Option ((Val af)):=vZ a b some
def sV (m:Int) (j:Val aa) (b:Int) (c:Int) (d:Int) (e:Val ac) (f:Val aa) (g:Val ae) (h:Val ab) (i:Val aa) (k:Int→Int→Int→Val ac→Val aa→Val ae→Val ab→Val aa→Option ρ) (n:Val aD→Option ρ) (o:Val ah→Option ρ):Option ρ :=
  ifb (ilt b m) (í ((ile 0 b)&&(ilt b (Ĕ j))) (Ŋ j (Int.toNat b) fun l=>Ã (Ŧ ((c,d),e,f,g,h,i) l) fun p=>ifb (ieq p.2 0) (ck (b+(1:Int)) fun q=>k q c d e f g h i) (Ã (kv ((c,d),e,f,g,h,i) l) fun a=>ifb (ine a.2 0) (n (a.2,c,d,e,f,g,h,i)) (ck (b+(1:Int)) fun r=>k r a.1.1.1 a.1.1.2 a.1.2.1 a.1.2.2.1 a.1.2.2.2.1 a.1.2.2.2.2.1 a.1.2.2.2.2.2)))) (o (c,d,e,f,g,h,i))
def m8 (b:Val af) (c:Int) (d:Int) (e:Int) (f:Int) (g:Int) (h:Int) (i:Int) (j:Int) (k:Int) (l:Int) (m:Int) (a:Int) (n:Int→Option ρ) (o:Int→Option ρ) (p:Unit→Option ρ):Option ρ :=
  ifb (ilt a c) (õ b a fun q=>Ã (Ř ((f,g),(h,i,j),k,l,m) q) fun r=>Ã (qx r (d,e)) fun s=>ifb (ieq s 3) (o a) (ck (a+(1:Int)) fun t=>n t)) (p ())
def EH (c:Val Ä) (g:Val Â) (b:Val Â) (n:Val Ê) (k:Val aL→Option ρ):Option ρ :=
  Ã (Ā c) fun h=>ifb (ine h 0) (ifb (ine h 0) (k (false,h)) (í (igt b.1 b.2) (k (false,(1:Int))))) (Ñ (fun(d:Val aD) o=>sV (Ú ([g])) ([g]) d.1 d.2.1 d.2.2.1 d.2.2.2.1 d.2.2.2.2.1 d.2.2.2.2.2.1 d.2.2.2.2.2.2.1 d.2.2.2.2.2.2.2 (fun p q r s t u v w=>o (p,q,r,s,t,u,v,w)) (fun l=>ifb (ine l.1 0) (k (false,l.1)) (í (igt b.1 b.2) (k (false,(1:Int))))) (fun e=>Ã (Į ((e.1,e.2.1),e.2.2)) fun f=>ifb (ine f.2.2 0) (ifb (ine f.2.2 0) (k (false,f.2.2)) (í (igt b.1 b.2) (k (false,(1:Int))))) (Ã (ĥ f.1) fun x=>ifb (!x.1) (k (false,(9:Int))) (ifb (igt b.1 b.2) (k (false,(1:Int))) (Ã (vc (((e.1,e.2.1),e.2.2),f.1) g n) fun a=>ifb (ine a.2 0) (k (false,a.2)) (Ã (iP a.1.2.1) fun y=>Ã (iP a.1.2.2) fun z=>Ã (ï ([y,z])) fun A=>Ã (lU b.1) fun i=>Ã (lU b.2) fun j=>Ã (iQ a.1.2.1 i) fun B=>ck (0-i) fun C=>Ã (iQ a.1.2.2 C) fun D=>Ã (ï ([A,B,D])) fun E=>Ã (iQ a.1.2.1 j) fun F=>ck (0-j) fun G=>Ã (iQ a.1.2.2 G) fun H=>Ã (ï ([E,F,H])) fun I=>Ã (kd a.1 I) fun m=>Ñ (fun(J:Int) K=>m8 m (Ú m) i j a.1.1.1 a.1.1.2 a.1.2.1.1 a.1.2.1.2.1 a.1.2.1.2.2 a.1.2.2.1 a.1.2.2.2.1 a.1.2.2.2.2 J (fun L=>K L) (fun M=>k ((!(ige M 0)),(0:Int))) (fun _=>k (true,(0:Int)))) (0:Int))))))) ((0:Int),c.1.1,c.1.2,c.2.1,c.2.2.1,c.2.2.2.1,c.2.2.2.2.1,c.2.2.2.2.2))
def qz (a:Val Ä) (b:Val Â) (c:Val Â) (d:Val Ê):Option ((Val aL)):=EH a b c d some
def MH (d:Int) (c:Int) (e:Val ai) (a:Int) (b:Val aS) (f:Int→Val aS→Option ρ) (g:Val aS→Option ρ):Option ρ :=
  ifb (ilt a d) (Ã (Az (c,e) a c) fun h=>í ((ile 0 a)&&(ilt a (Ĕ b))) (Ŋ b (Int.toNat a) fun j=>ck (a+(1:Int)) fun i=>f i (List.set b (Int.toNat a) h))) (g b)
def MD (g:Int) (h:Val am) (j:Val ai) (k:Int) (e:Int) (b:Int) (a:Int) (c:Val af) (f:Int→Int→Int→Val af→Option ρ) (i:(Val (.pair tI au))→Option ρ):Option ρ :=
  ifb (ilt a k) (õ j a fun d=>ifb (ieq d.1 e) (ck (g-(1:Int)) fun l=>õ h l fun m=>õ m d.2.1 fun n=>ifb (ine n 1152921504606846976) (ck (b+d.2.2) fun o=>ck (g-(1:Int)) fun p=>õ h p fun q=>õ q d.2.1 fun r=>ck (o+r) fun s=>ifb (ilt s 0) (í (ë ((List.length c)+(List.length ([a])))) (ck (b+d.2.2) fun t=>i (d.2.1,t,(c++([a]))))) (ck (a+(1:Int)) fun u=>f e b u c)) (ck (a+(1:Int)) fun v=>f e b v c)) (ck (a+(1:Int)) fun w=>f e b w c)) (i (e,b,c))
def ME (f:Val am) (d:Val ai) (g:Int) (b:Int) (h:Int) (e:Val af) (i:Int→Int→Int→Val af→Option ρ) (j:Val af→Option ρ):Option ρ :=
  ifb (igt b 0) (Ñ (fun(a:Val aM) k=>MD b f d (Ú d) a.1 a.2.1 a.2.2.1 a.2.2.2 (fun l m n o=>k (l,m,n,o)) (fun c=>ck (b-(1:Int)) fun p=>i c.1 p c.2.1 c.2.2)) (g,h,(0:Int),e)) (j e)
def MF (e:Int) (h:Val ai) (i:Int) (j:Int) (k:Val ai) (b:Val aS) (c:Int) (f:Int→Option ρ) (l:Unit→Option ρ) (m:Val au→Option ρ) (n:Unit→Option ρ):Option ρ :=
  ifb (ilt c i) (õ h c fun a=>í ((ile 0 a.1)&&(ilt a.1 (Ĕ b))) (Ŋ b (Int.toNat a.1) fun o=>ck (e-(1:Int)) fun p=>õ o p fun q=>õ q a.2.1 fun g=>ifb (ieq g 1152921504606846976) (ck (c+(1:Int)) fun r=>f r) (ck (a.2.2+g) fun s=>ifb (ige s 0) (ck (c+(1:Int)) fun t=>f t) (ifb (igt e j) (l ()) (í ((ile 0 a.1)&&(ilt a.1 (Ĕ b))) (Ŋ b (Int.toNat a.1) fun u=>Ñ (fun(d:Val aM) v=>ME u k d.1 d.2.1 d.2.2.1 d.2.2.2 (fun w x y z=>v (w,x,y,z)) (fun A=>m ((0:Int),A))) (a.1,e,(0:Int),[]))))))) (n ())
def MG (d:Int) (a:Val ai) (e:Val aS) (b:Int) (f:Int→Option ρ) (g:Unit→Option ρ) (h:Val au→Option ρ):Option ρ :=
  Ñ (fun(i:Int) j=>MF b a (Ú a) d a e i (fun k=>j k) (fun _=>g ()) (fun c=>h (c.1,c.2)) (fun _=>ck (b+(1:Int)) fun l=>f l)) (0:Int)
def RD (a:Val Ï) (k:Val aH→Option ρ):Option ρ :=
  Ã (nW a) fun b=>ifb (ine b.1 0) (k ([],b.1)) (Ã (kX a ([])) fun e=>ifb e.2 (k ([],(5:Int))) (í ((ile 0 a.1)&&(ë (Int.toNat a.1))) (Ñ (fun(c:(Val (.pair tI aS))) f=>MH (Ú (List.replicate (Int.toNat a.1) ([]:Val am))) a.1 a.2 c.1 c.2 (fun g h=>f (g,h)) (fun i=>Ñ (fun(j:Int) l=>MG a.1 a.2 i j (fun m=>l m) (fun _=>k ([],(5:Int))) (fun d=>k (d.2,d.1))) (1:Int))) ((0:Int),(List.replicate (Int.toNat a.1) ([]:Val am))))))
def AA (a:Val Ï):Option ((Val aH)):=RD a some
def Rq (a:Val Ä) (k:(Val (.pair ö tI))→Option ρ):Option ρ :=
  Ã (Į a) fun b=>ifb (ine b.2.2 0) (k (((((0:Int),(0:Int)),[],[],[],[],[]),((0:Int),(0:Int)),false,(0:Int),[]),b.2.2)) (Ã (AA b.1) fun c=>ifb (ine c.2 0) (k (((((0:Int),(0:Int)),[],[],[],[],[]),((0:Int),(0:Int)),false,(0:Int),[]),c.2)) (Ã (qy a c.1) fun f=>Ã (Tb a f ([])) fun e=>Ã (Į e) fun g=>Ã (AA g.1) fun d=>ifb (ine d.2 0) (k (((((0:Int),(0:Int)),[],[],[],[],[]),((0:Int),(0:Int)),false,(0:Int),[]),d.2)) (k ((e,((0:Int),(0:Int)),false,(0:Int),d.1),(0:Int)))))
def I8 (a:Val Ä):Option ((Val (.pair ö tI))):=Rq a some
def yz (k:Val Ä→Option ρ):Option ρ :=
  k (((0:Int),(2:Int)),[((1:Int),(0:Int),(1000:Int),((-5:Int),(5:Int)),((1:Int),(10:Int)),(1:Int)),((2:Int),(0:Int),(1000:Int),((-50:Int),(50:Int)),((1:Int),(4:Int)),(0:Int))],[((1:Int),(10:Int))],[((1:Int),((20:Int),(29:Int)),(3:Int))],[((7:Int),(10:Int),[(1:Int)],[(2:Int)],(-20:Int),(1:Int),(100:Int),(200:Int))],[])
def As:Option (Val Ä):=yz some
def Zf (a:Val af) (b:Int) (k:Bool→Option ρ):Option ρ :=
  Ã (vk a ([])) fun c=>ifb (ieq c.2.2 0) (k (ile (Ú a) b)) (k false)
def O8 (a:Val af) (b:Int):Option (Bool):=Zf a b some
def Rg (a:Int) (k:Bool→Option ρ):Option ρ :=
  ifb (ige a 0) (k (ile a 20000)) (k false)
def I6 (a:Int):Option (Bool):=Rg a some
def rP (c:Int) (e:Val af) (f:Int) (a:Int) (b:Val aa) (g:Int→Val aa→Option ρ) (h:Val aa→Option ρ):Option ρ :=
  ifb (ilt a f) (õ e a fun d=>í (ë ((List.length b)+(List.length ([(d,c)])))) (ck (a+(1:Int)) fun i=>g i (b++([(d,c)])))) (h b)
def Rb (c:Int) (d:Val am) (k:Val aa→Option ρ):Option ρ :=
  Ã (ï d) fun a=>Ñ (fun(b:Val aF) e=>rP c a (Ú a) b.1 b.2 (fun f g=>e (f,g)) (fun h=>k h)) ((0:Int),[])
def I5 (a:Int) (b:Val am):Option ((Val aa)):=Rb a b some
def wg (l:Val aa) (m:Int) (i:Int) (b:Int) (c:Int) (d:Val ac) (e:Val aa) (f:Val ae) (g:Val ab) (h:Val aa) (j:Int→Int→Int→Val ac→Val aa→Val ae→Val ab→Val aa→Option ρ) (n:Val aD→Option ρ) (o:Val ah→Option ρ):Option ρ :=
  ifb (ilt i m) (õ l i fun k=>Ã (Ŧ ((b,c),d,e,f,g,h) k) fun p=>ifb (ieq p.2 0) (ck (i+(1:Int)) fun q=>j q b c d e f g h) (Ã (kv ((b,c),d,e,f,g,h) k) fun a=>ifb (ine a.2 0) (n (a.2,b,c,d,e,f,g,h)) (ck (i+(1:Int)) fun r=>j r a.1.1.1 a.1.1.2 a.1.2.1 a.1.2.2.1 a.1.2.2.2.1 a.1.2.2.2.2.1 a.1.2.2.2.2.2))) (o (b,c,d,e,f,g,h))
def we (e:Val ay) (f:Val aa) (g:Int) (a:Int) (b:Int) (c:Int) (h:Int→Int→Int→Option ρ) (i:Val Â→Option ρ):Option ρ :=
  ifb (ilt a g) (õ f a fun j=>Ã (ű e j) fun d=>ck (b+d.1) fun k=>ck (c+d.2) fun l=>ck (a+(1:Int)) fun m=>h m k l) (i (b,c))
def Zt (a:Val Ä) (i:Int) (c:Val af) (k:Val ł→Option ρ):Option ρ :=
  Ã (Ā a) fun j=>ifb (ine j 0) (k (((0:Int),(0:Int)),j)) (ifb (ieq (Ú c) 0) (k (((0:Int),(0:Int)),(1:Int))) (Ã (O8 c (6:Int)) fun q=>ifb (!q) (k (((0:Int),(0:Int)),(1:Int))) (Ã (I6 i) fun r=>ifb (!r) (k (((0:Int),(0:Int)),(1:Int))) (Ã (I5 i ([c])) fun f=>Ã (Ā a) fun g=>ifb (ine g 0) (ifb (ine g 0) (k (((0:Int),(0:Int)),g)) (ck ((Ú c)-(1:Int)) fun l=>ck (l*a.1.1) fun J=>ck (l*a.1.2) fun K=>none)) (Ñ (fun(b:Val aD) s=>wg f (Ú f) b.1 b.2.1 b.2.2.1 b.2.2.2.1 b.2.2.2.2.1 b.2.2.2.2.2.1 b.2.2.2.2.2.2.1 b.2.2.2.2.2.2.2 (fun t u v w x y z A=>s (t,u,v,w,x,y,z,A)) (fun m=>ifb (ine m.1 0) (k (((0:Int),(0:Int)),m.1)) (ck ((Ú c)-(1:Int)) fun n=>ck (n*a.1.1) fun L=>ck (n*a.1.2) fun M=>none)) (fun d=>Ã (Į ((d.1,d.2.1),d.2.2)) fun e=>ifb (ine e.2.2 0) (ifb (ine e.2.2 0) (k (((0:Int),(0:Int)),e.2.2)) (ck ((Ú c)-(1:Int)) fun o=>ck (o*a.1.1) fun N=>ck (o*a.1.2) fun O=>none)) (Ã (ĥ e.1) fun B=>ifb (!B.1) (k (((0:Int),(0:Int)),(9:Int))) (ck ((Ú c)-(1:Int)) fun p=>ck (p*a.1.1) fun C=>ck (p*a.1.2) fun D=>Ñ (fun(h:Val ć) E=>we (((d.1,d.2.1),d.2.2),e.1) f (Ú f) h.1 h.2.1 h.2.2 (fun F G H=>E (F,G,H)) (fun I=>k (I,(0:Int)))) ((0:Int),C,D))))) ((0:Int),a.1.1,a.1.2,a.2.1,a.2.2.1,a.2.2.2.1,a.2.2.2.2.1,a.2.2.2.2.2))))))
def O9 (a:Val Ä) (b:Int) (c:Val af):Option (Val ł):=Zt a b c some
def s9 (a:Val Ï) (b:Val af) (k:Int→Option ρ):Option ρ :=
  Ã (nW a) fun d=>ifb (ine d.1 0) (k d.1) (Ã (qB a b) fun e=>ifb (ine e 0) (k e) (ifb (ieq (Ú b) 0) (k (8:Int)) (õ b (0:Int) fun g=>õ a.2 g fun f=>Ã (I9 a f.1 b) fun c=>ifb (!c.2.2) (k (8:Int)) (ifb (ine c.1 f.1) (k (8:Int)) (ifb (ige c.2.1 0) (k (8:Int)) (k (0:Int)))))))
def nh (a:Val Ï) (b:Val af):Option (Int):=s9 a b some
def sX (a:Val ö) (k:Int→Option ρ):Option ρ :=
  Ã (Ā a.1) fun b=>ifb (ine b 0) (k b) (ifb (!((ü a.2.1.1 (0:Int))&&((ü a.2.1.2 (0:Int))&&true))) (k (1:Int)) (ifb a.2.2.1 (k (1:Int)) (ifb (ine a.2.2.2.1 0) (k (1:Int)) (Ã (Į a.1) fun c=>Ã (nh c.1 a.2.2.2.2) fun d=>ifb (ine d 0) (k (8:Int)) (k (0:Int))))))
def ng (a:Val ö):Option (Int):=sX a some
def ą (c:Val ac) (d:Int) (e:Int) (f:Int) (g:Int) (h:Int) (i:Int) (j:Int) (k:Int) (l:Int) (b:Int) (m:Int→Option ρ) (n:Int→Option ρ) (o:Unit→Option ρ):Option ρ :=
  ifb (ilt b d) (õ c b fun a=>ifb ((ü e a.1)&&((ü f a.2.1)&&((ü g a.2.2.1)&&((ü h a.2.2.2.1.1)&&((ü i a.2.2.2.1.2)&&((ü j a.2.2.2.2.1.1)&&((ü k a.2.2.2.2.1.2)&&((ü l a.2.2.2.2.2)&&true)))))))) (n b) (ck (b+(1:Int)) fun p=>m p)) (o ())
def ţ (b:Val ac) (a:Val Ð) (k:Int→Option ρ):Option ρ :=
  Ñ (fun(c:Int) d=>ą b (Ú b) a.1 a.2.1 a.2.2.1 a.2.2.2.1.1 a.2.2.2.1.2 a.2.2.2.2.1.1 a.2.2.2.2.1.2 a.2.2.2.2.2 c (fun e=>d e) (fun f=>k f) (fun _=>k (-1:Int))) (0:Int)
def Ť (a:Val ac) (b:Val Ð):Option (Int):=ţ a b some
def Ŏ (a:Val ac) (b:Val Ð) (k:Bool→Option ρ):Option ρ :=
  Ã (Ť a b) fun c=>k (ige c 0)
def ġ (a:Val ac) (b:Val Ð):Option (Bool):=Ŏ a b some
def Ě (c:Val aa) (d:Int) (e:Int) (f:Int) (a:Int) (g:Int→Option ρ) (h:Int→Option ρ) (i:Unit→Option ρ):Option ρ :=
  ifb (ilt a d) (õ c a fun b=>ifb ((ü e b.1)&&((ü f b.2)&&true)) (h a) (ck (a+(1:Int)) fun j=>g j)) (i ())
def ι (a:Val aa) (b:Val Â) (k:Int→Option ρ):Option ρ :=
  Ñ (fun(c:Int) d=>Ě a (Ú a) b.1 b.2 c (fun e=>d e) (fun f=>k f) (fun _=>k (-1:Int))) (0:Int)
def ο (a:Val aa) (b:Val Â):Option (Int):=ι a b some
def Ũ (a:Val aa) (b:Val Â) (k:Bool→Option ρ):Option ρ :=
  Ã (ο a b) fun c=>k (ige c 0)
def ĝ (a:Val aa) (b:Val Â):Option (Bool):=Ũ a b some
def Đ (c:Val ae) (d:Int) (e:Int) (f:Int) (g:Int) (h:Int) (a:Int) (i:Int→Option ρ) (j:Int→Option ρ) (k:Unit→Option ρ):Option ρ :=
  ifb (ilt a d) (õ c a fun b=>ifb ((ü e b.1)&&((ü f b.2.1.1)&&((ü g b.2.1.2)&&((ü h b.2.2)&&true)))) (j a) (ck (a+(1:Int)) fun l=>i l)) (k ())
def Ź (b:Val ae) (a:Val ő) (k:Int→Option ρ):Option ρ :=
  Ñ (fun(c:Int) d=>Đ b (Ú b) a.1 a.2.1.1 a.2.1.2 a.2.2 c (fun e=>d e) (fun f=>k f) (fun _=>k (-1:Int))) (0:Int)
def Ž (a:Val ae) (b:Val ő):Option (Int):=Ź a b some
def Ś (a:Val ae) (b:Val ő) (k:Bool→Option ρ):Option ρ :=
  Ã (Ž a b) fun c=>k (ige c 0)
def đ (a:Val ae) (b:Val ő):Option (Bool):=Ś a b some
def vX (c:Val ac) (d:Int) (a:Int) (b:Val ak) (e:Int→Val ak→Option ρ) (f:Val ak→Option ρ):Option ρ :=
  ifb (ilt a d) (õ c a fun g=>ck (a+(1:Int)) fun h=>e h (OW (k:=tI) (v:=.bool) g.1 true b)) (f b)
def mI (b:Val af) (c:Val af) (d:Int) (a:Int) (e:Int→Option ρ) (f:Bool→Option ρ) (g:Unit→Option ρ):Option ρ :=
  ifb (ilt a d) (õ b a fun h=>õ c a fun i=>ifb (ine h i) (f false) (ck (a+(1:Int)) fun j=>e j)) (g ())
def vW (b:Val af) (c:Val af) (d:Int) (a:Int) (e:Int→Option ρ) (f:Bool→Option ρ) (g:Unit→Option ρ):Option ρ :=
  ifb (ilt a d) (õ b a fun h=>õ c a fun i=>ifb (ine h i) (f false) (ck (a+(1:Int)) fun j=>e j)) (g ())
def pZ (g:Val ab) (h:Int) (i:Int) (j:Int) (f:Val af) (d:Val af) (k:Int) (l:Int) (m:Int) (n:Int) (a:Int) (c:Int→Option ρ) (e:Int→Option ρ) (o:Unit→Option ρ):Option ρ :=
  ifb (ilt a h) (õ g a fun b=>ifb (ieq i b.1) (ifb (ieq j b.2.1) (ifb (ieq k b.2.2.2.2.1) (ifb (ieq l b.2.2.2.2.2.1) (ifb ((ü m b.2.2.2.2.2.2.1)&&((ü n b.2.2.2.2.2.2.2)&&true)) (ifb (ine (Ú f) (Ú b.2.2.1)) (ck (a+(1:Int)) fun p=>c p) (Ñ (fun(q:Int) r=>mI f b.2.2.1 (Ú f) q (fun s=>r s) (fun t=>ifb t (ifb (ine (Ú d) (Ú b.2.2.2.1)) (ck (a+(1:Int)) fun u=>c u) (Ñ (fun(v:Int) w=>vW d b.2.2.2.1 (Ú d) v (fun x=>w x) (fun y=>ifb y (e a) (ck (a+(1:Int)) fun z=>c z)) (fun _=>e a)) (0:Int))) (ck (a+(1:Int)) fun A=>c A)) (fun _=>ifb (ine (Ú d) (Ú b.2.2.2.1)) (ck (a+(1:Int)) fun B=>c B) (Ñ (fun(C:Int) D=>vW d b.2.2.2.1 (Ú d) C (fun E=>D E) (fun F=>ifb F (e a) (ck (a+(1:Int)) fun G=>c G)) (fun _=>e a)) (0:Int)))) (0:Int))) (ck (a+(1:Int)) fun H=>c H)) (ck (a+(1:Int)) fun I=>c I)) (ck (a+(1:Int)) fun J=>c J)) (ck (a+(1:Int)) fun K=>c K)) (ck (a+(1:Int)) fun L=>c L)) (o ())
def qd (e:Val ab) (f:Int) (c:Val ab) (b:Int) (g:Int→Option ρ) (d:Bool→Option ρ) (h:Unit→Option ρ):Option ρ :=
  ifb (ilt b f) (õ e b fun a=>Ñ (fun(i:Int) j=>pZ c (Ú c) a.1 a.2.1 a.2.2.1 a.2.2.2.1 a.2.2.2.2.1 a.2.2.2.2.2.1 a.2.2.2.2.2.2.1 a.2.2.2.2.2.2.2 i (fun k=>j k) (fun l=>ifb (!(ige l 0)) (d false) (ck (b+(1:Int)) fun m=>g m)) (fun _=>d false)) (0:Int)) (h ())
def pY (b:Val ac) (c:Int) (d:Val ac) (a:Int) (e:Int→Option ρ) (f:Int→Option ρ) (g:Unit→Option ρ):Option ρ :=
  ifb (ilt a c) (õ b a fun h=>Ã (ġ d h) fun i=>ifb (!i) (f a) (ck (a+(1:Int)) fun j=>e j)) (g ())
def kJ (d:Val aa) (e:Int) (f:Val ak) (g:Val aa) (a:Int) (b:Int→Option ρ) (h:Int→Option ρ) (i:Unit→Option ρ):Option ρ :=
  ifb (ilt a e) (õ d a fun c=>abd (k:=tI) (v:=.bool) c.1 f (fun j=>ifb j (Ã (ĝ g c) fun l=>ifb (!l) (h a) (ck (a+(1:Int)) fun m=>b m)) (ck (a+(1:Int)) fun n=>b n)) (ck (a+(1:Int)) fun o=>b o)) (i ())
def mH (d:Val aa) (e:Int) (f:Val ak) (g:Val aa) (a:Int) (b:Int→Option ρ) (h:Int→Option ρ) (i:Unit→Option ρ):Option ρ :=
  ifb (ilt a e) (õ d a fun c=>abd (k:=tI) (v:=.bool) c.1 f (fun j=>ifb j (Ã (ĝ g c) fun l=>ifb (!l) (h a) (ck (a+(1:Int)) fun m=>b m)) (ck (a+(1:Int)) fun n=>b n)) (ck (a+(1:Int)) fun o=>b o)) (i ())
def Ņ (d:Val ae) (e:Int) (f:Val ak) (g:Val ae) (a:Int) (b:Int→Option ρ) (h:Int→Option ρ) (i:Unit→Option ρ):Option ρ :=
  ifb (ilt a e) (õ d a fun c=>abd (k:=tI) (v:=.bool) c.1 f (fun j=>ifb j (Ã (đ g c) fun l=>ifb (!l) (h a) (ck (a+(1:Int)) fun m=>b m)) (ck (a+(1:Int)) fun n=>b n)) (ck (a+(1:Int)) fun o=>b o)) (i ())
def Ę (d:Val ae) (e:Int) (f:Val ak) (g:Val ae) (a:Int) (b:Int→Option ρ) (h:Int→Option ρ) (i:Unit→Option ρ):Option ρ :=
  ifb (ilt a e) (õ d a fun c=>abd (k:=tI) (v:=.bool) c.1 f (fun j=>ifb j (Ã (đ g c) fun l=>ifb (!l) (h a) (ck (a+(1:Int)) fun m=>b m)) (ck (a+(1:Int)) fun n=>b n)) (ck (a+(1:Int)) fun o=>b o)) (i ())
def Zg (b:Val Ä) (a:Val Ä) (k:Bool→Option ρ):Option ρ :=
  Ñ (fun(d:(Val (.pair tI ak))) e=>vX b.2.1 (Ú b.2.1) d.1 d.2 (fun f g=>e (f,g)) (fun c=>Ñ (fun(h:Int) i=>qd b.2.2.2.2.1 (Ú b.2.2.2.2.1) a.2.2.2.2.1 h (fun j=>i j) (fun l=>k l) (fun _=>ifb ((ü b.1.1 a.1.1)&&((ü b.1.2 a.1.2)&&true)) (Ñ (fun(m:Int) n=>pY b.2.1 (Ú b.2.1) a.2.1 m (fun o=>n o) (fun p=>ifb (!(ige p 0)) (Ñ (fun(q:Int) r=>kJ b.2.2.1 (Ú b.2.2.1) c a.2.2.1 q (fun s=>r s) (fun t=>ifb (!(ige t 0)) (Ñ (fun(u:Int) v=>mH a.2.2.1 (Ú a.2.2.1) c b.2.2.1 u (fun w=>v w) (fun x=>ifb (!(ige x 0)) (Ñ (fun(y:Int) z=>Ņ b.2.2.2.1 (Ú b.2.2.2.1) c a.2.2.2.1 y (fun A=>z A) (fun B=>ifb (!(ige B 0)) (Ñ (fun(C:Int) D=>Ę a.2.2.2.1 (Ú a.2.2.2.1) c b.2.2.2.1 C (fun E=>D E) (fun F=>k (!(ige F 0))) (fun _=>k true)) (0:Int)) (k false)) (fun _=>Ñ (fun(G:Int) H=>Ę a.2.2.2.1 (Ú a.2.2.2.1) c b.2.2.2.1 G (fun I=>H I) (fun J=>k (!(ige J 0))) (fun _=>k true)) (0:Int))) (0:Int)) (k false)) (fun _=>Ñ (fun(K:Int) L=>Ņ b.2.2.2.1 (Ú b.2.2.2.1) c a.2.2.2.1 K (fun M=>L M) (fun N=>ifb (!(ige N 0)) (Ñ (fun(O:Int) P=>Ę a.2.2.2.1 (Ú a.2.2.2.1) c b.2.2.2.1 O (fun Q=>P Q) (fun R=>k (!(ige R 0))) (fun _=>k true)) (0:Int)) (k false)) (fun _=>Ñ (fun(S:Int) T=>Ę a.2.2.2.1 (Ú a.2.2.2.1) c b.2.2.2.1 S (fun U=>T U) (fun V=>k (!(ige V 0))) (fun _=>k true)) (0:Int))) (0:Int))) (0:Int)) (k false)) (fun _=>Ñ (fun(W:Int) X=>mH a.2.2.1 (Ú a.2.2.1) c b.2.2.1 W (fun Y=>X Y) (fun Z=>ifb (!(ige Z 0)) (Ñ (fun(dc:Int) df=>Ņ b.2.2.2.1 (Ú b.2.2.2.1) c a.2.2.2.1 dc (fun dg=>df dg) (fun dh=>ifb (!(ige dh 0)) (Ñ (fun(di:Int) dj=>Ę a.2.2.2.1 (Ú a.2.2.2.1) c b.2.2.2.1 di (fun dk=>dj dk) (fun dl=>k (!(ige dl 0))) (fun _=>k true)) (0:Int)) (k false)) (fun _=>Ñ (fun(dm:Int) dn=>Ę a.2.2.2.1 (Ú a.2.2.2.1) c b.2.2.2.1 dm (fun dt=>dn dt) (fun du=>k (!(ige du 0))) (fun _=>k true)) (0:Int))) (0:Int)) (k false)) (fun _=>Ñ (fun(dv:Int) dw=>Ņ b.2.2.2.1 (Ú b.2.2.2.1) c a.2.2.2.1 dv (fun dz=>dw dz) (fun d8=>ifb (!(ige d8 0)) (Ñ (fun(d9:Int) ee=>Ę a.2.2.2.1 (Ú a.2.2.2.1) c b.2.2.2.1 d9 (fun eh=>ee eh) (fun ej=>k (!(ige ej 0))) (fun _=>k true)) (0:Int)) (k false)) (fun _=>Ñ (fun(eo:Int) er=>Ę a.2.2.2.1 (Ú a.2.2.2.1) c b.2.2.2.1 eo (fun ew=>er ew) (fun ez=>k (!(ige ez 0))) (fun _=>k true)) (0:Int))) (0:Int))) (0:Int))) (0:Int)) (k false)) (fun _=>Ñ (fun(fc:Int) fe=>kJ b.2.2.1 (Ú b.2.2.1) c a.2.2.1 fc (fun ff=>fe ff) (fun fg=>ifb (!(ige fg 0)) (Ñ (fun(fh:Int) fi=>mH a.2.2.1 (Ú a.2.2.1) c b.2.2.1 fh (fun fj=>fi fj) (fun fk=>ifb (!(ige fk 0)) (Ñ (fun(fm:Int) fo=>Ņ b.2.2.2.1 (Ú b.2.2.2.1) c a.2.2.2.1 fm (fun fp=>fo fp) (fun fq=>ifb (!(ige fq 0)) (Ñ (fun(ft:Int) fu=>Ę a.2.2.2.1 (Ú a.2.2.2.1) c b.2.2.2.1 ft (fun f0=>fu f0) (fun f5=>k (!(ige f5 0))) (fun _=>k true)) (0:Int)) (k false)) (fun _=>Ñ (fun(f7:Int) f8=>Ę a.2.2.2.1 (Ú a.2.2.2.1) c b.2.2.2.1 f7 (fun f9=>f8 f9) (fun gc=>k (!(ige gc 0))) (fun _=>k true)) (0:Int))) (0:Int)) (k false)) (fun _=>Ñ (fun(gd:Int) gg=>Ņ b.2.2.2.1 (Ú b.2.2.2.1) c a.2.2.2.1 gd (fun gh=>gg gh) (fun gi=>ifb (!(ige gi 0)) (Ñ (fun(gj:Int) gk=>Ę a.2.2.2.1 (Ú a.2.2.2.1) c b.2.2.2.1 gj (fun gn=>gk gn) (fun gp=>k (!(ige gp 0))) (fun _=>k true)) (0:Int)) (k false)) (fun _=>Ñ (fun(gq:Int) gr=>Ę a.2.2.2.1 (Ú a.2.2.2.1) c b.2.2.2.1 gq (fun gu=>gr gu) (fun gw=>k (!(ige gw 0))) (fun _=>k true)) (0:Int))) (0:Int))) (0:Int)) (k false)) (fun _=>Ñ (fun(gx:Int) gy=>mH a.2.2.1 (Ú a.2.2.1) c b.2.2.1 gx (fun g8=>gy g8) (fun g9=>ifb (!(ige g9 0)) (Ñ (fun(ic:Int) ig=>Ņ b.2.2.2.1 (Ú b.2.2.2.1) c a.2.2.2.1 ic (fun ii=>ig ii) (fun ij=>ifb (!(ige ij 0)) (Ñ (fun(ik:Int) il=>Ę a.2.2.2.1 (Ú a.2.2.2.1) c b.2.2.2.1 ik (fun ip=>il ip) (fun iq=>k (!(ige iq 0))) (fun _=>k true)) (0:Int)) (k false)) (fun _=>Ñ (fun(ir:Int) iu=>Ę a.2.2.2.1 (Ú a.2.2.2.1) c b.2.2.2.1 ir (fun iv=>iu iv) (fun iw=>k (!(ige iw 0))) (fun _=>k true)) (0:Int))) (0:Int)) (k false)) (fun _=>Ñ (fun(ix:Int) iy=>Ņ b.2.2.2.1 (Ú b.2.2.2.1) c a.2.2.2.1 ix (fun iz=>iy iz) (fun i5=>ifb (!(ige i5 0)) (Ñ (fun(i6:Int) i7=>Ę a.2.2.2.1 (Ú a.2.2.2.1) c b.2.2.2.1 i6 (fun i8=>i7 i8) (fun i9=>k (!(ige i9 0))) (fun _=>k true)) (0:Int)) (k false)) (fun _=>Ñ (fun(ja:Int) jb=>Ę a.2.2.2.1 (Ú a.2.2.2.1) c b.2.2.2.1 ja (fun jc=>jb jc) (fun jd=>k (!(ige jd 0))) (fun _=>k true)) (0:Int))) (0:Int))) (0:Int))) (0:Int))) (0:Int)) (k false))) (0:Int))) ((0:Int),[])
def I4 (a:Val Ä) (b:Val Ä):Option (Bool):=Zg a b some
def KE (b:Val Ä) (a:Val ö) (k:Val aL→Option ρ):Option ρ :=
  Ã (Ā b) fun c=>ifb (ine c 0) (k (false,c)) (ifb ((ü a.2.1.1 (0:Int))&&((ü a.2.1.2 (0:Int))&&true)) (Ã (ng a) fun d=>ifb (ine d 0) (k (false,d)) (Ã (I4 a.1 b) fun f=>k (f,(0:Int)))) (Ã (Ĉ a) fun e=>ifb (ine e 0) (k (false,e)) (Ã (I4 a.1 b) fun g=>k (g,(0:Int)))))
def Bx (a:Val Ä) (b:Val ö):Option ((Val aL)):=KE a b some
def Eb (k:Bool→Option ρ):Option ρ :=
  Ã As fun a=>Ã (nV a ((2:Int),(10:Int))) fun c=>Ã (nV a ((1:Int),(30:Int))) fun d=>Ã (wY a ((1:Int),(10:Int)) ((2:Int),(10:Int))) fun e=>Ã (O9 a (10:Int) ([(1:Int),(2:Int)])) fun f=>Ã (I7 a ((2:Int),(0:Int)) ((990:Int),(1010:Int))) fun g=>Ã (qA a ((2:Int),(10:Int)) true) fun b=>ifb (ine c.2 0) (k false) (ifb (ine d.2 0) (k false) (ifb (ine e.2 0) (k false) (ifb (ine f.2 0) (k false) (ifb (ine g.2 0) (k false) (ifb (ine b.2 0) (k false) (ifb (!((ü c.1.1 (984:Int))&&((ü c.1.2 (1011:Int))&&true))) (k false) (ifb (!((ü d.1.1 (964:Int))&&((ü d.1.2 (1005:Int))&&true))) (k false) (ifb (!((ü e.1.1 (-6:Int))&&((ü e.1.2 (11:Int))&&true))) (k false) (ifb (!((ü f.1.1 (1979:Int))&&((ü f.1.2 (2018:Int))&&true))) (k false) (ifb (ine g.1 3) (k false) (ifb (ine b.1.2.2.2.1 1011) (k false) (Ã (Ay a ((2:Int),(10:Int)) ((8:Int),(10:Int),[(1:Int)],[(2:Int)],(0:Int),(0:Int),(0:Int),(0:Int))) fun h=>Ã (qz a ((2:Int),(10:Int)) ((900:Int),(1100:Int)) ((8:Int),(10:Int),[(1:Int)],[(2:Int)],(0:Int),(0:Int),(0:Int),(0:Int))) fun i=>Ã (Bx a b.1) fun j=>Ã (I8 a) fun l=>ifb (ieq h.2 0) (ifb (ieq i.2 0) (ifb (ieq j.2 0) (ifb (ieq l.2 5) (ifb (ieq h.1 10) (ifb i.1 (ifb j.1 (Ã (Ĉ b.1) fun m=>k (ieq m 0)) (k false)) (k false)) (k false)) (k false)) (k false)) (k false)) (k false)))))))))))))
def ż:Option (Bool):=Eb some
def yI (a:Val Â) (b:Int) (c:Int) (k:Bool→Option ρ):Option ρ :=
  ifb (ile b a.1) (ifb (ile a.1 a.2) (k (ile a.2 c)) (k false)) (k false)
def jv (a:Val Â) (b:Int) (c:Int):Option (Bool):=yI a b c some
def afJ (a:Int) (b:Int) (c:Int) (k:Bool→Option ρ):Option ρ :=
  ifb (ige a b) (k (ile a c)) (k false)
def lS (a:Int) (b:Int) (c:Int):Option (Bool):=afJ a b c some
def YX (a:Int) (k:Bool→Option ρ):Option ρ :=
  Ã (lS a (0:Int) (20000:Int)) fun b=>k b
def wW (a:Int):Option (Bool):=YX a some
def vU (b:Int) (a:Int) (c:Int→Int→Option ρ) (d:Int→Option ρ):Option ρ :=
  ifb (ine a 0) (ifb (ü a 0) (none) (c a (Int.tmod b a))) (d b)
def Za (b:Int) (c:Int) (k:Int→Option ρ):Option ρ :=
  Ñ (fun(a:Val Â) d=>vU a.1 a.2 (fun e f=>d (e,f)) (fun g=>k g)) (b,c)
def Bv (a:Int) (b:Int):Option (Int):=Za a b some
def Ze (a:Int) (k:Int→Option ρ):Option ρ :=
  ifb (ilt a 0) (ck ((0:Int)-a) fun b=>k b) (k a)
def I3 (a:Int):Option (Int):=Ze a some
def Kq (a:Val Â) (k:Bool→Option ρ):Option ρ :=
  ifb (ilt a.2 1) (k false) (ifb (igt a.2 2147483647) (k false) (ifb (ilt a.1 (-2147483647:Int)) (k false) (ifb (igt a.1 2147483647) (k false) (Ã (I3 a.1) fun b=>Ã (Bv b a.2) fun c=>k (ieq c 1)))))
def Bt (a:Val Â):Option (Bool):=Kq a some
def Kc (a:Val Ð) (k:Bool→Option ρ):Option ρ :=
  Ã (Bt a.2.2.2.2.1) fun b=>ifb (!b) (k false) (Ã (lS a.2.2.2.2.1.1 (-1000:Int) (1000:Int)) fun c=>ifb (!c) (k false) (ifb (igt a.2.2.2.2.1.2 100) (k false) (Ã (lS a.1 (1:Int) (1099511627776:Int)) fun d=>ifb d (Ã (wW a.2.1) fun e=>ifb e (Ã (lS a.2.2.1 (1:Int) (1125899906842624:Int)) fun f=>ifb f (Ã (jv a.2.2.2.1 (-1073741824:Int) (1073741824:Int)) fun g=>ifb g (Ã (lS a.2.2.2.2.2 (0:Int) (1048576:Int)) fun h=>k h) (k false)) (k false)) (k false)) (k false))))
def Br (a:Val Ð):Option (Bool):=Kc a some
def rJ (c:Int) (b:Val ac) (a:Int) (d:Int→Option ρ) (e:Int→Option ρ) (f:Unit→Option ρ):Option ρ :=
  ifb (ilt a (Ú b)) (õ b a fun g=>ifb (ieq g.1 c) (e a) (ck (a+(1:Int)) fun h=>d h)) (f ())
def QP (a:Val Ä) (b:Int) (k:Int→Option ρ):Option ρ :=
  Ñ (fun(c:Int) d=>rJ b a.2.1 c (fun e=>d e) (fun f=>k f) (fun _=>k (-1:Int))) (0:Int)
def qv (a:Val Ä) (b:Int):Option (Int):=QP a b some
def Ke (a:Val Ä) (c:Int) (d:Int) (k:Int→Option ρ):Option ρ :=
  Ã (qv a c) fun b=>ifb (ilt b 0) (k (5:Int)) (õ a.2.1 b fun e=>ifb (ilt d e.2.1) (k (4:Int)) (k (0:Int)))
def mQ (a:Val Ä) (b:Int) (c:Int):Option (Int):=Ke a b c some
def rj (e:Int) (f:Int) (g:Val ac) (a:Val aa) (h:Val ae) (i:Val ab) (j:Val aa) (b:Int) (k:Int→Option ρ) (c:Int→Option ρ) (l:Unit→Option ρ):Option ρ :=
  ifb (ilt b (Ú a)) (õ a b fun m=>Ã (wW m.2) fun n=>ifb (!n) (c (1:Int)) (õ a b fun o=>õ a b fun p=>Ã (mQ ((e,f),g,a,h,i,j) o.1 p.2) fun d=>ifb (ine d 0) (c d) (ck (b+(1:Int)) fun q=>k q))) (l ())
def Qg (a:Val Ä) (k:Int→Option ρ):Option ρ :=
  Ñ (fun(b:Int) c=>rj a.1.1 a.1.2 a.2.1 a.2.2.1 a.2.2.2.1 a.2.2.2.2.1 a.2.2.2.2.2 b (fun d=>c d) (fun e=>k e) (fun _=>k (0:Int))) (0:Int)
def IX (a:Val Ä):Option (Int):=Qg a some
def oO (d:Int) (b:Val ae) (e:Int) (f:Int) (g:Int) (a:Int) (c:Int→Option ρ) (h:Int→Option ρ) (i:Unit→Option ρ):Option ρ :=
  ifb (ilt a d) (õ b a fun j=>ifb (ieq j.1 e) (õ b a fun k=>ifb (ile k.2.1.1 g) (õ b a fun l=>ifb (ile f l.2.1.2) (h (9:Int)) (ck (a+(1:Int)) fun m=>c m)) (ck (a+(1:Int)) fun n=>c n)) (ck (a+(1:Int)) fun o=>c o)) (i ())
def lF (b:Val aa) (d:Int) (e:Int) (f:Int) (a:Int) (c:Int→Option ρ) (g:Int→Option ρ) (h:Unit→Option ρ):Option ρ :=
  ifb (ilt a (Ú b)) (õ b a fun i=>ifb (ieq i.1 d) (õ b a fun j=>Ã (lS j.2 e f) fun k=>ifb k (g (9:Int)) (ck (a+(1:Int)) fun l=>c l)) (ck (a+(1:Int)) fun m=>c m)) (h ())
def oP (g:Int) (h:Int) (i:Val ac) (e:Val aa) (c:Val ae) (j:Val ab) (k:Val aa) (d:Int) (l:Int→Option ρ) (b:Int→Option ρ) (m:Unit→Option ρ):Option ρ :=
  ifb (ilt d (Ú c)) (õ c d fun a=>Ã (jv a.2.1 (0:Int) (20000:Int)) fun n=>ifb (!n) (b (1:Int)) (Ã (lS a.2.2 (0:Int) (1048576:Int)) fun o=>ifb (!o) (b (1:Int)) (Ã (mQ ((g,h),i,e,c,j,k) a.1 a.2.1.1) fun f=>ifb (ine f 0) (b f) (Ñ (fun(p:Int) q=>oO d c a.1 a.2.1.1 a.2.1.2 p (fun r=>q r) (fun s=>b s) (fun _=>Ñ (fun(t:Int) u=>lF e a.1 a.2.1.1 a.2.1.2 t (fun v=>u v) (fun w=>b w) (fun _=>ck (d+(1:Int)) fun x=>l x)) (0:Int))) (0:Int))))) (m ())
def Ka (a:Val Ä) (k:Int→Option ρ):Option ρ :=
  Ñ (fun(b:Int) c=>oP a.1.1 a.1.2 a.2.1 a.2.2.1 a.2.2.2.1 a.2.2.2.2.1 a.2.2.2.2.2 b (fun d=>c d) (fun e=>k e) (fun _=>k (0:Int))) (0:Int)
def Bq (a:Val Ä):Option (Int):=Ka a some
def rE (b:Val af) (a:Int) (c:Int→Option ρ) (d:Bool→Option ρ) (e:Unit→Option ρ):Option ρ :=
  ifb (ilt a (Ú b)) (õ b a fun f=>Ã (lS f (1:Int) (1099511627776:Int)) fun g=>ifb (!g) (d false) (ifb (igt a 0) (õ b a fun h=>ck (a-(1:Int)) fun i=>õ b i fun j=>ifb (ile h j) (d false) (ck (a+(1:Int)) fun k=>c k)) (ck (a+(1:Int)) fun l=>c l))) (e ())
def Qz (a:Val af) (k:Bool→Option ρ):Option ρ :=
  Ñ (fun(b:Int) c=>rE a b (fun d=>c d) (fun e=>k e) (fun _=>k (ile (Ú a) 6))) (0:Int)
def Aw (a:Val af):Option (Bool):=Qz a some
def J9 (a:Val Ê) (k:Bool→Option ρ):Option ρ :=
  Ã (Aw a.2.2.1) fun b=>Ã (Aw a.2.2.2.1) fun c=>ifb b (ifb c (Ã (lS a.1 (1:Int) (1099511627776:Int)) fun d=>ifb d (Ã (wW a.2.1) fun e=>ifb e (Ã (lS a.2.2.2.2.1 (-1125899906842624:Int) (1125899906842624:Int)) fun f=>ifb f (Ã (lS a.2.2.2.2.2.1 (0:Int) (1073741824:Int)) fun g=>ifb g (Ã (jv a.2.2.2.2.2.2 (-10000:Int) (10000:Int)) fun h=>k h) (k false)) (k false)) (k false)) (k false)) (k false)) (k false)
def Bp (a:Val Ê):Option (Bool):=J9 a some
def rH (j:Int) (h:Int) (i:Val ae) (b:Int) (c:Int) (d:Int) (e:Int) (f:Int) (g:Int→Int→Int→Int→Int→Option ρ) (k:(Val (.pair .bool (.pair tI ć)))→Option ρ) (l:(Val (.pair tI ć))→Option ρ):Option ρ :=
  ifb (ilt b (Ú i)) (õ i b fun a=>ifb (ieq a.1 j) (ifb (ile a.2.1.1 h) (ifb (ile h a.2.1.2) (k (true,a.1,a.2.1.1,a.2.1.2,a.2.2)) (ck (b+(1:Int)) fun m=>g m c d e f)) (ck (b+(1:Int)) fun n=>g n c d e f)) (ck (b+(1:Int)) fun o=>g o c d e f)) (l (c,d,e,f))
def QI (c:Val Ä) (d:Int) (e:Int) (k:Val bh→Option ρ):Option ρ :=
  Ñ (fun(a:Val bm) f=>rH d e c.2.2.2.1 a.1 a.2.1 a.2.2.1 a.2.2.2.1 a.2.2.2.2 (fun g h i j l=>f (g,h,i,j,l)) (fun b=>k ((b.2.1,(b.2.2.1,b.2.2.2.1),b.2.2.2.2),b.1)) (fun m=>k (((0:Int),((0:Int),(0:Int)),(0:Int)),false))) ((0:Int),(0:Int),(0:Int),(0:Int),(0:Int))
def Ax (a:Val Ä) (b:Int) (c:Int):Option ((Val bh)):=QI a b c some
def vR (b:Val af) (c:Int) (a:Int) (d:Int→Option ρ) (e:Bool→Option ρ) (f:Unit→Option ρ):Option ρ :=
  ifb (ilt a (Ú b)) (õ b a fun g=>ifb (ieq g c) (e true) (ck (a+(1:Int)) fun h=>d h)) (f ())
def YU (a:Val af) (b:Int) (k:Bool→Option ρ):Option ρ :=
  Ñ (fun(c:Int) d=>vR a b c (fun e=>d e) (fun f=>k f) (fun _=>k false)) (0:Int)
def O6 (a:Val af) (b:Int):Option (Bool):=YU a b some
def rI (c:Val af) (f:Val af) (a:Int) (b:Val af) (d:Int→Val af→Option ρ) (g:Val af→Option ρ):Option ρ :=
  ifb (ilt a (Ú c)) (õ c a fun h=>Ã (O6 f h) fun i=>ifb (!i) (õ c a fun e=>í (ë ((List.length b)+(List.length ([e])))) (ck (a+(1:Int)) fun j=>d j (b++([e])))) (ck (a+(1:Int)) fun k=>d k b)) (g b)
def QK (b:Val af) (c:Val af) (k:Val af→Option ρ):Option ρ :=
  Ñ (fun(a:Val au) d=>rI b c a.1 a.2 (fun e f=>d (e,f)) (fun g=>k g)) ((0:Int),[])
def ka (a:Val af) (b:Val af):Option ((Val af)):=QK a b some
def kj (c:Int) (d:Int) (e:Val ac) (f:Val aa) (g:Val ae) (h:Val ab) (i:Val aa) (b:Val af) (a:Int) (j:Int→Option ρ) (k:Int→Option ρ) (l:Unit→Option ρ):Option ρ :=
  ifb (ilt a (Ú b)) (í ((ile 0 a)&&(ilt a (Ĕ b))) (Ŋ b (Int.toNat a) fun m=>Ã (qv ((c,d),e,f,g,h,i) m) fun n=>ifb (ilt n 0) (k (5:Int)) (ck (a+(1:Int)) fun o=>j o))) (l ())
def iX (c:Int) (d:Int) (e:Val ac) (f:Val aa) (g:Val ae) (h:Val ab) (i:Val aa) (j:Int) (b:Val af) (a:Int) (k:Int→Option ρ) (l:Int→Option ρ) (m:Unit→Option ρ):Option ρ :=
  ifb (ilt a (Ú b)) (í ((ile 0 a)&&(ilt a (Ĕ b))) (Ŋ b (Int.toNat a) fun n=>Ã (mQ ((c,d),e,f,g,h,i) n j) fun o=>ifb (ine o 0) (l (4:Int)) (ck (a+(1:Int)) fun p=>k p))) (m ())
def Η (c:Int) (d:Int) (e:Val ac) (f:Val aa) (g:Val ae) (h:Val ab) (i:Val aa) (j:Int) (b:Val af) (a:Int) (k:Int→Option ρ) (l:Int→Option ρ) (m:Unit→Option ρ):Option ρ :=
  ifb (ilt a (Ú b)) (í ((ile 0 a)&&(ilt a (Ĕ b))) (Ŋ b (Int.toNat a) fun n=>Ã (Ax ((c,d),e,f,g,h,i) n j) fun o=>ifb o.2 (l (9:Int)) (ck (a+(1:Int)) fun p=>k p))) (m ())
def vM (a:Val Ä) (b:Val Ê) (k:Int→Option ρ):Option ρ :=
  í (ë (0+(List.length b.2.2.1))) (í (ë ((List.length (([])++b.2.2.1))+(List.length b.2.2.2.1))) (Ñ (fun(e:Int) f=>kj a.1.1 a.1.2 a.2.1 a.2.2.1 a.2.2.2.1 a.2.2.2.2.1 a.2.2.2.2.2 ((([])++b.2.2.1)++b.2.2.2.1) e (fun g=>f g) (fun h=>k h) (fun _=>Ñ (fun(i:Int) j=>iX a.1.1 a.1.2 a.2.1 a.2.2.1 a.2.2.2.1 a.2.2.2.2.1 a.2.2.2.2.2 b.2.1 ((([])++b.2.2.1)++b.2.2.2.1) i (fun l=>j l) (fun m=>k m) (fun _=>Ñ (fun(n:Int) o=>Η a.1.1 a.1.2 a.2.1 a.2.2.1 a.2.2.2.1 a.2.2.2.2.1 a.2.2.2.2.2 b.2.1 ((([])++b.2.2.1)++b.2.2.2.1) n (fun p=>o p) (fun q=>k q) (fun _=>Ã (ka b.2.2.1 b.2.2.2.1) fun c=>Ã (ka b.2.2.2.1 b.2.2.1) fun d=>ifb (igt (Ú c) 1) (k (1:Int)) (ifb (igt (Ú d) 1) (k (1:Int)) (ck ((Ú c)+(Ú d)) fun r=>ifb (ieq r 0) (k (1:Int)) (k (0:Int)))))) (0:Int))) (0:Int))) (0:Int)))
def jM (a:Val Ä) (b:Val Ê):Option (Int):=vM a b some
def YA (b:Val af) (c:Val af) (k:Int→Option ρ):Option ρ :=
  Ã (ka b c) fun a=>ifb (ieq (Ú a) 0) (k (0:Int)) (õ a (0:Int) fun d=>k d)
def pb (a:Val af) (b:Val af):Option (Int):=YA a b some
def rq (g:Int) (c:Val ab) (d:Int) (b:Int) (e:Int→Option ρ) (f:Bool→Option ρ) (h:Unit→Option ρ):Option ρ :=
  ifb (ilt b (Ú c)) (õ c b fun a=>ifb (ieq a.2.1 g) (Ã (pb a.2.2.1 a.2.2.2.1) fun i=>ifb (ieq i d) (f true) (Ã (pb a.2.2.2.1 a.2.2.1) fun j=>ifb (ieq j d) (f true) (ck (b+(1:Int)) fun k=>e k))) (ck (b+(1:Int)) fun l=>e l)) (h ())
def ny (d:Int) (b:Val aa) (e:Int) (a:Int) (c:Int→Option ρ) (f:Bool→Option ρ) (g:Unit→Option ρ):Option ρ :=
  ifb (ilt a (Ú b)) (õ b a fun h=>ifb (ieq h.1 e) (õ b a fun i=>ifb (ieq i.2 d) (f true) (ck (a+(1:Int)) fun j=>c j)) (ck (a+(1:Int)) fun k=>c k)) (g ())
def Qn (c:Val Ä) (a:Val Ð) (b:Int) (k:Bool→Option ρ):Option ρ :=
  ifb (ieq a.2.1 b) (k true) (Ñ (fun(d:Int) e=>rq b c.2.2.2.2.1 a.1 d (fun f=>e f) (fun g=>k g) (fun _=>Ñ (fun(h:Int) i=>ny b c.2.2.2.2.2 a.1 h (fun j=>i j) (fun l=>k l) (fun _=>k false)) (0:Int))) (0:Int))
def IY (a:Val Ä) (b:Val Ð) (c:Int):Option (Bool):=Qn a b c some
def oT (c:Val ac) (a:Int) (b:Val af) (e:Int→Val af→Option ρ) (f:Val af→Option ρ):Option ρ :=
  ifb (ilt a (Ú c)) (õ c a fun d=>í (ë ((List.length b)+(List.length ([d.2.1])))) (ck (a+(1:Int)) fun g=>e g (b++([d.2.1])))) (f b)
def oS (c:Val ab) (a:Int) (b:Val af) (e:Int→Val af→Option ρ) (f:Val af→Option ρ):Option ρ :=
  ifb (ilt a (Ú c)) (õ c a fun d=>í (ë ((List.length b)+(List.length ([d.2.1])))) (ck (a+(1:Int)) fun g=>e g (b++([d.2.1])))) (f b)
def oR (c:Val aa) (a:Int) (b:Val af) (e:Int→Val af→Option ρ) (f:Val af→Option ρ):Option ρ :=
  ifb (ilt a (Ú c)) (õ c a fun d=>í (ë ((List.length b)+(List.length ([d.2])))) (ck (a+(1:Int)) fun g=>e g (b++([d.2])))) (f b)
def lG (e:Int) (b:Val af) (c:Int) (a:Int) (d:Int→Int→Option ρ) (f:Int→Option ρ):Option ρ :=
  ifb (ilt a (Ú b)) (í ((ile 0 a)&&(ilt a (Ĕ b))) (Ŋ b (Int.toNat a) fun g=>ifb (igt g e) (í ((ile 0 a)&&(ilt a (Ĕ b))) (Ŋ b (Int.toNat a) fun h=>ck (a+(1:Int)) fun i=>d (aam c h) i)) (ck (a+(1:Int)) fun j=>d c j))) (f c)
def lH (e:Int) (i:Int) (j:Int) (c:Val ac) (k:Val aa) (l:Val ae) (m:Val ab) (n:Val aa) (o:Val af) (f:Int) (b:Val aa) (d:Int→Val aa→Option ρ) (p:Val aa→Option ρ):Option ρ :=
  ifb (ilt f 20001) (Ñ (fun(g:Val Â) q=>lG f o g.1 g.2 (fun r s=>q (r,s)) (fun a=>ifb (ilt a 20001) (õ c e fun t=>Ã (IY ((i,j),c,k,l,m,n) t a) fun u=>ifb u (õ c e fun h=>í (ë ((List.length b)+(List.length ([(h.1,a)])))) (d a (b++([(h.1,a)])))) (d a b)) (d a b))) ((20001:Int),(0:Int))) (p b)
def oQ (e:Int) (f:Int) (b:Val ac) (g:Val aa) (h:Val ae) (i:Val ab) (j:Val aa) (k:Val af) (a:Int) (c:Val aa) (l:Int→Val aa→Option ρ) (m:Val aa→Option ρ):Option ρ :=
  ifb (ilt a (Ú b)) (Ñ (fun(d:Val aF) n=>lH a e f b g h i j k d.1 d.2 (fun o p=>n (o,p)) (fun q=>ck (a+(1:Int)) fun r=>l r q)) ((-1:Int),c)) (m c)
def Kh (a:Val Ä) (k:Val aa→Option ρ):Option ρ :=
  Ñ (fun(b:Val au) f=>oT a.2.1 b.1 b.2 (fun g h=>f (g,h)) (fun i=>Ñ (fun(c:Val au) j=>oS a.2.2.2.2.1 c.1 c.2 (fun l m=>j (l,m)) (fun n=>Ñ (fun(d:Val au) o=>oR a.2.2.2.2.2 d.1 d.2 (fun p q=>o (p,q)) (fun r=>Ñ (fun(e:Val aF) s=>oQ a.1.1 a.1.2 a.2.1 a.2.2.1 a.2.2.2.1 a.2.2.2.2.1 a.2.2.2.2.2 r e.1 e.2 (fun t u=>s (t,u)) (fun v=>k v)) ((0:Int),[]))) ((0:Int),n))) ((0:Int),i))) ((0:Int),[])
def jO (a:Val Ä):Option ((Val aa)):=Kh a some
def oU (b:Val aa) (d:Int) (e:Int) (a:Int) (f:Int→Option ρ) (g:Int→Option ρ) (h:Unit→Option ρ):Option ρ :=
  ifb (ilt a (Ú b)) (õ b a fun c=>ifb ((ü c.1 d)&&((ü c.2 e)&&true)) (ck (a+(1:Int)) fun i=>g i) (ck (a+(1:Int)) fun j=>f j)) (h ())
def Ki (b:Val Ä) (a:Val Â) (k:Int→Option ρ):Option ρ :=
  Ã (jO b) fun c=>Ñ (fun(d:Int) e=>oU c a.1 a.2 d (fun f=>e f) (fun g=>k g) (fun _=>k (0:Int))) (0:Int)
def Ľ (a:Val Ä) (b:Val Â):Option (Int):=Ki a b some
def rr (d:Int) (e:Int) (b:Val aa) (a:Int) (c:Int→Option ρ) (f:Bool→Option ρ) (g:Unit→Option ρ):Option ρ :=
  ifb (ilt a (Ú b)) (õ b a fun h=>ifb (ieq h.1 d) (õ b a fun i=>ifb (ieq i.2 e) (f true) (ck (a+(1:Int)) fun j=>c j)) (ck (a+(1:Int)) fun k=>c k)) (g ())
def Qp (a:Val Ä) (b:Int) (c:Int) (k:Bool→Option ρ):Option ρ :=
  Ñ (fun(d:Int) e=>rr b c a.2.2.1 d (fun f=>e f) (fun g=>k g) (fun _=>k false)) (0:Int)
def IZ (a:Val Ä) (b:Int) (c:Int):Option (Bool):=Qp a b c some
def rG (d:Int) (m:Int) (n:Int) (e:Int) (f:Int) (g:Val ac) (h:Val aa) (i:Val ae) (j:Val ab) (k:Val aa) (b:Int) (a:Int) (c:Int→Int→Option ρ) (o:Int→Option ρ):Option ρ :=
  ifb (ilt a m) (Ã (Ax ((e,f),g,h,i,j,k) d a) fun l=>ifb l.2 (ck (b+l.1.2.2) fun p=>ck (a+(1:Int)) fun q=>c p q) (Ã (IZ ((e,f),g,h,i,j,k) d a) fun r=>ifb r (ck (b+n) fun s=>ck (a+(1:Int)) fun t=>c s t) (ck (a+(1:Int)) fun u=>c b u))) (o b)
def QE (a:Val Ä) (b:Int) (d:Int) (e:Int) (k:Int→Option ρ):Option ρ :=
  Ã (qv a b) fun f=>õ a.2.1 f fun g=>Ñ (fun(c:Val Â) h=>rG b e g.2.2.2.2.2 a.1.1 a.1.2 a.2.1 a.2.2.1 a.2.2.2.1 a.2.2.2.2.1 a.2.2.2.2.2 c.1 c.2 (fun i j=>h (i,j)) (fun l=>k l)) ((0:Int),d)
def uX (a:Val Ä) (b:Int) (c:Int) (d:Int):Option (Int):=QE a b c d some
def Ex (b:Int) (a:Int) (k:Val ł→Option ρ):Option ρ :=
  ifb (ine b 0) (ifb (ü a 0) (none) (Ã (I3 (Int.tmod b a)) fun h=>Ã (Bv h a) fun c=>ifb (ü c 0) (none) (ck (Int.tdiv b c) fun d=>ifb (ü c 0) (none) (ck (Int.tdiv a c) fun f=>ifb (igt f 2147483647) (k (((0:Int),(0:Int)),(3:Int))) (ifb (ilt d (-2147483647:Int)) (k (((0:Int),(0:Int)),(3:Int))) (ifb (igt d 2147483647) (k (((0:Int),(0:Int)),(3:Int))) (k ((d,f),(0:Int))))))))) (ifb (ü a 0) (none) (ck (Int.tdiv b a) fun e=>ifb (ü a 0) (none) (ck (Int.tdiv a a) fun g=>ifb (igt g 2147483647) (k (((0:Int),(0:Int)),(3:Int))) (ifb (ilt e (-2147483647:Int)) (k (((0:Int),(0:Int)),(3:Int))) (ifb (igt e 2147483647) (k (((0:Int),(0:Int)),(3:Int))) (k ((e,g),(0:Int))))))))
def qw (a:Int) (b:Int):Option (Val ł):=Ex a b some
def Zd (a:Val Â) (b:Val Â) (k:Val ł→Option ρ):Option ρ :=
  ck (a.1*b.2) fun c=>ck (b.1*a.2) fun d=>ck (c+d) fun e=>ck (a.2*b.2) fun f=>Ã (qw e f) fun g=>k g
def aaz (a:Val Â) (b:Val Â):Option (Val ł):=Zd a b some
def Y7 (a:Val Â) (k:Val Â→Option ρ):Option ρ :=
  ck ((0:Int)-a.1) fun b=>k (b,a.2)
def aay (a:Val Â):Option (Val Â):=Y7 a some
def Y5 (a:Val Â) (b:Val Â) (k:Val ł→Option ρ):Option ρ :=
  Ã (aay b) fun c=>Ã (aaz a c) fun d=>k d
def O7 (a:Val Â) (b:Val Â):Option (Val ł):=Y5 a b some
def Kb (a:Val Ä) (b:Int) (k:Val Â→Option ρ):Option ρ :=
  ifb (ieq b 0) (k ((0:Int),(1:Int))) (Ã (qv a b) fun c=>õ a.2.1 c fun d=>k d.2.2.2.2.1)
def uV (a:Val Ä) (b:Int):Option (Val Â):=Kb a b some
def Q4 (a:Val ł) (b:Val ł) (k:Val tD→Option ρ):Option ρ :=
  ifb (ine a.2 0) (k ((((0:Int),(0:Int)),(0:Int),(0:Int)),a.2)) (ifb (ine b.2 0) (k ((((0:Int),(0:Int)),(0:Int),(0:Int)),b.2)) (k ((a.1,b.1),(0:Int))))
def I1 (a:Val ł) (b:Val ł):Option (Val tD):=Q4 a b some
def Y8 (a:Val Â) (b:Val Â) (k:Val ł→Option ρ):Option ρ :=
  ck (a.1*b.1) fun c=>ck (a.2*b.2) fun d=>Ã (qw c d) fun e=>k e
def wX (a:Val Â) (b:Val Â):Option (Val ł):=Y8 a b some
def Kr (b:Val ç) (a:Val Â) (k:Val tD→Option ρ):Option ρ :=
  ifb (ilt a.1 0) (Ã (wX b.2 a) fun c=>Ã (wX b.1 a) fun d=>Ã (I1 c d) fun e=>k e) (Ã (wX b.1 a) fun f=>Ã (wX b.2 a) fun g=>Ã (I1 f g) fun h=>k h)
def Bu (a:Val ç) (b:Val Â):Option (Val tD):=Kr a b some
def Et (b:Val Ä) (a:Val Ê) (k:Val ç→Option ρ):Option ρ :=
  Ã (pb a.2.2.1 a.2.2.2.1) fun c=>Ã (uV b c) fun d=>Ã (pb a.2.2.2.1 a.2.2.1) fun e=>Ã (uV b e) fun f=>Ã (O7 d f) fun g=>Ã (Bu ((a.2.2.2.2.2.2.1,(1:Int)),a.2.2.2.2.2.2.2,(1:Int)) g.1) fun h=>k h.1
def wV (a:Val Ä) (b:Val Ê):Option (Val ç):=Et a b some
def Kk (a:Val Ä) (b:Val Ê) (k:Val Â→Option ρ):Option ρ :=
  ck ((Ú b.2.2.1)-(1:Int)) fun c=>ck ((Ú b.2.2.2.1)-(1:Int)) fun d=>ck ((T0 (0:Int) c)*a.1.1) fun e=>ck ((T0 (0:Int) d)*a.1.2) fun f=>ck (e-f) fun g=>ck ((T0 (0:Int) c)*a.1.2) fun h=>ck ((T0 (0:Int) d)*a.1.1) fun i=>ck (h-i) fun j=>k (g,j)
def Bs (a:Val Ä) (b:Val Ê):Option (Val Â):=Kk a b some
def afO (b:Int) (a:Int) (k:Int→Option ρ):Option ρ :=
  ifb (ü a 0) (none) (ck (Int.tdiv b a) fun c=>ifb (ü a 0) (none) (ifb (igt (Int.tmod b a) 0) (ck (c+1) fun d=>k d) (k c)))
def agB (a:Int) (b:Int):Option (Int):=afO a b some
def Q6 (a:Val Â) (k:Int→Option ρ):Option ρ :=
  Ã (agB a.1 a.2) fun b=>k b
def I2 (a:Val Â):Option (Int):=Q6 a some
def Q2 (b:Int) (a:Int) (k:Int→Option ρ):Option ρ :=
  ifb (ü a 0) (none) (ck (Int.tdiv b a) fun c=>ifb (ü a 0) (none) (ifb (ilt (Int.tmod b a) 0) (ck (c-1) fun d=>k d) (k c)))
def Ta (a:Int) (b:Int):Option (Int):=Q2 a b some
def Kt (a:Val Â) (k:Int→Option ρ):Option ρ :=
  Ã (Ta a.1 a.2) fun b=>k b
def Bw (a:Val Â):Option (Int):=Kt a some
def Qs (b:Val Ä) (a:Val Ê) (k:Val Â→Option ρ):Option ρ :=
  Ã (wV b a) fun c=>Ã (Bs b a) fun d=>ck (a.2.2.2.2.1-a.2.2.2.2.2.1) fun e=>ck (e-d.2) fun f=>Ã (Bw c.2) fun g=>ck (f-g) fun h=>ck (a.2.2.2.2.1+a.2.2.2.2.2.1) fun i=>ck (i-d.1) fun j=>Ã (I2 c.1) fun l=>ck (j-l) fun m=>k (h,m)
def uW (a:Val Ä) (b:Val Ê):Option (Val Â):=Qs a b some
def pO (e:Val aa) (b:Int) (p:Int) (q:Int) (r:Val ac) (s:Val aa) (t:Val ae) (u:Val ab) (v:Val aa) (g:Int) (w:Int) (h:Int) (x:Int) (y:Int) (a:Int) (c:Val ai) (d:Val aa) (f:Int→Val ai→Val aa→Option ρ) (z:Val xi→Option ρ):Option ρ :=
  ifb (ilt a (Ú e)) (õ e a fun A=>ifb (ine A.1 g) (ck (a+(1:Int)) fun B=>f B c d) (õ e a fun C=>ifb (ieq C.2 w) (ck (a+(1:Int)) fun i=>ck (h+y) fun j=>ck (a+(1:Int)) fun k=>ck ((0:Int)-h) fun D=>ck (D-x) fun l=>í (ë ((List.length c)+(List.length ([((0:Int),i,j),(k,(0:Int),l)])))) (í (ë ((List.length d)+(List.length ([((1:Int),b),((1:Int),b)])))) (ck (a+(1:Int)) fun E=>f E (c++([((0:Int),i,j),(k,(0:Int),l)])) (d++([((1:Int),b),((1:Int),b)]))))) (ck (a-(1:Int)) fun F=>õ e F fun G=>õ e a fun H=>Ã (uX ((p,q),r,s,t,u,v) g G.2 H.2) fun m=>ck (a+(1:Int)) fun n=>ck (a+(1:Int)) fun o=>í (ë ((List.length c)+(List.length ([(a,n,(0:Int)),(o,a,m)])))) (í (ë ((List.length d)+(List.length ([((2:Int),b),((2:Int),b)])))) (ck (a+(1:Int)) fun I=>f I (c++([(a,n,(0:Int)),(o,a,m)])) (d++([((2:Int),b),((2:Int),b)]))))))) (z (c,d))
def vP (h:Val aa) (i:Int) (j:Int) (c:Val ac) (k:Val aa) (l:Val ae) (m:Val ab) (n:Val aa) (b:Int) (e:Val ai) (f:Val aa) (o:Int→Val ai→Val aa→Option ρ) (p:Val xi→Option ρ):Option ρ :=
  ifb (ilt b (Ú c)) (õ c b fun a=>Ñ (fun(d:Val aQ) q=>pO h b i j c k l m n a.1 a.2.1 a.2.2.1 a.2.2.2.1.1 a.2.2.2.1.2 d.1 d.2.1 d.2.2 (fun r s t=>q (r,s,t)) (fun g=>ck (b+(1:Int)) fun u=>o u g.1 g.2)) ((0:Int),e,f)) (p (e,f))
def vO (f:Int) (g:Int) (h:Val ac) (i:Val aa) (j:Val ae) (c:Val ab) (k:Val aa) (a:Int) (l:Val ai) (m:Val aa) (p:Int→Val ai→Val aa→Option ρ) (q:Val xi→Option ρ):Option ρ :=
  ifb (ilt a (Ú c)) (õ c a fun b=>Ã (pb b.2.2.1 b.2.2.2.1) fun r=>Ã (Ľ ((f,g),h,i,j,c,k) (r,b.2.1)) fun d=>Ã (pb b.2.2.2.1 b.2.2.1) fun s=>Ã (Ľ ((f,g),h,i,j,c,k) (s,b.2.1)) fun e=>Ã (uW ((f,g),h,i,j,c,k) b) fun n=>ck ((0:Int)-n.1) fun o=>í (ë ((List.length l)+(List.length ([(e,d,n.2),(d,e,o)])))) (í (ë ((List.length m)+(List.length ([((3:Int),a),((3:Int),a)])))) (ck (a+(1:Int)) fun t=>p t (l++([(e,d,n.2),(d,e,o)])) (m++([((3:Int),a),((3:Int),a)]))))) (q (l,m))
def YI (a:Val Ä) (k:Val xi→Option ρ):Option ρ :=
  Ã (jO a) fun e=>Ñ (fun(b:Val aQ) f=>vP e a.1.1 a.1.2 a.2.1 a.2.2.1 a.2.2.2.1 a.2.2.2.2.1 a.2.2.2.2.2 b.1 b.2.1 b.2.2 (fun g h i=>f (g,h,i)) (fun d=>Ñ (fun(c:Val aQ) j=>vO a.1.1 a.1.2 a.2.1 a.2.2.1 a.2.2.2.1 a.2.2.2.2.1 a.2.2.2.2.2 c.1 c.2.1 c.2.2 (fun l m n=>j (l,m,n)) (fun o=>k o)) ((0:Int),d.1,d.2))) ((0:Int),[],[])
def wU (a:Val Ä):Option (Val xi):=YI a some
def oW (b:Val ac) (a:Int) (c:Int→Option ρ) (d:Int→Option ρ) (e:Unit→Option ρ):Option ρ :=
  ifb (ilt a (Ú b)) (õ b a fun f=>Ã (Br f) fun g=>ifb (!g) (d (1:Int)) (ifb (igt a 0) (õ b a fun h=>ck (a-(1:Int)) fun i=>õ b i fun j=>ifb (ile h.1 j.1) (d (6:Int)) (ck (a+(1:Int)) fun k=>c k)) (ck (a+(1:Int)) fun l=>c l))) (e ())
def oV (b:Int) (c:Val ab) (a:Int) (d:Int→Option ρ) (e:Int→Option ρ) (f:Unit→Option ρ):Option ρ :=
  ifb (ilt a b) (õ c a fun g=>õ c b fun h=>ifb (ieq g.1 h.1) (e (6:Int)) (ck (a+(1:Int)) fun i=>d i)) (f ())
def jD (e:Int) (f:Int) (g:Val ac) (h:Val aa) (i:Val ae) (a:Val ab) (j:Val aa) (b:Int) (k:Int→Option ρ) (c:Int→Option ρ) (l:Unit→Option ρ):Option ρ :=
  ifb (ilt b (Ú a)) (õ a b fun m=>Ã (Bp m) fun n=>ifb (!n) (c (1:Int)) (Ñ (fun(o:Int) p=>oV b a o (fun q=>p q) (fun r=>c r) (fun _=>õ a b fun s=>Ã (jM ((e,f),g,h,i,a,j) s) fun d=>ifb (ine d 0) (c d) (ck (b+(1:Int)) fun t=>k t))) (0:Int))) (l ())
def jC (e:Int) (f:Int) (g:Val ac) (h:Val aa) (i:Val ae) (j:Val ab) (a:Val aa) (b:Int) (k:Int→Option ρ) (c:Int→Option ρ) (l:Unit→Option ρ):Option ρ :=
  ifb (ilt b (Ú a)) (õ a b fun m=>Ã (wW m.2) fun n=>ifb (!n) (c (1:Int)) (õ a b fun o=>õ a b fun p=>Ã (mQ ((e,f),g,h,i,j,a) o.1 p.2) fun d=>ifb (ine d 0) (c d) (ck (b+(1:Int)) fun q=>k q))) (l ())
def Kl (a:Val Ä) (k:Int→Option ρ):Option ρ :=
  Ã (jv a.1 (0:Int) (1000000:Int)) fun d=>ifb (!d) (k (1:Int)) (ifb (igt (Ú a.2.1) 12) (k (2:Int)) (ifb (igt (Ú a.2.2.1) 40) (k (2:Int)) (ifb (igt (Ú a.2.2.2.1) 12) (k (2:Int)) (ifb (igt (Ú a.2.2.2.2.1) 40) (k (2:Int)) (ifb (igt (Ú a.2.2.2.2.2) 10) (k (2:Int)) (Ñ (fun(e:Int) f=>oW a.2.1 e (fun g=>f g) (fun h=>k h) (fun _=>Ã (IX a) fun b=>ifb (ieq b 0) (Ã (Bq a) fun c=>ifb (ine c 0) (k c) (Ñ (fun(i:Int) j=>jD a.1.1 a.1.2 a.2.1 a.2.2.1 a.2.2.2.1 a.2.2.2.2.1 a.2.2.2.2.2 i (fun l=>j l) (fun m=>k m) (fun _=>Ñ (fun(n:Int) o=>jC a.1.1 a.1.2 a.2.1 a.2.2.1 a.2.2.2.1 a.2.2.2.2.1 a.2.2.2.2.2 n (fun p=>o p) (fun q=>k q) (fun _=>Ã (jO a) fun r=>ifb (igt (Ú r) 59) (k (2:Int)) (Ã (wU a) fun s=>ifb (igt (Ú s.1) 300) (k (2:Int)) (k (0:Int))))) (0:Int))) (0:Int))) (ifb (ine b 0) (k b) (Ñ (fun(t:Int) u=>jD a.1.1 a.1.2 a.2.1 a.2.2.1 a.2.2.2.1 a.2.2.2.2.1 a.2.2.2.2.2 t (fun v=>u v) (fun w=>k w) (fun _=>Ñ (fun(x:Int) y=>jC a.1.1 a.1.2 a.2.1 a.2.2.1 a.2.2.2.1 a.2.2.2.2.1 a.2.2.2.2.2 x (fun z=>y z) (fun A=>k A) (fun _=>Ã (jO a) fun B=>ifb (igt (Ú B) 59) (k (2:Int)) (Ã (wU a) fun C=>ifb (igt (Ú C.1) 300) (k (2:Int)) (k (0:Int))))) (0:Int))) (0:Int))))) (0:Int)))))))
def kW (a:Val Ä):Option (Int):=Kl a some
def Ek (a:Val Ä) (k:Val Ï→Option ρ):Option ρ :=
  Ã (jO a) fun b=>ck ((Ú b)+(1:Int)) fun c=>Ã (wU a) fun d=>k (c,d.1)
def mP (a:Val Ä):Option (Val Ï):=Ek a some
def QG (a:Val Ä) (b:Val Â) (k:Val aG→Option ρ):Option ρ :=
  í (ë (0+(List.length a.2.2.2.2.2))) (í (ë ((List.length (([])++a.2.2.2.2.2))+(List.length ([b])))) (Ã (kW (a.1,a.2.1,a.2.2.1,a.2.2.2.1,a.2.2.2.2.1,((([])++a.2.2.2.2.2)++([b])))) fun c=>ifb (ine c 0) (k ((((0:Int),(0:Int)),[],[],[],[],[]),c)) (k ((a.1,a.2.1,a.2.2.1,a.2.2.2.1,a.2.2.2.2.1,((([])++a.2.2.2.2.2)++([b]))),(0:Int)))))
def uY (a:Val Ä) (b:Val Â):Option ((Val aG)):=QG a b some
def lL (d:Int) (e:Int) (a:Int) (b:Val af) (c:Int→Val af→Option ρ) (f:Val af→Option ρ):Option ρ :=
  ifb (ilt a d) (í ((ile 0 a)&&(ilt a (Ĕ b))) (Ŋ b (Int.toNat a) fun i=>ifb (ieq e a) (í ((ile 0 a)&&(ilt a (Ĕ (List.set b (Int.toNat a) (1152921504606846976:Int))))) (Ŋ (List.set b (Int.toNat a) (1152921504606846976:Int)) (Int.toNat a) fun j=>ck (a+(1:Int)) fun g=>c g (List.set (List.set b (Int.toNat a) (1152921504606846976:Int)) (Int.toNat a) (0:Int)))) (ck (a+(1:Int)) fun h=>c h (List.set b (Int.toNat a) (1152921504606846976:Int))))) (f b)
def lM (a:Int) (b:Int) (c:Val am) (f:Int→Val am→Option ρ) (g:Val am→Option ρ):Option ρ :=
  ifb (ilt b a) (í ((ile 0 a)&&(ë (Int.toNat a))) (Ñ (fun(d:Val au) h=>lL a b d.1 d.2 (fun i j=>h (i,j)) (fun e=>í (ë ((List.length c)+(List.length ([e])))) (ck (b+(1:Int)) fun k=>f k (c++([e]))))) ((0:Int),(List.replicate (Int.toNat a) (0:Int))))) (g c)
def lK (d:Val ai) (c:Int) (b:Val am) (f:Int→Val am→Option ρ) (g:Val am→Option ρ):Option ρ :=
  ifb (ilt c (Ú d)) (õ d c fun a=>í ((ile 0 a.1)&&(ilt a.1 (Ĕ b))) (í ((ile 0 a.1)&&(ilt a.1 (Ĕ b))) (Ŋ b (Int.toNat a.1) fun h=>í ((ile 0 a.2.1)&&(ilt a.2.1 (Ĕ h))) (Ŋ b (Int.toNat a.1) fun i=>Ŋ i (Int.toNat a.2.1) fun j=>Ŋ b (Int.toNat a.1) fun k=>í ((ile 0 a.2.1)&&(ilt a.2.1 (Ĕ k))) (Ŋ b (Int.toNat a.1) fun e=>Ŋ e (Int.toNat a.2.1) fun m=>ck (c+(1:Int)) fun l=>f l (List.set b (Int.toNat a.1) (List.set e (Int.toNat a.2.1) (aam j a.2.2)))))))) (g b)
def lI (d:Int) (c:Int) (g:Int) (b:Int) (a:Val am) (e:Int→Val am→Option ρ) (h:Val am→Option ρ):Option ρ :=
  ifb (ilt b g) (í ((ile 0 d)&&(ilt d (Ĕ a))) (Ŋ a (Int.toNat d) fun i=>í ((ile 0 b)&&(ilt b (Ĕ i))) (Ŋ a (Int.toNat d) fun j=>Ŋ j (Int.toNat b) fun k=>ifb (ine k 1152921504606846976) (í ((ile 0 c)&&(ilt c (Ĕ a))) (í ((ile 0 c)&&(ilt c (Ĕ a))) (Ŋ a (Int.toNat c) fun l=>í ((ile 0 b)&&(ilt b (Ĕ l))) (Ŋ a (Int.toNat c) fun m=>Ŋ m (Int.toNat b) fun n=>í ((ile 0 c)&&(ilt c (Ĕ a))) (Ŋ a (Int.toNat c) fun o=>í ((ile 0 d)&&(ilt d (Ĕ o))) (Ŋ a (Int.toNat c) fun p=>Ŋ p (Int.toNat d) fun q=>í ((ile 0 d)&&(ilt d (Ĕ a))) (Ŋ a (Int.toNat d) fun r=>í ((ile 0 b)&&(ilt b (Ĕ r))) (Ŋ a (Int.toNat d) fun s=>Ŋ s (Int.toNat b) fun t=>ck (q+t) fun u=>Ŋ a (Int.toNat c) fun v=>í ((ile 0 b)&&(ilt b (Ĕ v))) (Ŋ a (Int.toNat c) fun f=>Ŋ f (Int.toNat b) fun y=>ck (b+(1:Int)) fun w=>e w (List.set a (Int.toNat c) (List.set f (Int.toNat b) (aam n u)))))))))))) (ck (b+(1:Int)) fun x=>e x a)))) (h a)
def lJ (c:Int) (d:Int) (a:Int) (b:Val am) (e:Int→Val am→Option ρ) (g:Val am→Option ρ):Option ρ :=
  ifb (ilt a d) (í ((ile 0 a)&&(ilt a (Ĕ b))) (Ŋ b (Int.toNat a) fun h=>í ((ile 0 c)&&(ilt c (Ĕ h))) (Ŋ b (Int.toNat a) fun i=>Ŋ i (Int.toNat c) fun j=>ifb (ieq j 1152921504606846976) (ck (a+(1:Int)) fun k=>e k b) (Ñ (fun(f:Val aR) l=>lI c a d f.1 f.2 (fun m n=>l (m,n)) (fun o=>ck (a+(1:Int)) fun p=>e p o)) ((0:Int),b))))) (g b)
def iH (c:Int) (b:Val am) (a:Int) (d:Int→Option ρ) (e:Bool→Option ρ) (f:Unit→Option ρ):Option ρ :=
  ifb (ilt a c) (í ((ile 0 a)&&(ilt a (Ĕ b))) (Ŋ b (Int.toNat a) fun g=>í ((ile 0 a)&&(ilt a (Ĕ g))) (Ŋ b (Int.toNat a) fun h=>Ŋ h (Int.toNat a) fun i=>ifb (ilt i 0) (e false) (ck (a+(1:Int)) fun j=>d j)))) (f ())
def jE (a:Int) (b:Int) (d:Val am) (f:Int→Val am→Option ρ) (g:(Val (.pair .bool am))→Option ρ) (h:Val am→Option ρ):Option ρ :=
  ifb (ilt b a) (Ñ (fun(e:Val aR) i=>lJ b a e.1 e.2 (fun j k=>i (j,k)) (fun c=>Ñ (fun(l:Int) m=>iH a c l (fun n=>m n) (fun o=>g (o,c)) (fun _=>ck (b+(1:Int)) fun p=>f p c)) (0:Int))) ((0:Int),d)) (h d)
def Km (a:Val Ï) (k:(Val (.pair am .bool))→Option ρ):Option ρ :=
  Ñ (fun(b:Val aR) e=>lM a.1 b.1 b.2 (fun f g=>e (f,g)) (fun h=>Ñ (fun(c:Val aR) i=>lK a.2 c.1 c.2 (fun j l=>i (j,l)) (fun m=>Ñ (fun(d:Val aR) n=>jE a.1 d.1 d.2 (fun o p=>n (o,p)) (fun q=>k ([],q.1)) (fun r=>k (r,true))) ((0:Int),m))) ((0:Int),h))) ((0:Int),[])
def uZ (a:Val Ï):Option ((Val (.pair am .bool))):=Km a some
def nv (j:Val aa) (b:Int) (c:Int) (d:Int) (e:Val ac) (f:Val aa) (g:Val ae) (h:Val ab) (i:Val aa) (k:Int) (l:Int) (m:Int) (n:Int) (o:Int→Int→Int→Val ac→Val aa→Val ae→Val ab→Val aa→Int→Int→Int→Int→Option ρ) (p:Val ax→Option ρ) (q:Val ax→Option ρ):Option ρ :=
  ifb (ilt b (Ú j)) (õ j b fun r=>Ã (Ľ ((c,d),e,f,g,h,i) r) fun s=>ifb (igt s 0) (ck (b+(1:Int)) fun t=>o t c d e f g h i k l m n) (õ j b fun u=>Ã (uY ((c,d),e,f,g,h,i) u) fun a=>ifb (ine a.2 0) (p (c,d,e,f,g,h,i,(0:Int),(0:Int),(0:Int),a.2)) (ck (b+(1:Int)) fun v=>o v a.1.1.1 a.1.1.2 a.1.2.1 a.1.2.2.1 a.1.2.2.2.1 a.1.2.2.2.2.1 a.1.2.2.2.2.2 k l m n))) (q (c,d,e,f,g,h,i,k,l,m,n))
def Qe (c:Val Ä) (h:Val aa) (k:Val jk→Option ρ):Option ρ :=
  Ã (kW c) fun e=>ifb (ine e 0) (k ((((0:Int),(0:Int)),[],[],[],[],[]),((0:Int),[]),[],e)) (Ñ (fun(b:(Val (.pair tI ax))) i=>nv h b.1 b.2.1 b.2.2.1 b.2.2.2.1 b.2.2.2.2.1 b.2.2.2.2.2.1 b.2.2.2.2.2.2.1 b.2.2.2.2.2.2.2.1 b.2.2.2.2.2.2.2.2.1 b.2.2.2.2.2.2.2.2.2.1 b.2.2.2.2.2.2.2.2.2.2.1 b.2.2.2.2.2.2.2.2.2.2.2 (fun j l m n o p q r s t u v=>i (j,l,m,n,o,p,q,r,s,t,u,v)) (fun d=>k (((d.2.2.2.2.2.2.2.1,d.2.2.2.2.2.2.2.2.1),[],[],[],[],[]),(d.2.2.2.2.2.2.2.2.2.1,[]),[],d.2.2.2.2.2.2.2.2.2.2)) (fun a=>Ã (mP ((a.1,a.2.1),a.2.2.1,a.2.2.2.1,a.2.2.2.2.1,a.2.2.2.2.2.1,a.2.2.2.2.2.2.1)) fun f=>Ã (uZ f) fun g=>ifb (!g.2) (k ((((0:Int),(0:Int)),[],[],[],[],[]),((0:Int),[]),[],(9:Int))) (k (((a.1,a.2.1),a.2.2.1,a.2.2.2.1,a.2.2.2.2.1,a.2.2.2.2.2.1,a.2.2.2.2.2.2.1),f,g.1,(0:Int))))) ((0:Int),c.1.1,c.1.2,c.2.1,c.2.2.1,c.2.2.2.1,c.2.2.2.2.1,c.2.2.2.2.2,(0:Int),(0:Int),(0:Int),(0:Int)))
def IW (a:Val Ä) (b:Val aa):Option (Val jk):=Qe a b some
def kH (a:Val jk) (b:Int) (k:Val Â→Option ρ):Option ρ :=
  õ a.2.2.1 b fun c=>õ c (0:Int) fun d=>ck ((0:Int)-d) fun e=>õ a.2.2.1 (0:Int) fun f=>õ f b fun g=>k (e,g)
def iO (a:Val jk) (b:Int):Option (Val Â):=kH a b some
def vL (a:Val jk) (b:Val Â) (k:Int→Option ρ):Option ρ :=
  Ã (Ľ a.1 b) fun c=>k c
def o9 (a:Val jk) (b:Val Â):Option (Int):=vL a b some
def vS (b:Val af) (c:Val ai) (e:Int) (f:Int) (a:Int) (g:Int→Int→Int→Option ρ) (d:Val aO→Option ρ) (h:Val Â→Option ρ):Option ρ :=
  ifb (ilt a (Ú b)) (õ b a fun i=>ifb (ilt i 0) (d ((0:Int),(0:Int),false)) (õ b a fun j=>ifb (ige j (Ú c)) (d ((0:Int),(0:Int),false)) (õ b a fun k=>õ c k fun l=>ifb (ine l.1 e) (d ((0:Int),(0:Int),false)) (õ b a fun m=>õ c m fun n=>ck (f+n.2.2) fun o=>õ b a fun p=>õ c p fun q=>ck (a+(1:Int)) fun r=>g q.2.1 o r)))) (h (e,f))
def Y1 (d:Val Ï) (e:Int) (f:Val af) (k:Val aO→Option ρ):Option ρ :=
  Ñ (fun(a:Val ć) g=>vS f d.2 a.1 a.2.1 a.2.2 (fun h i j=>g (h,i,j)) (fun b=>k (b.1,b.2.1,b.2.2)) (fun c=>k (c.2,c.1,true))) (e,(0:Int),(0:Int))
def I0 (a:Val Ï) (b:Int) (c:Val af):Option ((Val aO)):=Y1 a b c some
def J8 (a:Val ö) (k:Bool→Option ρ):Option ρ :=
  Ã (mP a.1) fun d=>Ã (Ľ a.1 a.2.1) fun e=>ifb (!a.2.2.1) (ifb (ilt a.2.2.2.1 (-1152921504606846976:Int)) (k false) (ifb (igt a.2.2.2.1 1152921504606846976) (k false) (ck ((0:Int)-a.2.2.2.1) fun f=>Ã (I0 d e a.2.2.2.2) fun b=>ifb (ile (Ú a.2.2.2.2) 80) (ifb b.2.2 (ifb (ieq b.2.1 0) (k (ieq b.1 f)) (k false)) (k false)) (k false)))) (Ã (I0 d (0:Int) a.2.2.2.2) fun c=>ifb (ile (Ú a.2.2.2.2) 80) (ifb c.2.2 (ifb (ieq c.2.1 e) (k (ieq c.1 a.2.2.2.1)) (k false)) (k false)) (k false))
def Bo (a:Val ö):Option (Bool):=J8 a some
def sO (a:Val ö) (k:Int→Option ρ):Option ρ :=
  Ã (kW a.1) fun b=>ifb (ine b 0) (k b) (Ã (Ľ a.1 a.2.1) fun c=>ifb (ieq c 0) (k (5:Int)) (Ã (Bo a) fun d=>ifb (!d) (k (8:Int)) (k (0:Int))))
def č (a:Val ö):Option (Int):=sO a some
def km (b:Val af) (c:Val af) (a:Int) (d:Int→Option ρ) (e:Bool→Option ρ) (f:Unit→Option ρ):Option ρ :=
  ifb (ilt a (Ú b)) (õ b a fun g=>õ c a fun h=>ifb (ine g h) (e false) (ck (a+(1:Int)) fun i=>d i)) (f ())
def vQ (a:Val af) (b:Val af) (k:Bool→Option ρ):Option ρ :=
  ifb (ine (Ú a) (Ú b)) (k false) (Ñ (fun(c:Int) d=>km a b c (fun e=>d e) (fun f=>k f) (fun _=>k true)) (0:Int))
def jN (a:Val af) (b:Val af):Option (Bool):=vQ a b some
def oj (a:Val Ê) (b:Val Ê) (k:Bool→Option ρ):Option ρ :=
  Ã (jN a.2.2.1 b.2.2.1) fun c=>Ã (jN a.2.2.2.1 b.2.2.2.1) fun d=>ifb c (ifb d (ifb (ieq a.1 b.1) (ifb (ieq a.2.1 b.2.1) (ifb (ieq a.2.2.2.2.1 b.2.2.2.2.1) (ifb (ieq a.2.2.2.2.2.1 b.2.2.2.2.2.1) (k ((ü a.2.2.2.2.2.2.1 b.2.2.2.2.2.2.1)&&((ü a.2.2.2.2.2.2.2 b.2.2.2.2.2.2.2)&&true))) (k false)) (k false)) (k false)) (k false)) (k false)) (k false)
def ku (a:Val Ê) (b:Val Ê):Option (Bool):=oj a b some
def jB (b:Val aa) (e:Val aa) (a:Int) (f:Int→Option ρ) (g:Bool→Option ρ) (h:Unit→Option ρ):Option ρ :=
  ifb (ilt a (Ú b)) (õ b a fun c=>õ e a fun d=>ifb (!((ü c.1 d.1)&&((ü c.2 d.2)&&true))) (g false) (ck (a+(1:Int)) fun i=>f i)) (h ())
def sP (a:Val aa) (b:Val aa) (k:Bool→Option ρ):Option ρ :=
  ifb (ine (Ú a) (Ú b)) (k false) (Ñ (fun(c:Int) d=>jB a b c (fun e=>d e) (fun f=>k f) (fun _=>k true)) (0:Int))
def j9 (a:Val aa) (b:Val aa):Option (Bool):=sP a b some
def rA (d:Val ac) (e:Val ac) (c:Int) (f:Int→Option ρ) (g:Bool→Option ρ) (h:Unit→Option ρ):Option ρ :=
  ifb (ilt c (Ú d)) (õ d c fun a=>õ e c fun b=>ifb (!((ü a.1 b.1)&&((ü a.2.1 b.2.1)&&((ü a.2.2.1 b.2.2.1)&&((ü a.2.2.2.1.1 b.2.2.2.1.1)&&((ü a.2.2.2.1.2 b.2.2.2.1.2)&&((ü a.2.2.2.2.1.1 b.2.2.2.2.1.1)&&((ü a.2.2.2.2.1.2 b.2.2.2.2.1.2)&&((ü a.2.2.2.2.2 b.2.2.2.2.2)&&true))))))))) (g false) (ck (c+(1:Int)) fun i=>f i)) (h ())
def rz (b:Val aa) (e:Val aa) (a:Int) (f:Int→Option ρ) (g:Bool→Option ρ) (h:Unit→Option ρ):Option ρ :=
  ifb (ilt a (Ú b)) (õ b a fun c=>õ e a fun d=>ifb (!((ü c.1 d.1)&&((ü c.2 d.2)&&true))) (g false) (ck (a+(1:Int)) fun i=>f i)) (h ())
def ru (d:Val ae) (e:Val ae) (a:Int) (f:Int→Option ρ) (g:Bool→Option ρ) (h:Unit→Option ρ):Option ρ :=
  ifb (ilt a (Ú d)) (õ d a fun b=>õ e a fun c=>ifb (!((ü b.1 c.1)&&((ü b.2.1.1 c.2.1.1)&&((ü b.2.1.2 c.2.1.2)&&((ü b.2.2 c.2.2)&&true))))) (g false) (ck (a+(1:Int)) fun i=>f i)) (h ())
def rt (b:Val ab) (c:Val ab) (a:Int) (d:Int→Option ρ) (e:Bool→Option ρ) (f:Unit→Option ρ):Option ρ :=
  ifb (ilt a (Ú b)) (õ b a fun g=>õ c a fun h=>Ã (ku g h) fun i=>ifb (!i) (e false) (ck (a+(1:Int)) fun j=>d j)) (f ())
def Qx (a:Val Ä) (b:Val Ä) (k:Bool→Option ρ):Option ρ :=
  ifb (!((ü a.1.1 b.1.1)&&((ü a.1.2 b.1.2)&&true))) (k false) (ifb (ine (Ú a.2.1) (Ú b.2.1)) (k false) (ifb (ine (Ú a.2.2.1) (Ú b.2.2.1)) (k false) (ifb (ine (Ú a.2.2.2.1) (Ú b.2.2.2.1)) (k false) (ifb (ine (Ú a.2.2.2.2.1) (Ú b.2.2.2.2.1)) (k false) (Ñ (fun(c:Int) d=>rA a.2.1 b.2.1 c (fun e=>d e) (fun f=>k f) (fun _=>Ñ (fun(g:Int) h=>rz a.2.2.1 b.2.2.1 g (fun i=>h i) (fun j=>k j) (fun _=>Ñ (fun(l:Int) m=>ru a.2.2.2.1 b.2.2.2.1 l (fun n=>m n) (fun o=>k o) (fun _=>Ñ (fun(p:Int) q=>rt a.2.2.2.2.1 b.2.2.2.2.1 p (fun r=>q r) (fun s=>k s) (fun _=>Ã (j9 a.2.2.2.2.2 b.2.2.2.2.2) fun t=>k t)) (0:Int))) (0:Int))) (0:Int))) (0:Int))))))
def qu (a:Val Ä) (b:Val Ä):Option (Bool):=Qx a b some
def kp (b:Val af) (c:Val af) (a:Int) (d:Int→Option ρ) (e:Bool→Option ρ) (f:Unit→Option ρ):Option ρ :=
  ifb (ilt a (Ú b)) (õ b a fun g=>õ c a fun h=>ifb (ine g h) (e false) (ck (a+(1:Int)) fun i=>d i)) (f ())
def vT (a:Val af) (b:Val af) (k:Bool→Option ρ):Option ρ :=
  ifb (ine (Ú a) (Ú b)) (k false) (Ñ (fun(c:Int) d=>kp a b c (fun e=>d e) (fun f=>k f) (fun _=>k true)) (0:Int))
def Χ (a:Val af) (b:Val af):Option (Bool):=vT a b some
def vJ (a:Val ö) (b:Val ö) (k:Bool→Option ρ):Option ρ :=
  Ã (qu a.1 b.1) fun c=>ifb c (ifb ((ü a.2.1.1 b.2.1.1)&&((ü a.2.1.2 b.2.1.2)&&true)) (ifb (a.2.2.1==b.2.2.1) (ifb (ieq a.2.2.2.1 b.2.2.2.1) (Ã (Χ a.2.2.2.2 b.2.2.2.2) fun d=>k d) (k false)) (k false)) (k false)) (k false)
def jL (a:Val ö) (b:Val ö):Option (Bool):=vJ a b some
def oN (c:Val ac) (d:Int) (e:Int) (f:Int) (g:Int) (h:Int) (i:Int) (j:Int) (k:Int) (b:Int) (l:Int→Option ρ) (m:Bool→Option ρ) (n:Unit→Option ρ):Option ρ :=
  ifb (ilt b (Ú c)) (õ c b fun a=>ifb ((ü a.1 d)&&((ü a.2.1 e)&&((ü a.2.2.1 f)&&((ü a.2.2.2.1.1 g)&&((ü a.2.2.2.1.2 h)&&((ü a.2.2.2.2.1.1 i)&&((ü a.2.2.2.2.1.2 j)&&((ü a.2.2.2.2.2 k)&&true)))))))) (m true) (ck (b+(1:Int)) fun o=>l o)) (n ())
def J4 (b:Val Ä) (a:Val Ð) (k:Bool→Option ρ):Option ρ :=
  Ñ (fun(c:Int) d=>oN b.2.1 a.1 a.2.1 a.2.2.1 a.2.2.2.1.1 a.2.2.2.1.2 a.2.2.2.2.1.1 a.2.2.2.2.1.2 a.2.2.2.2.2 c (fun e=>d e) (fun f=>k f) (fun _=>k false)) (0:Int)
def pA (a:Val Ä) (b:Val Ð):Option (Bool):=J4 a b some
def oh (a:Val Ê) (b:Val Ê) (k:Bool→Option ρ):Option ρ :=
  ifb (ieq a.1 b.1) (ifb (ieq a.2.1 b.2.1) (ifb (ieq a.2.2.2.2.1 b.2.2.2.2.1) (ifb (ieq a.2.2.2.2.2.1 b.2.2.2.2.2.1) (ifb ((ü a.2.2.2.2.2.2.1 b.2.2.2.2.2.2.1)&&((ü a.2.2.2.2.2.2.2 b.2.2.2.2.2.2.2)&&true)) (Ã (Χ a.2.2.1 b.2.2.1) fun c=>ifb c (Ã (Χ a.2.2.2.1 b.2.2.2.1) fun d=>k d) (k false)) (k false)) (k false)) (k false)) (k false)) (k false)
def ks (a:Val Ê) (b:Val Ê):Option (Bool):=oh a b some
def oM (c:Int) (b:Val ac) (a:Int) (d:Int→Option ρ) (e:Bool→Option ρ) (f:Unit→Option ρ):Option ρ :=
  ifb (ilt a (Ú b)) (õ b a fun g=>ifb (ieq g.1 c) (e true) (ck (a+(1:Int)) fun h=>d h)) (f ())
def J3 (a:Val Ä) (b:Int) (k:Bool→Option ρ):Option ρ :=
  Ñ (fun(c:Int) d=>oM b a.2.1 c (fun e=>d e) (fun f=>k f) (fun _=>k false)) (0:Int)
def jK (a:Val Ä) (b:Int):Option (Bool):=J3 a b some
def qZ (g:Int) (h:Val aa) (b:Val aa) (c:Bool) (a:Int) (d:Bool→Int→Option ρ) (i:Bool→Option ρ):Option ρ :=
  ifb (ilt a (Ú b)) (ifb c (ck (a+(1:Int)) fun j=>d true j) (õ b a fun e=>õ h g fun f=>ck (a+(1:Int)) fun k=>d ((ü e.1 f.1)&&((ü e.2 f.2)&&true)) k)) (i c)
def rc (b:Val aa) (d:Val aa) (e:Int) (f:Int) (g:Val ac) (h:Val aa) (i:Val ae) (j:Val ab) (k:Val aa) (a:Int) (l:Int→Option ρ) (m:Bool→Option ρ) (n:Unit→Option ρ):Option ρ :=
  ifb (ilt a (Ú b)) (õ b a fun o=>Ã (jK ((e,f),g,h,i,j,k) o.1) fun p=>Ñ (fun(c:Val aL) q=>qZ a b d c.1 c.2 (fun r s=>q (r,s)) (fun t=>ifb (!t) (m false) (ck (a+(1:Int)) fun u=>l u))) ((!p),(0:Int))) (n ())
def qX (g:Int) (h:Val ae) (d:Val ae) (e:Bool) (a:Int) (f:Bool→Int→Option ρ) (i:Bool→Option ρ):Option ρ :=
  ifb (ilt a (Ú d)) (ifb e (ck (a+(1:Int)) fun j=>f true j) (õ d a fun b=>õ h g fun c=>ck (a+(1:Int)) fun k=>f ((ü b.1 c.1)&&((ü b.2.1.1 c.2.1.1)&&((ü b.2.1.2 c.2.1.2)&&((ü b.2.2 c.2.2)&&true)))) k)) (i e)
def qY (b:Val ae) (d:Val ae) (e:Int) (f:Int) (g:Val ac) (h:Val aa) (i:Val ae) (j:Val ab) (k:Val aa) (a:Int) (l:Int→Option ρ) (m:Bool→Option ρ) (n:Unit→Option ρ):Option ρ :=
  ifb (ilt a (Ú b)) (õ b a fun o=>Ã (jK ((e,f),g,h,i,j,k) o.1) fun p=>Ñ (fun(c:Val aL) q=>qX a b d c.1 c.2 (fun r s=>q (r,s)) (fun t=>ifb (!t) (m false) (ck (a+(1:Int)) fun u=>l u))) ((!p),(0:Int))) (n ())
def P6 (b:Val Ä) (c:Val Ä) (a:Val Ä) (k:Bool→Option ρ):Option ρ :=
  Ñ (fun(d:Int) e=>rc b.2.2.1 c.2.2.1 a.1.1 a.1.2 a.2.1 a.2.2.1 a.2.2.2.1 a.2.2.2.2.1 a.2.2.2.2.2 d (fun f=>e f) (fun g=>k g) (fun _=>Ñ (fun(h:Int) i=>qY b.2.2.2.1 c.2.2.2.1 a.1.1 a.1.2 a.2.1 a.2.2.1 a.2.2.2.1 a.2.2.2.2.1 a.2.2.2.2.2 h (fun j=>i j) (fun l=>k l) (fun _=>k true)) (0:Int))) (0:Int)
def Au (a:Val Ä) (b:Val Ä) (c:Val Ä):Option (Bool):=P6 a b c some
def rh (b:Val ac) (c:Int) (d:Int) (e:Val ac) (f:Val aa) (g:Val ae) (h:Val ab) (i:Val aa) (a:Int) (j:Int→Option ρ) (k:Bool→Option ρ) (l:Unit→Option ρ):Option ρ :=
  ifb (ilt a (Ú b)) (õ b a fun m=>Ã (pA ((c,d),e,f,g,h,i) m) fun n=>ifb (!n) (k false) (ck (a+(1:Int)) fun o=>j o)) (l ())
def rf (e:Int) (f:Val ab) (b:Val ab) (c:Bool) (a:Int) (d:Bool→Int→Option ρ) (g:Bool→Option ρ):Option ρ :=
  ifb (ilt a (Ú b)) (ifb c (ck (a+(1:Int)) fun h=>d true h) (õ f e fun i=>õ b a fun j=>Ã (ks i j) fun k=>ck (a+(1:Int)) fun l=>d k l)) (g c)
def rg (b:Val ab) (d:Val ab) (a:Int) (e:Int→Option ρ) (f:Bool→Option ρ) (g:Unit→Option ρ):Option ρ :=
  ifb (ilt a (Ú b)) (Ñ (fun(c:Val aL) h=>rf a b d c.1 c.2 (fun i j=>h (i,j)) (fun k=>ifb (!k) (f false) (ck (a+(1:Int)) fun l=>e l))) (false,(0:Int))) (g ())
def Qc (b:Val Ä) (a:Val Ä) (k:Bool→Option ρ):Option ρ :=
  ifb (!((ü b.1.1 a.1.1)&&((ü b.1.2 a.1.2)&&true))) (k false) (Ñ (fun(c:Int) d=>rh b.2.1 a.1.1 a.1.2 a.2.1 a.2.2.1 a.2.2.2.1 a.2.2.2.2.1 a.2.2.2.2.2 c (fun e=>d e) (fun f=>k f) (fun _=>Ñ (fun(g:Int) h=>rg b.2.2.2.2.1 a.2.2.2.2.1 g (fun i=>h i) (fun j=>k j) (fun _=>Ã (Au b a b) fun l=>ifb l (Ã (Au a b b) fun m=>k m) (k false))) (0:Int))) (0:Int))
def nR (a:Val Ä) (b:Val Ä):Option (Bool):=Qc a b some
def P1 (a:Val ö) (b:Int) (c:Int) (k:Val ö→Option ρ):Option ρ :=
  ifb (ieq (Int.tmod b (5:Int)) 0) (ck (a.2.2.2.1+(Int.tmod c (50:Int))) fun d=>k (a.1,a.2.1,a.2.2.1,d,a.2.2.2.2)) (ifb (ieq (Int.tmod b (5:Int)) 1) (k (a.1,a.2.1,(!a.2.2.1),a.2.2.2)) (ifb (ieq (Int.tmod b (5:Int)) 2) (ck (a.2.1.2+(Int.tmod c (3:Int))) fun e=>k (a.1,(a.2.1.1,e),a.2.2)) (ifb (ieq (Int.tmod b (5:Int)) 3) (ifb (igt (Ú a.2.2.2.2) 0) (í (ë (0+(List.length a.2.2.2.2))) (ifb (ü (Ú (([])++a.2.2.2.2)) 0) (none) (í ((ile 0 (Int.tmod (IntKind.wrap .i64 (IntKind.wrap .u8 (Int.tdiv b (5:Int)))) (Ú (([])++a.2.2.2.2))))&&(ilt (Int.tmod (IntKind.wrap .i64 (IntKind.wrap .u8 (Int.tdiv b (5:Int)))) (Ú (([])++a.2.2.2.2))) (Ĕ (([])++a.2.2.2.2)))) (Ŋ (([])++a.2.2.2.2) (Int.toNat (Int.tmod (IntKind.wrap .i64 (IntKind.wrap .u8 (Int.tdiv b (5:Int)))) (Ú (([])++a.2.2.2.2)))) fun f=>ck (f+(Int.tmod c (3:Int))) fun g=>í ((ile 0 (Int.tmod (IntKind.wrap .i64 (IntKind.wrap .u8 (Int.tdiv b (5:Int)))) (Ú (([])++a.2.2.2.2))))&&(ilt (Int.tmod (IntKind.wrap .i64 (IntKind.wrap .u8 (Int.tdiv b (5:Int)))) (Ú (([])++a.2.2.2.2))) (Ĕ (([])++a.2.2.2.2)))) (Ŋ (([])++a.2.2.2.2) (Int.toNat (Int.tmod (IntKind.wrap .i64 (IntKind.wrap .u8 (Int.tdiv b (5:Int)))) (Ú (([])++a.2.2.2.2)))) fun h=>k (a.1,a.2.1,a.2.2.1,a.2.2.2.1,(List.set (([])++a.2.2.2.2) (Int.toNat (Int.tmod (IntKind.wrap .i64 (IntKind.wrap .u8 (Int.tdiv b (5:Int)))) (Ú (([])++a.2.2.2.2)))) g))))))) (k a)) (ifb (igt (Ú a.2.2.2.2) 0) (í (ile 1 (Ĕ a.2.2.2.2)) (k (a.1,a.2.1,a.2.2.1,a.2.2.2.1,(List.drop 1 a.2.2.2.2)))) (k a)))))
def nQ (a:Val ö) (b:Int) (c:Int):Option (Val ö):=P1 a b c some
def pM (b:Val Ä) (c:Val Â) (d:Bool) (e:Val ö) (f:Int) (g:Int) (k:Bool→Option ρ):Option ρ :=
  Ã (IV b) fun o=>ifb (!o) (Ã ż fun p=>k p) (Ã (IV e.1) fun q=>ifb (!q) (Ã ż fun r=>k r) (ifb (igt (Ú e.2.2.2.2) 90) (Ã ż fun s=>k s) (Ã (qA b c d) fun a=>Ã (IW b ([c])) fun h=>ifb (ine a.2 h.2.2.2) (k false) (Ã (Ĉ e) fun t=>Ã (č e) fun u=>ifb (ine t u) (k false) (ifb (ine a.2 0) (Ã ż fun v=>ifb v (Ã (jL a.1 ((((0:Int),(0:Int)),[],[],[],[],[]),((0:Int),(0:Int)),false,(0:Int),[])) fun w=>k w) (k false)) (Ã (o9 h c) fun x=>Ã (iO h x) fun i=>ifb (!((ü a.1.2.1.1 c.1)&&((ü a.1.2.1.2 c.2)&&true))) (k false) (ifb (!(a.1.2.2.1==d)) (k false) (ifb d (ifb (ine a.1.2.2.2.1 i.2) (k false) (ifb (!d) (ifb (ine a.1.2.2.2.1 i.1) (k false) (Ã (č a.1) fun y=>ifb (ine y 0) (k false) (Ã (nR a.1.1 b) fun z=>ifb (!z) (k false) (Ã (Ĉ a.1) fun A=>ifb (ine A 0) (k false) (Ã (nQ a.1 f g) fun j=>Ã ż fun B=>ifb B (Ã (Ĉ j) fun C=>Ã (č j) fun D=>k (ieq C D)) (k false)))))) (Ã (č a.1) fun E=>ifb (ine E 0) (k false) (Ã (nR a.1.1 b) fun F=>ifb (!F) (k false) (Ã (Ĉ a.1) fun G=>ifb (ine G 0) (k false) (Ã (nQ a.1 f g) fun l=>Ã ż fun H=>ifb H (Ã (Ĉ l) fun I=>Ã (č l) fun J=>k (ieq I J)) (k false))))))) (ifb (!d) (ifb (ine a.1.2.2.2.1 i.1) (k false) (Ã (č a.1) fun K=>ifb (ine K 0) (k false) (Ã (nR a.1.1 b) fun L=>ifb (!L) (k false) (Ã (Ĉ a.1) fun M=>ifb (ine M 0) (k false) (Ã (nQ a.1 f g) fun m=>Ã ż fun N=>ifb N (Ã (Ĉ m) fun O=>Ã (č m) fun P=>k (ieq O P)) (k false)))))) (Ã (č a.1) fun Q=>ifb (ine Q 0) (k false) (Ã (nR a.1.1 b) fun R=>ifb (!R) (k false) (Ã (Ĉ a.1) fun S=>ifb (ine S 0) (k false) (Ã (nQ a.1 f g) fun n=>Ã ż fun T=>ifb T (Ã (Ĉ n) fun U=>Ã (č n) fun V=>k (ieq U V)) (k false))))))))))))))
def qt (a:Val Ä) (b:Val Â) (c:Bool) (d:Val ö) (e:Int) (f:Int):Option (Bool):=pM a b c d e f some
end Go.Proofs.ZzM
end
