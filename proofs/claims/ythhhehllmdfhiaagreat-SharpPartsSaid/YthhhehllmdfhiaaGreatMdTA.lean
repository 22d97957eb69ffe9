/- lemmas -/
import Derived.Test.YthhhehllmdfhiaaGreatAmE
set_option linter.all false
set_option linter.unusedSectionVars false
set_option linter.unusedVariables false
set_option linter.unusedSimpArgs false
noncomputable section
variable {ρ:Type}
set_option maxRecDepth 100000
namespace Go.Proofs.ZzM
open Go Go.Am
abbrev tI:Ty:=.int .i64
abbrev Ã:Ty:=(.pair tI tI)
abbrev ÿ:Ty:=(.pair tI Ã)
abbrev å:Ty:=(.pair Ã Ã)
abbrev į:Ty:=(.pair Ã tI)
abbrev Ł:Ty:=(.pair tI į)
abbrev ako:Ty:=(.pair å tI)
abbrev Í:Ty:=(.pair tI (.slice ÿ))
abbrev Ŧ:Ty:=(.pair Ã (.pair ÿ ÿ))
abbrev amO:Ty:=(.pair (.slice ÿ) (.slice Ã))
abbrev Ð:Ty:=(.pair tI (.pair tI (.pair tI (.pair Ã į))))
abbrev Ê:Ty:=(.pair tI (.pair tI (.pair (.slice tI) (.pair (.slice tI) (.pair tI ÿ)))))
abbrev Ä:Ty:=(.pair Ã (.pair (.slice Ð) (.pair (.slice Ã) (.pair (.slice Ł) (.pair (.slice Ê) (.slice Ã))))))
abbrev ĉ:Ty:=(.pair Ä (.pair Ã (.pair .bool (.pair tI (.slice tI)))))
abbrev a0V:Ty:=(.pair Ä (.pair (.slice Ã) (.pair Í (.slice Ã))))
abbrev tyroom:Ty:=(.pair Ä Í)
abbrev eI:Ty:=(.slice Ã)
abbrev eW:Ty:=(.slice Ê)
abbrev f6:Ty:=(.slice Ð)
abbrev l5:Ty:=(.slice Ł)
abbrev m5:Ty:=(.slice tI)
abbrev nn:Ty:=(.pair tI (.pair tI (.pair f6 (.pair eI (.pair l5 (.pair eW eI))))))
abbrev wi:Ty:=(.slice ÿ)
abbrev abo:Ty:=(.pair tI (.pair tI (.pair f6 (.pair eI (.pair l5 (.pair eW (.pair eI (.pair tI (.pair tI (.pair f6 (.pair eI (.pair l5 (.pair eW (.pair eI (.pair tI (.pair tI (.pair f6 (.pair eI (.pair l5 (.pair eW (.pair eI (.pair (.map tI .bool) (.pair (.map tI .bool) f6)))))))))))))))))))))))
abbrev abp:Ty:=(.map tI .bool)
abbrev abq:Ty:=(.pair m5 (.pair tI (.pair tI (.pair tI (.pair f6 (.pair eI (.pair l5 (.pair eW (.pair eI (.pair tI (.pair tI (.pair tI (.pair tI (.pair tI (.pair tI (.pair m5 (.pair m5 (.pair tI (.pair tI (.pair tI (.pair tI (.pair eI (.pair tI (.pair tI (.pair f6 (.pair eI (.pair l5 (.pair eW (.pair eI (.pair tI (.pair wi (.pair tI (.pair tI (.pair tI (.pair tI (.pair tI (.pair tI (.pair tI (.pair tI (.pair (.slice m5) (.pair (.slice m5) (.slice m5))))))))))))))))))))))))))))))))))))))))))
abbrev abr:Ty:=(.slice m5)
abbrev abt:Ty:=(.pair tI (.pair tI (.pair tI (.pair tI (.pair tI ÿ)))))
abbrev abu:Ty:=(.map tI Ð)
abbrev abv:Ty:=(.pair tI (.pair tI (.pair f6 (.pair eI (.pair l5 (.pair eW (.pair eI (.pair tI (.pair tI (.pair m5 (.pair m5 (.pair tI (.pair tI (.pair tI (.pair tI m5)))))))))))))))
abbrev abw:Ty:=(.pair tI (.pair tI (.pair tI (.pair f6 (.pair eI (.pair l5 (.pair eW (.pair eI (.pair tI (.pair tI (.pair tI (.pair tI (.pair tI (.pair tI (.pair m5 (.pair m5 (.pair tI (.pair tI (.pair tI (.pair tI eI))))))))))))))))))))
abbrev abx:Ty:=(.ptr tyroom)
abbrev aby:Ty:=(.pair tI (.pair tI (.pair f6 (.pair eI (.pair l5 (.pair eW (.pair eI nn)))))))
abbrev abz:Ty:=(.pair tI m5)
abbrev abA:Ty:=(.slice .bool)
abbrev abB:Ty:=(.pair tI (.pair tI (.pair f6 (.pair eI (.pair l5 (.pair eW (.pair eI abt)))))))
abbrev abC:Ty:=(.pair Ä Ê)
abbrev abD:Ty:=(.pair tI nn)
abbrev abE:Ty:=(.pair tI (.pair tI (.pair tI (.pair f6 (.pair eI (.pair l5 (.pair eW (.pair eI (.pair tI ÿ)))))))))
abbrev abG:Ty:=(.pair tI eI)
abbrev abH:Ty:=(.pair Ä Ã)
abbrev abI:Ty:=(.pair m5 tI)
abbrev abJ:Ty:=(.pair .bool tI)
abbrev abK:Ty:=(.pair tI (.pair tI (.pair f6 (.pair eI (.pair l5 (.pair eW (.pair eI aby)))))))
abbrev abL:Ty:=(.pair Ä tI)
abbrev abM:Ty:=(.pair m5 m5)
abbrev abN:Ty:=(.pair tI Í)
abbrev abO:Ty:=(.pair tI (.pair tI abz))
abbrev abP:Ty:=(.pair abA m5)
abbrev abQ:Ty:=(.pair tI (.pair tI .bool))
abbrev abR:Ty:=(.pair tI amO)
abbrev abS:Ty:=(.slice abr)
abbrev abT:Ty:=(.pair Í m5)
abbrev abU:Ty:=(.pair abx Ã)
abbrev abV:Ty:=(.pair Ä Ä)
abbrev abW:Ty:=(.pair tI abG)
abbrev abX:Ty:=(.ptr Ã)
abbrev abY:Ty:=(.ptr a0V)
abbrev abZ:Ty:=(.pair m5 (.pair abA abM))
abbrev ab0:Ty:=(.pair Ã Ê)
abbrev ab1:Ty:=(.pair eI Ã)
abbrev ab2:Ty:=(.pair Í Ã)
abbrev ab3:Ty:=(.pair Ł .bool)
abbrev ab4:Ty:=(.pair (.int .u64) (.int .u64))
abbrev ab5:Ty:=(.pair m5 abP)
abbrev ab6:Ty:=(.pair Ä (.pair abu tI))
abbrev ab7:Ty:=(.pair tI (.pair tI ÿ))
end Go.Proofs.ZzM
end

noncomputable section
variable {ρ:Type}
set_option maxRecDepth 100000
namespace Go.Proofs.ZzM
open Go Go.Am
def ags (d:Val f6) (e:Int) (a:Int) (b:Val abu) (f:Int→Val abu→Option ρ) (g:Val abu→Option ρ):Option ρ :=
  ifb (ilt a e) (ü d a fun c=>ck (a+(1:Int)) fun h=>f h (aBs (k:=tI) (v:=Ð) c.1 c b)) (g b)
def asY (a:Val Ä) (k:Val abu→Option ρ):Option ρ :=
  Ñ (fun(b:(Val (.pair tI abu))) c=>ags a.2.1 (Ü a.2.1) b.1 b.2 (fun d e=>c (d,e)) (fun f=>k f)) ((0:Int),[])
def Μ (a:Val Ä):Option ((Val abu)):=asY a some
def aya (a:Val Ã) (b:Int) (c:Int) (k:Bool→Option ρ):Option ρ :=
  ifb (ile b a.1) (ifb (ile a.1 a.2) (k (ile a.2 c)) (k false)) (k false)
def Ž (a:Val Ã) (b:Int) (c:Int):Option (Bool):=aya a b c some
def ax4 (a:Int) (b:Int) (c:Int) (k:Bool→Option ρ):Option ρ :=
  ifb (ile b a) (k (ile a c)) (k false)
def ę (a:Int) (b:Int) (c:Int):Option (Bool):=ax4 a b c some
def aEI (a:Int) (k:Bool→Option ρ):Option ρ :=
  Â (ę a (0:Int) (20000:Int)) fun b=>k b
def agV (a:Int):Option (Bool):=aEI a some
def aLM (a:Int) (k:Int→Option ρ):Option ρ :=
  ifb (ilt a (0:Int)) (k (IntKind.wrap .u64 (0-(IntKind.wrap .u64 a)))) (k (IntKind.wrap .u64 a))
def ajK (a:Int):Option (Int):=aLM a some
def apL (b:Int) (a:Int) (c:Int→Int→Option ρ) (d:Int→Option ρ):Option ρ :=
  ifb (ine a (0:Int)) (ifb (û a 0) (none) (c a (Int.tmod b a))) (d b)
def aRU (b:Int) (c:Int) (k:Int→Option ρ):Option ρ :=
  Ñ (fun(a:Val ab4) d=>apL a.1 a.2 (fun e f=>d (e,f)) (fun g=>k g)) (b,c)
def aFf (a:Int) (b:Int):Option (Int):=aRU a b some
def aEp (a:Val Ã) (k:Bool→Option ρ):Option ρ :=
  ifb (ige a.2 (1:Int)) (ifb (ile a.2 (2147483647:Int)) (Â (ajK a.1) fun b=>ifb (ile b (2147483647:Int)) (Â (ajK a.1) fun c=>Â (ajK a.2) fun d=>Â (aFf c d) fun e=>k (ieq e (1:Int))) (k false)) (k false)) (k false)
def alj (a:Val Ã):Option (Bool):=aEp a some
def as1 (a:Val Ð) (k:Bool→Option ρ):Option ρ :=
  Â (alj a.2.2.2.2.1) fun b=>ifb b (Â (ę a.2.2.2.2.1.1 (-1000:Int) (1000:Int)) fun c=>ifb c (Â (ę a.1 (1:Int) (1099511627776:Int)) fun d=>ifb d (Â (agV a.2.1) fun e=>ifb e (Â (ę a.2.2.1 (1:Int) (1125899906842624:Int)) fun f=>ifb f (Â (Ž a.2.2.2.1 (-1073741824:Int) (1073741824:Int)) fun g=>ifb g (ifb (ile a.2.2.2.2.1.2 (100:Int)) (Â (ę a.2.2.2.2.2 (0:Int) (1048576:Int)) fun h=>k h) (k false)) (k false)) (k false)) (k false)) (k false)) (Â (ę a.1 (1:Int) (1099511627776:Int)) fun i=>ifb i (Â (agV a.2.1) fun j=>ifb j (Â (ę a.2.2.1 (1:Int) (1125899906842624:Int)) fun l=>ifb l (Â (Ž a.2.2.2.1 (-1073741824:Int) (1073741824:Int)) fun m=>ifb m (k false) (k false)) (k false)) (k false)) (k false))) (Â (ę a.1 (1:Int) (1099511627776:Int)) fun n=>ifb n (Â (agV a.2.1) fun o=>ifb o (Â (ę a.2.2.1 (1:Int) (1125899906842624:Int)) fun p=>ifb p (Â (Ž a.2.2.2.1 (-1073741824:Int) (1073741824:Int)) fun q=>ifb q (k false) (k false)) (k false)) (k false)) (k false))
def amD (a:Val Ð):Option (Bool):=as1 a some
def adR (e:Val f6) (f:Int) (g:Val f6) (a:Int) (b:Int→Option ρ) (c:Int→Option ρ) (h:Unit→Option ρ):Option ρ :=
  ifb (ilt a f) (ü e a fun d=>Â (amD d) fun i=>ifb (!i) (c (1:Int)) (ifb (igt a (0:Int)) (ck (a-(1:Int)) fun j=>ü g j fun k=>ifb (ile d.1 k.1) (c (6:Int)) (ck (a+(1:Int)) fun l=>b l)) (ck (a+(1:Int)) fun m=>b m))) (h ())
def ain (a:Val Ä) (k:Int→Option ρ):Option ρ :=
  Ñ (fun(b:Int) c=>adR a.2.1 (Ü a.2.1) a.2.1 b (fun d=>c d) (fun e=>k e) (fun _=>k (0:Int))) (0:Int)
def ů (a:Val Ä):Option (Int):=ain a some
def Ω (b:Val m5) (c:Int) (d:Int) (a:Int) (e:Int→Option ρ) (f:Int→Option ρ) (g:Unit→Option ρ):Option ρ :=
  ifb (ilt a d) (ü b a fun h=>ifb (ieq c h) (f a) (ck (a+(1:Int)) fun i=>e i)) (g ())
def afW (a:Val m5) (b:Int) (k:Int→Option ρ):Option ρ :=
  Ñ (fun(c:Int) d=>Ω a b (Ü a) c (fun e=>d e) (fun f=>k f) (fun _=>k (-1:Int))) (0:Int)
def aeg (a:Val m5) (b:Int):Option (Int):=afW a b some
def aeq (a:Val m5) (b:Int) (k:Bool→Option ρ):Option ρ :=
  Â (aeg a b) fun c=>k (ige c (0:Int))
def ġ (a:Val m5) (b:Int):Option (Bool):=aeq a b some
def amf (f:Val eW) (g:Int) (d:Int) (a:Int) (b:Val m5) (e:Int→Val m5→Option ρ) (h:Val m5→Option ρ):Option ρ :=
  ifb (ilt a g) (ü f a fun c=>Â (ġ c.2.2.1 d) fun i=>Â (ġ c.2.2.2.1 d) fun j=>ifb (!(i==j)) (ô (ì ((List.length b)+(List.length ([c.2.1])))) (ck (a+(1:Int)) fun k=>e k (b++([c.2.1])))) (ck (a+(1:Int)) fun l=>e l b)) (h b)
def ame (e:Val eI) (f:Int) (g:Int) (a:Int) (b:Val m5) (d:Int→Val m5→Option ρ) (h:Val m5→Option ρ):Option ρ :=
  ifb (ilt a f) (ü e a fun c=>ifb (ieq c.1 g) (ô (ì ((List.length b)+(List.length ([c.2])))) (ck (a+(1:Int)) fun i=>d i (b++([c.2])))) (ck (a+(1:Int)) fun j=>d j b)) (h b)
def aMf (a:Val Ä) (b:Val Ð) (k:Val m5→Option ρ):Option ρ :=
  Ñ (fun(d:Val abz) f=>amf a.2.2.2.2.1 (Ü a.2.2.2.2.1) b.1 d.1 d.2 (fun g h=>f (g,h)) (fun i=>Ñ (fun(e:Val abz) j=>ame a.2.2.2.2.2 (Ü a.2.2.2.2.2) b.1 e.1 e.2 (fun l m=>j (l,m)) (fun c=>ô (ì (List.length c)) (ô (ì (List.length (atq c))) (k (aqb (atq c)))))) ((0:Int),i))) ((0:Int),[b.2.1])
def ahE (a:Val Ä) (b:Val Ð):Option ((Val m5)):=aMf a b some
def ajC (e:Val m5) (f:Int) (c:Int) (a:Int) (b:Val eI) (g:Int→Val eI→Option ρ) (h:Val eI→Option ρ):Option ρ :=
  ifb (ilt a f) (ü e a fun d=>ô (ì ((List.length b)+(List.length ([(c,d)])))) (ck (a+(1:Int)) fun i=>g i (b++([(c,d)])))) (h b)
def ajD (f:Val f6) (g:Int) (h:Int) (i:Int) (j:Val f6) (k:Val eI) (l:Val l5) (m:Val eW) (n:Val eI) (a:Int) (b:Val eI) (o:Int→Val eI→Option ρ) (p:Val eI→Option ρ):Option ρ :=
  ifb (ilt a g) (ü f a fun c=>Â (ahE ((h,i),j,k,l,m,n) c) fun d=>Ñ (fun(e:Val abG) q=>ajC d (Ü d) c.1 e.1 e.2 (fun r s=>q (r,s)) (fun t=>ck (a+(1:Int)) fun u=>o u t)) ((0:Int),b)) (p b)
def aED (a:Val Ä) (k:Val eI→Option ρ):Option ρ :=
  Ñ (fun(b:Val abG) c=>ajD a.2.1 (Ü a.2.1) a.1.1 a.1.2 a.2.1 a.2.2.1 a.2.2.2.1 a.2.2.2.2.1 a.2.2.2.2.2 b.1 b.2 (fun d e=>c (d,e)) (fun f=>k f)) ((0:Int),[])
def aiF (a:Val Ä):Option ((Val eI)):=aED a some
def akb (a:Val abu) (b:Int) (c:Int) (k:Int→Option ρ):Option ρ :=
  aNg (k:=tI) (v:=Ð) b a (fun d=>ifb (ilt c d.2.1) (k (4:Int)) (k (0:Int))) (k (5:Int))
def adH (a:Val abu) (b:Int) (c:Int):Option (Int):=akb a b c some
def as0 (b:Int) (a:Int) (c:(Val (.ptr abu))) (k:Int→Option ρ):Option ρ :=
  Â (agV a) fun d=>ifb (!d) (k (1:Int)) (Â (adH c b a) fun e=>k e)
def ĸ (a:Int) (b:Int) (c:(Val (.ptr abu))):Option (Int):=as0 a b c some
def aeK (d:Val l5) (e:Int) (f:Int) (g:Int) (h:Int) (a:Int) (b:Int→Option ρ) (i:Int→Option ρ) (j:Unit→Option ρ):Option ρ :=
  ifb (ilt a e) (ü d a fun c=>ifb (ieq c.1 f) (ifb (ile c.2.1.1 h) (ifb (ile g c.2.1.2) (i a) (ck (a+(1:Int)) fun k=>b k)) (ck (a+(1:Int)) fun l=>b l)) (ck (a+(1:Int)) fun m=>b m)) (j ())
def Ż (d:Val eI) (e:Int) (f:Int) (g:Int) (h:Int) (a:Int) (b:Int→Option ρ) (i:Int→Option ρ) (j:Unit→Option ρ):Option ρ :=
  ifb (ilt a e) (ü d a fun c=>ifb (ieq c.1 f) (Â (ę c.2 g h) fun k=>ifb k (i a) (ck (a+(1:Int)) fun l=>b l)) (ck (a+(1:Int)) fun m=>b m)) (j ())
def amg (b:Val Ä) (e:Val abu) (c:Int) (k:Int→Option ρ):Option ρ :=
  ü b.2.2.2.1 c fun a=>Â (Ž a.2.1 (0:Int) (20000:Int)) fun f=>ifb (!f) (k (1:Int)) (Â (ę a.2.2 (0:Int) (1048576:Int)) fun g=>ifb (!g) (k (1:Int)) (Â (adH e a.1 a.2.1.1) fun d=>ifb (ine d (0:Int)) (k d) (ô ((ile (0:Int) c)&&(ile c (Ĩ b.2.2.2.1))) (Ñ (fun(h:Int) i=>aeK (List.take (Int.toNat c) b.2.2.2.1) (Ü (List.take (Int.toNat c) b.2.2.2.1)) a.1 a.2.1.1 a.2.1.2 h (fun j=>i j) (fun l=>ifb (ige l (0:Int)) (k (9:Int)) (Ñ (fun(m:Int) n=>Ż b.2.2.1 (Ü b.2.2.1) a.1 a.2.1.1 a.2.1.2 m (fun o=>n o) (fun p=>ifb (ige p (0:Int)) (k (9:Int)) (k (0:Int))) (fun _=>k (0:Int))) (0:Int))) (fun _=>Ñ (fun(q:Int) r=>Ż b.2.2.1 (Ü b.2.2.1) a.1 a.2.1.1 a.2.1.2 q (fun s=>r s) (fun t=>ifb (ige t (0:Int)) (k (9:Int)) (k (0:Int))) (fun _=>k (0:Int))) (0:Int))) (0:Int)))))
def Γ (a:Val Ä) (b:Val abu) (c:Int):Option (Int):=amg a b c some
def amd (c:Int) (d:Val m5) (b:Val m5) (a:Int) (e:Int→Option ρ) (f:Int→Option ρ) (g:Unit→Option ρ):Option ρ :=
  ifb (ilt a c) (ô ((ile (0:Int) a)&&(ilt a (Ĩ b))) (Ψ b (Int.toNat a) fun h=>Â (ġ d h) fun i=>ifb i (f a) (ck (a+(1:Int)) fun j=>e j))) (g ())
def aeY (f:Val m5) (b:Int) (c:Int) (a:Val m5) (d:Int→Int→Val m5→Option ρ) (g:Val abz→Option ρ):Option ρ :=
  ifb (ilt c (Ü a)) (ô ((ile (0:Int) c)&&(ilt c (Ĩ a))) (Ψ a (Int.toNat c) fun e=>Â (ġ f e) fun h=>ifb (!h) (ô ((ile (0:Int) b)&&(ilt b (Ĩ a))) (Ψ a (Int.toNat b) fun l=>ck (b+(1:Int)) fun i=>ck (c+(1:Int)) fun j=>d i j (List.set a (Int.toNat b) e))) (ck (c+(1:Int)) fun k=>d b k a))) (g (b,a))
def aL7 (b:Val m5) (e:Val m5) (k:Val m5→Option ρ):Option ρ :=
  ô (ì (List.length b)) (Ñ (fun(f:Int) g=>amd (Ü b) e b f (fun h=>g h) (fun c=>ifb (ieq c (-1:Int)) (k b) (ck (c+(1:Int)) fun i=>Ñ (fun(d:(Val (.pair tI abz))) j=>aeY e d.1 d.2.1 d.2.2 (fun l m n=>j (l,m,n)) (fun a=>ô ((ile (0:Int) a.1)&&(ile a.1 (Ĩ a.2))) (ô ((ile (0:Int) a.1)&&(ile a.1 (Ĩ (List.take (Int.toNat a.1) a.2++List.replicate (List.length a.2-(Int.toNat a.1)) (0:Int)++List.drop ((Int.toNat a.1)+(List.length a.2-(Int.toNat a.1))) a.2)))) (k (List.take (Int.toNat a.1) (List.drop 0 (List.take (Int.toNat a.1) a.2++List.replicate (List.length a.2-(Int.toNat a.1)) (0:Int)++List.drop ((Int.toNat a.1)+(List.length a.2-(Int.toNat a.1))) a.2))))))) (c,i,b))) (fun _=>k b)) (0:Int))
def ŝ (a:Val m5) (b:Val m5):Option ((Val m5)):=aL7 a b some
def Ī (d:Val abr) (e:Int) (b:Int) (a:Int) (f:Int→Int→Option ρ) (g:Int→Option ρ):Option ρ :=
  ifb (ilt a e) (ü d a fun h=>ck (b+(Ü h)) fun c=>ifb (ilt c (0:Int)) (none) (ck (a+(1:Int)) fun i=>f c i)) (g b)
def í (d:Val abr) (e:Int) (a:Int) (b:Val m5) (f:Int→Val m5→Option ρ) (g:Val m5→Option ρ):Option ρ :=
  ifb (ilt a e) (ü d a fun c=>ô (ì ((List.length b)+(List.length c))) (ck (a+(1:Int)) fun h=>f h (b++c))) (g b)
def adP (a:Val abr) (k:Val m5→Option ρ):Option ρ :=
  Ñ (fun(c:Val Ã) g=>Ī a (Ü a) c.1 c.2 (fun h i=>g (h,i)) (fun d=>ifb (ilt d (0:Int)) (none) (ck (d-(0:Int)) fun b=>ifb (igt b (0:Int)) (ô ((ilt (0:Int) b)&&(ì (Int.toNat b))) (ô (ile (0:Int) (Ĩ (List.replicate (Int.toNat b) (0:Int)))) (Ñ (fun(e:Val abz) j=>í a (Ü a) e.1 e.2 (fun l m=>j (l,m)) (fun n=>k n)) ((0:Int),(List.take 0 (List.replicate (Int.toNat b) (0:Int))))))) (Ñ (fun(f:Val abz) o=>í a (Ü a) f.1 f.2 (fun p q=>o (p,q)) (fun r=>k r)) ((0:Int),[]))))) ((0:Int),(0:Int))
def é (a:Val abr):Option ((Val m5)):=adP a some
def ahx (e:Val m5) (f:Val m5) (g:Int) (a:Int) (b:Int→Option ρ) (c:Bool→Option ρ) (h:Unit→Option ρ):Option ρ :=
  ifb (ilt a g) (ü f a fun d=>Â (ę d (1:Int) (1099511627776:Int)) fun i=>ifb (!i) (c false) (ifb (igt a (0:Int)) (ck (a-(1:Int)) fun j=>ü e j fun k=>ifb (ile d k) (c false) (ck (a+(1:Int)) fun l=>b l)) (ck (a+(1:Int)) fun m=>b m))) (h ())
def ax9 (a:Val m5) (k:Bool→Option ρ):Option ρ :=
  Ñ (fun(b:Int) c=>ahx a a (Ü a) b (fun d=>c d) (fun e=>k e) (fun _=>k (ile (Ü a) (6:Int)))) (0:Int)
def agf (a:Val m5):Option (Bool):=ax9 a some
def amh (d:Val l5) (e:Int) (f:Int) (g:Int) (a:Int) (c:Int→Option ρ) (h:Int→Option ρ) (i:Unit→Option ρ):Option ρ :=
  ifb (ilt a e) (ü d a fun b=>ifb (ieq b.1 f) (Â (ę g b.2.1.1 b.2.1.2) fun j=>ifb j (h a) (ck (a+(1:Int)) fun k=>c k)) (ck (a+(1:Int)) fun l=>c l)) (i ())
def aMh (a:Val Ä) (c:Int) (d:Int) (k:Val ab3→Option ρ):Option ρ :=
  Ñ (fun(e:Int) f=>amh a.2.2.2.1 (Ü a.2.2.2.1) c d e (fun g=>f g) (fun b=>ifb (ilt b (0:Int)) (k (((0:Int),((0:Int),(0:Int)),(0:Int)),false)) (ü a.2.2.2.1 b fun h=>k (h,true))) (fun _=>k (((0:Int),((0:Int),(0:Int)),(0:Int)),false))) (0:Int)
def ap9 (a:Val Ä) (b:Int) (c:Int):Option ((Val ab3)):=aMh a b c some
def adr (b:Val eW) (c:Int) (d:Int) (a:Int) (e:Int→Option ρ) (f:Int→Option ρ) (g:Unit→Option ρ):Option ρ :=
  ifb (ilt a c) (ü b a fun h=>ifb (ieq h.1 d) (f a) (ck (a+(1:Int)) fun i=>e i)) (g ())
def adq (c:Val abu) (b:Int) (d:Val m5) (e:Int) (f:Int) (a:Int) (g:Int→Option ρ) (h:Int→Option ρ) (i:Unit→Option ρ):Option ρ :=
  ifb (ilt a e) (ü d a fun j=>Â (adH c j f) fun k=>ifb (ieq k b) (h b) (ck (a+(1:Int)) fun l=>g l)) (i ())
def Ņ (d:Val abu) (b:Val m5) (e:Int) (f:Int) (c:Val m5) (a:Int) (g:Int→Option ρ) (h:Int→Option ρ) (i:Unit→Option ρ):Option ρ :=
  ifb (ilt a e) (ô ((ile (0:Int) a)&&(ilt a (Ĩ c))) (Ψ c (Int.toNat a) fun j=>Ñ (fun(k:Int) l=>adq d j b (Ü b) f k (fun m=>l m) (fun n=>h n) (fun _=>ck (a+(1:Int)) fun o=>g o)) (0:Int))) (i ())
def ń (b:Val m5) (c:Int) (d:Int) (e:Int) (f:Val f6) (g:Val eI) (h:Val l5) (i:Val eW) (j:Val eI) (k:Int) (a:Int) (l:Int→Option ρ) (m:Int→Option ρ) (n:Unit→Option ρ):Option ρ :=
  ifb (ilt a c) (ü b a fun o=>Â (ap9 ((d,e),f,g,h,i,j) o k) fun p=>ifb p.2 (m (9:Int)) (ck (a+(1:Int)) fun q=>l q)) (n ())
def ag6 (b:Val Ä) (f:Val abu) (c:Int) (k:Int→Option ρ):Option ρ :=
  ü b.2.2.2.2.1 c fun a=>Â (ę a.1 (1:Int) (1099511627776:Int)) fun l=>ifb (!l) (k (1:Int)) (Â (agV a.2.1) fun m=>ifb (!m) (k (1:Int)) (Â (ę a.2.2.2.2.1 (-1125899906842624:Int) (1125899906842624:Int)) fun n=>ifb (!n) (k (1:Int)) (Â (ę a.2.2.2.2.2.1 (0:Int) (1073741824:Int)) fun o=>ifb (!o) (k (1:Int)) (Â (Ž a.2.2.2.2.2.2 (-10000:Int) (10000:Int)) fun p=>ifb (!p) (k (1:Int)) (Â (agf a.2.2.1) fun q=>ifb (!q) (k (1:Int)) (Â (agf a.2.2.2.1) fun r=>ifb (!r) (k (1:Int)) (ô ((ile (0:Int) c)&&(ile c (Ĩ b.2.2.2.2.1))) (Ñ (fun(s:Int) t=>adr (List.take (Int.toNat c) b.2.2.2.2.1) (Ü (List.take (Int.toNat c) b.2.2.2.2.1)) a.1 s (fun u=>t u) (fun v=>ifb (ige v (0:Int)) (k (6:Int)) (Â (é ([a.2.2.1,a.2.2.2.1])) fun d=>Ñ (fun(w:Int) x=>Ņ f d (Ü ([(5:Int),(4:Int)])) a.2.1 ([(5:Int),(4:Int)]) w (fun y=>x y) (fun z=>k z) (fun _=>Ñ (fun(A:Int) B=>ń d (Ü d) b.1.1 b.1.2 b.2.1 b.2.2.1 b.2.2.2.1 b.2.2.2.2.1 b.2.2.2.2.2 a.2.1 A (fun C=>B C) (fun D=>k D) (fun _=>Â (ŝ a.2.2.1 a.2.2.2.1) fun g=>Â (ŝ a.2.2.2.1 a.2.2.1) fun h=>ifb (igt (Ü g) (1:Int)) (k (1:Int)) (ifb (igt (Ü h) (1:Int)) (k (1:Int)) (ck ((Ü g)+(Ü h)) fun E=>ifb (ieq E (0:Int)) (k (1:Int)) (k (0:Int)))))) (0:Int))) (0:Int))) (fun _=>Â (é ([a.2.2.1,a.2.2.2.1])) fun e=>Ñ (fun(F:Int) G=>Ņ f e (Ü ([(5:Int),(4:Int)])) a.2.1 ([(5:Int),(4:Int)]) F (fun H=>G H) (fun I=>k I) (fun _=>Ñ (fun(J:Int) K=>ń e (Ü e) b.1.1 b.1.2 b.2.1 b.2.2.1 b.2.2.2.1 b.2.2.2.2.1 b.2.2.2.2.2 a.2.1 J (fun L=>K L) (fun M=>k M) (fun _=>Â (ŝ a.2.2.1 a.2.2.2.1) fun i=>Â (ŝ a.2.2.2.1 a.2.2.1) fun j=>ifb (igt (Ü i) (1:Int)) (k (1:Int)) (ifb (igt (Ü j) (1:Int)) (k (1:Int)) (ck ((Ü i)+(Ü j)) fun N=>ifb (ieq N (0:Int)) (k (1:Int)) (k (0:Int)))))) (0:Int))) (0:Int))) (0:Int)))))))))
def ĺ (a:Val Ä) (b:Val abu) (c:Int):Option (Int):=ag6 a b c some
def agQ (b:Val Ä) (s:Val abu):Option (List Int) :=
  Â (aCv (fun u=>ĸ u.1 u.2 s) (b.2.2.1:List (Int×Int))) fun a=>Â (aCv (fun i=>Γ b s i) (anu (b.2.2.2.1:List (Val Ł)).length)) fun c =>
    Â (aCv (fun i=>ĺ b s i) (anu (b.2.2.2.2.1:List (Val Ê)).length)) fun d=>Â (aCv (fun u=>ĸ u.1 u.2 s) (b.2.2.2.2.2:List (Int×Int))) fun e=>some (a++(c++(d++e)))
def aEO (a:Val Ä) (k:Int→Option ρ):Option ρ :=
  Â (Ž a.1 (0:Int) (1000000:Int)) fun d=>ifb (!d) (k (1:Int)) (ifb (igt (Ü a.2.1) (12:Int)) (k (2:Int)) (ifb (igt (Ü a.2.2.1) (40:Int)) (k (2:Int)) (ifb (igt (Ü a.2.2.2.1) (12:Int)) (k (2:Int)) (ifb (igt (Ü a.2.2.2.2.1) (40:Int)) (k (2:Int)) (ifb (igt (Ü a.2.2.2.2.2) (10:Int)) (k (2:Int)) (Â (ů a) fun b=>ifb (ine b (0:Int)) (k b) (Â (Μ a) fun e=>aNJ (agQ a e) (fun f=>k f) (Â (aiF a) fun c=>ifb (igt (Ü c) (59:Int)) (k (2:Int)) (ck ((2:Int)*(Ü a.2.1)) fun g=>ck ((Ü c)-(Ü a.2.1)) fun h=>ck ((2:Int)*h) fun i=>ck (g+i) fun j=>ck ((2:Int)*(Ü a.2.2.2.2.1)) fun l=>ck (j+l) fun m=>ifb (igt m (300:Int)) (k (2:Int)) (k (0:Int)))))))))))
def ö (a:Val Ä):Option (Int):=aEO a some
def apQ (l:List (Val Ð)) (m:List (Int×Bool)):Option (List (Val Ð)) :=
  ô (ì l.length) (some (l.filter fun g=>(akz (k:=tI) (v:=.bool) g.1 m).getD false))
def akR (c:Val m5) (d:Int) (a:Int) (b:Val abp) (e:Int→Val abp→Option ρ) (f:Val abp→Option ρ):Option ρ :=
  ifb (ilt a d) (ü c a fun g=>ck (a+(1:Int)) fun h=>e h (aBs (k:=tI) (v:=.bool) g true b)) (f b)
def apI (j:Val eI) (l:Int) (f:Val f6) (g:Val eW) (b:Int) (c:Val abp) (d:Val abp) (e:Int→Val abp→Val abp→Option ρ) (m:(Val (.pair abp abp))→Option ρ):Option ρ :=
  ifb (ilt b l) (ü j b fun a=>ifb (û a.1 0) (none) (ifb (û a.1 1) (ü f a.2 fun n=>ck (b+(1:Int)) fun o=>e o (aBs (k:=tI) (v:=.bool) n.1 true c) d) (ifb (û a.1 2) (ü f a.2 fun p=>ck (b+(1:Int)) fun q=>e q (aBs (k:=tI) (v:=.bool) p.1 true c) d) (ô (û a.1 3) (ü g a.2 fun r=>ü g a.2 fun s=>Â (é ([r.2.2.1,s.2.2.2.1])) fun h=>Ñ (fun(i:(Val (.pair tI abp))) t=>akR h (Ü h) i.1 i.2 (fun u w=>t (u,w)) (fun x=>ck (b+(1:Int)) fun y=>e y x (aBs (k:=tI) (v:=.bool) a.2 true d))) ((0:Int),c)))))) (m (c,d))
def akQ (c:Val eI) (d:Int) (a:Int) (b:Val abp) (e:Int→Val abp→Option ρ) (f:Val abp→Option ρ):Option ρ :=
  ifb (ilt a d) (ü c a fun g=>ck (a+(1:Int)) fun h=>e h (aBs (k:=tI) (v:=.bool) g.1 true b)) (f b)
def akP (e:Val eI) (f:Int) (g:Val abp) (a:Int) (b:Val eI) (c:Int→Val eI→Option ρ) (h:Val eI→Option ρ):Option ρ :=
  ifb (ilt a f) (ü e a fun d=>aNg (k:=tI) (v:=.bool) d.1 g (fun i=>ifb i (ô (ì ((List.length b)+(List.length ([d])))) (ck (a+(1:Int)) fun j=>c j (b++([d])))) (ck (a+(1:Int)) fun l=>c l b)) (ck (a+(1:Int)) fun m=>c m b)) (h b)
def akO (e:Val l5) (f:Int) (g:Val abp) (a:Int) (b:Val l5) (c:Int→Val l5→Option ρ) (h:Val l5→Option ρ):Option ρ :=
  ifb (ilt a f) (ü e a fun d=>aNg (k:=tI) (v:=.bool) d.1 g (fun i=>ifb i (ô (ì ((List.length b)+(List.length ([d])))) (ck (a+(1:Int)) fun j=>c j (b++([d])))) (ck (a+(1:Int)) fun l=>c l b)) (ck (a+(1:Int)) fun m=>c m b)) (h b)
def akN (e:Val eW) (f:Int) (g:Val abp) (a:Int) (b:Val eW) (d:Int→Val eW→Option ρ) (h:Val eW→Option ρ):Option ρ :=
  ifb (ilt a f) (ü e a fun c=>aNg (k:=tI) (v:=.bool) a g (fun i=>ifb i (ô (ì (List.length c.2.2.1)) (ô (ì (List.length c.2.2.2.1)) (ô (ì ((List.length b)+(List.length ([c])))) (ck (a+(1:Int)) fun j=>d j (b++([c])))))) (ck (a+(1:Int)) fun l=>d l b)) (ck (a+(1:Int)) fun m=>d m b)) (h b)
def agJ (p:Val abW) (v:Val abo) (k:Val Ä→Option ρ):Option ρ :=
  Ñ (fun(a:Val abG) d=>akP v.2.2.2.1 (Ü v.2.2.2.1) v.2.2.2.2.2.2.2.2.2.2.2.2.2.2.2.2.2.2.2.2.2.1 a.1 a.2 (fun e f=>d (e,f)) (fun g=>Ñ (fun(b:(Val (.pair tI l5))) h=>akO v.2.2.2.2.1 (Ü v.2.2.2.2.1) v.2.2.2.2.2.2.2.2.2.2.2.2.2.2.2.2.2.2.2.2.2.1 b.1 b.2 (fun i j=>h (i,j)) (fun l=>Ñ (fun(c:(Val (.pair tI eW))) m=>akN v.2.2.2.2.2.1 (Ü v.2.2.2.2.2.1) v.2.2.2.2.2.2.2.2.2.2.2.2.2.2.2.2.2.2.2.2.2.2.1 c.1 c.2 (fun n o=>m (n,o)) (fun q=>k ((p.1,p.2.1),v.2.2.2.2.2.2.2.2.2.2.2.2.2.2.2.2.2.2.2.2.2.2.2,g,l,q,p.2.2))) ((0:Int),[]))) ((0:Int),[]))) ((0:Int),[])
def au3 (a:Val Ä) (d:Val eI) (b:Val eI) (kA:Val abW→Val abo→Option ρ):Option ρ :=
  Ñ (fun(c:(Val (.pair tI (.pair abp abp)))) g=>apI d (Ü d) a.2.1 a.2.2.2.2.1 c.1 c.2.1 c.2.2 (fun h i j=>g (h,i,j)) (fun e=>Ñ (fun(f:(Val (.pair tI abp))) k=>akQ b (Ü b) f.1 f.2 (fun l m=>k (l,m)) (fun n=>kA (a.1.1,a.1.2,b) (a.1.1,a.1.2,a.2.1,a.2.2.1,a.2.2.2.1,a.2.2.2.2.1,a.2.2.2.2.2,(0:Int),(0:Int),[],[],[],[],[],a.1.1,a.1.2,a.2.1,a.2.2.1,a.2.2.2.1,a.2.2.2.2.1,a.2.2.2.2.2,n,e.2,[]))) ((0:Int),e.1))) ((0:Int),[],[])
def aWY (a:Val Ä) (b:Val eI) (c:Val eI) (k:Val Ä→Option ρ):Option ρ :=
  au3 a b c fun p v=>Â (apQ v.2.2.2.2.2.2.2.2.2.2.2.2.2.2.2.2.1 v.2.2.2.2.2.2.2.2.2.2.2.2.2.2.2.2.2.2.2.2.2.1) fun z=>agJ p (v.1,v.2.1,v.2.2.1,v.2.2.2.1,v.2.2.2.2.1,v.2.2.2.2.2.1,v.2.2.2.2.2.2.1,v.2.2.2.2.2.2.2.1,v.2.2.2.2.2.2.2.2.1,v.2.2.2.2.2.2.2.2.2.1,v.2.2.2.2.2.2.2.2.2.2.1,v.2.2.2.2.2.2.2.2.2.2.2.1,v.2.2.2.2.2.2.2.2.2.2.2.2.1,v.2.2.2.2.2.2.2.2.2.2.2.2.2.1,v.2.2.2.2.2.2.2.2.2.2.2.2.2.2.1,v.2.2.2.2.2.2.2.2.2.2.2.2.2.2.2.1,v.2.2.2.2.2.2.2.2.2.2.2.2.2.2.2.2.1,v.2.2.2.2.2.2.2.2.2.2.2.2.2.2.2.2.2.1,v.2.2.2.2.2.2.2.2.2.2.2.2.2.2.2.2.2.2.1,v.2.2.2.2.2.2.2.2.2.2.2.2.2.2.2.2.2.2.2.1,v.2.2.2.2.2.2.2.2.2.2.2.2.2.2.2.2.2.2.2.2.1,v.2.2.2.2.2.2.2.2.2.2.2.2.2.2.2.2.2.2.2.2.2.1,v.2.2.2.2.2.2.2.2.2.2.2.2.2.2.2.2.2.2.2.2.2.2.1,z) k
def aFe (a:Val Ä) (b:Val eI) (c:Val eI):Option (Val Ä):=aWY a b c some
end Go.Proofs.ZzM
end

noncomputable section
variable {ρ:Type}
set_option maxRecDepth 100000
namespace Go.Proofs.ZzM
open Go Go.Am
def aw8 (a:Val Ê) (k:Bool→Option ρ):Option ρ :=
  ifb (ile (Ü a.2.2.1) (10:Int)) (k (ile (Ü a.2.2.2.1) (10:Int))) (k false)
def apV (a:Val Ê):Option (Bool):=aw8 a some
def aly (b:Val eW) (a:Int) (d:Int→Option ρ) (e:Bool→Option ρ) (c:Unit→Option ρ):Option ρ :=
  ifb (ilt a (Ü b)) (ifb (ilt a (50:Int)) (ü b a fun f=>Â (apV f) fun g=>ifb (!g) (e false) (ck (a+(1:Int)) fun h=>d h)) (c ())) (c ())
def aKl (a:Val Ä) (k:Bool→Option ρ):Option ρ :=
  Ñ (fun(b:Int) c=>aly a.2.2.2.2.1 b (fun d=>c d) (fun e=>k e) (fun _=>ifb (ile (Ü a.2.1) (14:Int)) (ifb (ile (Ü a.2.2.1) (45:Int)) (ifb (ile (Ü a.2.2.2.1) (14:Int)) (ifb (ile (Ü a.2.2.2.2.1) (42:Int)) (k (ile (Ü a.2.2.2.2.2) (12:Int))) (k false)) (k false)) (k false)) (k false))) (0:Int)
def apU (a:Val Ä):Option (Bool):=aKl a some
def amc (f:Int) (g:Int) (h:Val l5) (i:Int) (j:Int) (b:Int) (a:Int) (d:Int→Int→Option ρ) (k:Int→Option ρ):Option ρ :=
  ifb (ilt a i) (ü h a fun c=>ck (g-(1:Int)) fun l=>ck ((aPV c.2.1.2 l)-(aFZ c.2.1.1 f)) fun m=>ck (m+(1:Int)) fun e=>ifb (ieq c.1 j) (ifb (igt e (0:Int)) (ck (e*c.2.2) fun n=>ck (b+n) fun o=>ck (a+(1:Int)) fun p=>d o p) (ck (a+(1:Int)) fun q=>d b q)) (ck (a+(1:Int)) fun r=>d b r)) (k b)
def amb (e:Int) (f:Int) (g:Val eI) (h:Int) (i:Int) (a:Int) (b:Val m5) (d:Int→Val m5→Option ρ) (j:Val m5→Option ρ):Option ρ :=
  ifb (ilt a h) (ü g a fun c=>ifb (ieq c.1 i) (ck (f-(1:Int)) fun k=>Â (ę c.2 e k) fun l=>ifb l (ô (ì ((List.length b)+(List.length ([c.2])))) (ck (a+(1:Int)) fun m=>d m (b++([c.2])))) (ck (a+(1:Int)) fun n=>d n b)) (ck (a+(1:Int)) fun o=>d o b)) (j b)
def aL4 (a:Val Ä) (b:Val Ð) (d:Int) (e:Int) (k:Int→Option ρ):Option ρ :=
  Ñ (fun(f:Val Ã) h=>amc d e a.2.2.2.1 (Ü a.2.2.2.1) b.1 f.1 f.2 (fun i j=>h (i,j)) (fun l=>Ñ (fun(g:Val abz) m=>amb d e a.2.2.1 (Ü a.2.2.1) b.1 g.1 g.2 (fun n o=>m (n,o)) (fun c=>ô (ì (List.length c)) (ô (ì (List.length (atq c))) (ck ((Ü (aqb (atq c)))*b.2.2.2.2.2) fun p=>ck (l+p) fun q=>k q)))) ((0:Int),[]))) ((0:Int),(0:Int))
def ap8 (a:Val Ä) (b:Val Ð) (c:Int) (d:Int):Option (Int):=aL4 a b c d some
def Ģ (c:Val eI) (d:Int) (e:Int) (f:Int) (a:Int) (g:Int→Option ρ) (h:Int→Option ρ) (i:Unit→Option ρ):Option ρ :=
  ifb (ilt a d) (ü c a fun b=>ifb ((û e b.1)&&((û f b.2)&&true)) (h a) (ck (a+(1:Int)) fun j=>g j)) (i ())
def ū (a:Val eI) (b:Val Ã) (k:Int→Option ρ):Option ρ :=
  Ñ (fun(c:Int) d=>Ģ a (Ü a) b.1 b.2 c (fun e=>d e) (fun f=>k f) (fun _=>k (-1:Int))) (0:Int)
def ø (a:Val eI) (b:Val Ã):Option (Int):=ū a b some
def aoM (b:Val abY) (a:Val m5) (c:Int) (k:Int→Option ρ):Option ρ :=
  ifb (ieq (Ü a) (0:Int)) (k (0:Int)) (ü a (0:Int) fun d=>Â (ø b.2.1 (d,c)) fun e=>ck (e+(1:Int)) fun f=>k f)
def adk (a:Val abY) (b:Val m5) (c:Int):Option (Int):=aoM a b c some
def ag5 (b:Val abu) (a:Val m5) (k:Val Ã→Option ρ):Option ρ :=
  ifb (ieq (Ü a) (0:Int)) (k ((0:Int),(1:Int))) (ü a (0:Int) fun c=>aNg (k:=tI) (v:=Ð) c b (fun d=>k d.2.2.2.2.1) (k ((0:Int),(0:Int))))
def adF (a:Val abu) (b:Val m5):Option (Val Ã):=ag5 a b some
def ajy (b:Val eI) (c:Int) (a:Int) (d:Int→Option ρ) (e:Int→Option ρ) (f:Unit→Option ρ):Option ρ :=
  ifb (ilt a c) (ü b a fun g=>Â (alj g) fun h=>ifb (!h) (e (1:Int)) (ck (a+(1:Int)) fun i=>d i)) (f ())
def aEi (a:Val eI) (k:Int→Option ρ):Option ρ :=
  Ñ (fun(b:Int) c=>ajy a (Ü a) b (fun d=>c d) (fun e=>k e) (fun _=>k (0:Int))) (0:Int)
def aeC (a:Val eI):Option (Int):=aEi a some
def asW (d:Int) (e:Int) (k:Val į→Option ρ):Option ρ :=
  Â (ajK d) fun b=>Â (ajK e) fun c=>Â (aFf b c) fun a=>ifb (û a 0) (none) (ifb (û a 0) (none) (ifb (igt (IntKind.wrap .u64 (Int.tdiv b a)) (2147483647:Int)) (k (((0:Int),(0:Int)),(3:Int))) (ifb (igt (IntKind.wrap .u64 (Int.tdiv c a)) (2147483647:Int)) (k (((0:Int),(0:Int)),(3:Int))) (ifb (!((ilt d (0:Int))==(ilt e (0:Int)))) (ck (0-(IntKind.wrap .i64 (IntKind.wrap .u64 (Int.tdiv b a)))) fun f=>k ((f,(IntKind.wrap .i64 (IntKind.wrap .u64 (Int.tdiv c a)))),(0:Int))) (k (((IntKind.wrap .i64 (IntKind.wrap .u64 (Int.tdiv b a))),(IntKind.wrap .i64 (IntKind.wrap .u64 (Int.tdiv c a)))),(0:Int)))))))
def aiE (a:Int) (b:Int):Option (Val į):=asW a b some
def aRY (a:Val Ã) (b:Val Ã) (k:Val į→Option ρ):Option ρ :=
  Â (aeC ([a,b])) fun c=>ifb (ine c (0:Int)) (k (((0:Int),(0:Int)),c)) (ck (a.1*b.2) fun e=>ck (b.1*a.2) fun f=>ck (e-f) fun g=>ck (a.2*b.2) fun h=>Â (aiE g h) fun d=>k (d.1,d.2))
def aMH (a:Val Ã) (b:Val Ã):Option (Val į):=aRY a b some
def al6 (a:Val Ã) (b:Val Ã) (k:Val Ã→Option ρ):Option ρ :=
  Â (aMH a b) fun c=>k c.1
def amC (a:Val Ã) (b:Val Ã):Option (Val Ã):=al6 a b some
def aRW (a:Val Ã) (b:Val Ã) (k:Int→Option ρ):Option ρ :=
  ck (a.1*b.2) fun c=>ck (b.1*a.2) fun d=>ifb ((û a.1 b.1)&&((û a.2 b.2)&&true)) (k (0:Int)) (ifb (ilt c d) (k (-1:Int)) (ifb (igt c d) (k (1:Int)) (k (0:Int))))
def aFg (a:Val Ã) (b:Val Ã):Option (Int):=aRW a b some
def aka (a:Val å) (k:Bool→Option ρ):Option ρ :=
  Â (aeC ([a.1,a.2])) fun b=>ifb (ieq b (0:Int)) (Â (aFg a.1 a.2) fun c=>k (ile c (0:Int))) (k false)
def akg (a:Val å):Option (Bool):=aka a some
def aR0 (a:Val Ã) (b:Val Ã) (k:Val į→Option ρ):Option ρ :=
  Â (aeC ([a,b])) fun c=>ifb (ine c (0:Int)) (k (((0:Int),(0:Int)),c)) (ck (a.1*b.1) fun e=>ck (a.2*b.2) fun f=>Â (aiE e f) fun d=>k (d.1,d.2))
def aFi (a:Val Ã) (b:Val Ã):Option (Val į):=aR0 a b some
def aEr (c:Val å) (d:Val Ã) (k:Val ako→Option ρ):Option ρ :=
  Â (akg c) fun e=>ifb (!e) (k ((((0:Int),(0:Int)),(0:Int),(0:Int)),(1:Int))) (Â (alj d) fun f=>ifb (!f) (k ((((0:Int),(0:Int)),(0:Int),(0:Int)),(1:Int))) (Â (aFi d c.1) fun a=>ifb (ine a.2 (0:Int)) (k ((((0:Int),(0:Int)),(0:Int),(0:Int)),a.2)) (Â (aFi d c.2) fun b=>ifb (ine b.2 (0:Int)) (k ((((0:Int),(0:Int)),(0:Int),(0:Int)),b.2)) (Â (aFg a.1 b.1) fun g=>ifb (igt g (0:Int)) (k ((b.1,a.1),(0:Int))) (k ((a.1,b.1),(0:Int)))))))
def aFh (a:Val å) (b:Val Ã):Option (Val ako):=aEr a b some
def al5 (b:Val Ã) (a:Val Ã) (k:Val å→Option ρ):Option ρ :=
  Â (aFh ((a.1,(1:Int)),a.2,(1:Int)) b) fun c=>k c.1
def ahD (a:Val Ã) (b:Val Ã):Option (Val å):=al5 a b some
def ayb (c:Val Ä) (a:Val Ê) (k:Val å→Option ρ):Option ρ :=
  Â (Μ c) fun b=>Â (ŝ a.2.2.1 a.2.2.2.1) fun d=>Â (adF b d) fun e=>Â (ŝ a.2.2.2.1 a.2.2.1) fun f=>Â (adF b f) fun g=>Â (amC e g) fun h=>Â (ahD h a.2.2.2.2.2.2) fun i=>k i
def ahV (a:Val Ä) (b:Val Ê):Option (Val å):=ayb a b some
def aEK (a:Val Ä) (b:Val Ê) (k:Val Ã→Option ρ):Option ρ :=
  ck ((Ü b.2.2.1)-(1:Int)) fun c=>ck ((Ü b.2.2.2.1)-(1:Int)) fun d=>ck ((aFZ (0:Int) c)*a.1.1) fun e=>ck ((aFZ (0:Int) d)*a.1.2) fun f=>ck (e-f) fun g=>ck ((aFZ (0:Int) c)*a.1.2) fun h=>ck ((aFZ (0:Int) d)*a.1.1) fun i=>ck (h-i) fun j=>k (g,j)
def alm (a:Val Ä) (b:Val Ê):Option (Val Ã):=aEK a b some
def avy (b:Int) (a:Int) (k:Int→Option ρ):Option ρ :=
  ifb (û a 0) (none) (ck (Int.tdiv b a) fun c=>ifb (û a 0) (none) (ifb (ilt (Int.tmod b a) (0:Int)) (ck (c-(1:Int)) fun d=>k d) (k c)))
def ali (a:Int) (b:Int):Option (Int):=avy a b some
def aLS (a:Val Ã) (k:Val Ã→Option ρ):Option ρ :=
  Â (aeC ([a])) fun b=>ifb (ine b (0:Int)) (k ((0:Int),b)) (ck (0-a.1) fun c=>Â (ali c a.2) fun d=>ck (0-d) fun e=>k (e,(0:Int)))
def awr (a:Val Ã):Option (Val Ã):=aLS a some
def aEu (a:Val Ã) (k:Val Ã→Option ρ):Option ρ :=
  Â (aeC ([a])) fun b=>ifb (ine b (0:Int)) (k ((0:Int),b)) (Â (ali a.1 a.2) fun c=>k (c,(0:Int)))
def apd (a:Val Ã):Option (Val Ã):=aEu a some
def aLW (b:Val Ä) (a:Val Ê) (k:Val Ã→Option ρ):Option ρ :=
  Â (ahV b a) fun c=>Â (alm b a) fun d=>Â (apd c.2) fun e=>Â (awr c.1) fun f=>ck (a.2.2.2.2.1-a.2.2.2.2.2.1) fun g=>ck (g-d.2) fun h=>ck (h-e.1) fun i=>ck (a.2.2.2.2.1+a.2.2.2.2.2.1) fun j=>ck (j-d.1) fun l=>ck (l-f.1) fun m=>k (i,m)
def amB (a:Val Ä) (b:Val Ê):Option (Val Ã):=aLW a b some
def al9 (b:Int) (e:Val m5) (h:Int) (j:Int) (k:Int) (l:Val f6) (m:Val eI) (n:Val l5) (o:Val eW) (p:Val eI) (q:Int) (r:Int) (s:Int) (t:Int) (u:Int) (v:Int) (w:Int) (x:Int) (a:Int) (f:Val wi) (g:Val eI) (y:Int→Val wi→Val eI→Option ρ) (z:Val amO→Option ρ):Option ρ :=
  ifb (ilt a (Ü e)) (ck (h+a) fun A=>ck (A-(1:Int)) fun c=>ck (h+a) fun d=>ck (a-(1:Int)) fun B=>ü e B fun C=>ü e a fun D=>Â (ap8 ((j,k),l,m,n,o,p) (q,r,s,(t,u),(v,w),x) C D) fun E=>ck (0-E) fun F=>ck (0-F) fun i=>ô (ì ((List.length f)+(List.length ([(c,d,(0:Int)),(d,c,i)])))) (ô (ì ((List.length g)+(List.length ([((2:Int),b),((2:Int),b)])))) (ck (a+(1:Int)) fun G=>y G (f++([(c,d,(0:Int)),(d,c,i)])) (g++([((2:Int),b),((2:Int),b)]))))) (z (f,g))
def ama (q:Val f6) (r:Int) (f:Int) (g:Int) (h:Val f6) (i:Val eI) (j:Val l5) (k:Val eW) (l:Val eI) (s:Val eI) (t:Int) (b:Int) (d:Val wi) (e:Val eI) (u:Int→Val wi→Val eI→Option ρ) (v:Val amO→Option ρ):Option ρ :=
  ifb (ilt b r) (ü q b fun a=>Â (ahE ((f,g),h,i,j,k,l) a) fun w=>Â (adk (((f,g),h,i,j,k,l),s,(t,d),e) ([a.1]) a.2.1) fun c=>ck (a.2.2.1+a.2.2.2.1.1) fun x=>ck (a.2.2.1+a.2.2.2.1.2) fun n=>ck (0-x) fun o=>ô (ì ((List.length d)+(List.length ([((0:Int),c,n),(c,(0:Int),o)])))) (ô (ì ((List.length e)+(List.length ([((1:Int),b),((1:Int),b)])))) (Ñ (fun(m:Val abR) y=>al9 b w c f g h i j k l a.1 a.2.1 a.2.2.1 a.2.2.2.1.1 a.2.2.2.1.2 a.2.2.2.2.1.1 a.2.2.2.2.1.2 a.2.2.2.2.2 m.1 m.2.1 m.2.2 (fun z A B=>y (z,A,B)) (fun p=>ck (b+(1:Int)) fun C=>u C p.1 p.2)) ((1:Int),(d++([((0:Int),c,n),(c,(0:Int),o)])),(e++([((1:Int),b),((1:Int),b)])))))) (v (d,e))
def al8 (r:Val eW) (s:Int) (g:Int) (h:Int) (i:Val f6) (j:Val eI) (k:Val l5) (l:Val eW) (m:Val eI) (o:Val eI) (p:Int) (a:Int) (c:Val wi) (d:Val eI) (t:Int→Val wi→Val eI→Option ρ) (u:Val amO→Option ρ):Option ρ :=
  ifb (ilt a s) (ü r a fun b=>Â (ŝ b.2.2.2.1 b.2.2.1) fun v=>Â (adk (((g,h),i,j,k,l,m),o,(p,c),d) v b.2.1) fun e=>Â (ŝ b.2.2.1 b.2.2.2.1) fun w=>Â (adk (((g,h),i,j,k,l,m),o,(p,c),d) w b.2.1) fun f=>Â (amB ((g,h),i,j,k,l,m) b) fun n=>ck (0-n.1) fun q=>ô (ì ((List.length c)+(List.length ([(e,f,n.2),(f,e,q)])))) (ô (ì ((List.length d)+(List.length ([((3:Int),a),((3:Int),a)])))) (ck (a+(1:Int)) fun x=>t x (c++([(e,f,n.2),(f,e,q)])) (d++([((3:Int),a),((3:Int),a)]))))) (u (c,d))
def aL1 (a:Val Ä) (k:Val abY→Option ρ):Option ρ :=
  Â (aiF a) fun b=>ck ((Ü b)+(1:Int)) fun c=>Ñ (fun(d:Val abR) h=>ama a.2.1 (Ü a.2.1) a.1.1 a.1.2 a.2.1 a.2.2.1 a.2.2.2.1 a.2.2.2.2.1 a.2.2.2.2.2 b c d.1 d.2.1 d.2.2 (fun i j l=>h (i,j,l)) (fun f=>Ñ (fun(e:Val abR) m=>al8 a.2.2.2.2.1 (Ü a.2.2.2.2.1) a.1.1 a.1.2 a.2.1 a.2.2.1 a.2.2.2.1 a.2.2.2.2.1 a.2.2.2.2.2 b c e.1 e.2.1 e.2.2 (fun n o p=>m (n,o,p)) (fun g=>k (a,b,(c,g.1),g.2))) ((0:Int),f.1,f.2))) ((0:Int),[],[])
def awt (a:Val Ä):Option ((Val abY)):=aL1 a some
def ayf (a:Val Ä) (k:(Val (.pair Í (.pair eI tI)))→Option ρ):Option ρ :=
  Â (ö a) fun b=>ifb (ine b (0:Int)) (k (((0:Int),[]),[],b)) (Â (awt a) fun c=>k (c.2.2.1,c.2.2.2,(0:Int)))
def ĥ (a:Val Ä):Option ((Val (.pair Í (.pair eI tI)))):=ayf a some
def aEN (a:Val Ä) (d:Val Ã) (k:Val Ã→Option ρ):Option ρ :=
  Â (ö a) fun b=>ifb (ine b (0:Int)) (k ((0:Int),b)) (Â (aiF a) fun e=>Â (ø e d) fun c=>ifb (ilt c (0:Int)) (k ((0:Int),(5:Int))) (ck (c+(1:Int)) fun f=>k (f,(0:Int))))
def Ř (a:Val Ä) (b:Val Ã):Option (Val Ã):=aEN a b some
def asJ (a:Val abx) (b:Val Ã) (k:Int→Option ρ):Option ρ :=
  Â (Ř a.1 b) fun c=>k c.1
def Λ (a:Val abx) (b:Val Ã):Option (Int):=asJ a b some
def aLD (b:Val Í) (a:Int) (k:Bool→Option ρ):Option ρ :=
  ifb (ige a (0:Int)) (k (ilt a b.1)) (k false)
def ajJ (a:Val Í) (b:Int):Option (Bool):=aLD a b some
def ajt (f:Val wi) (g:Int) (d:Int) (e:Val wi) (a:Int) (h:Int→Option ρ) (c:Val Ã→Option ρ) (i:Unit→Option ρ):Option ρ :=
  ifb (ilt a g) (ü f a fun b=>Â (ajJ (d,e) b.1) fun j=>ifb (!j) (c ((1:Int),a)) (Â (ajJ (d,e) b.2.1) fun k=>ifb (!k) (c ((1:Int),a)) (ifb (ieq b.1 b.2.1) (c ((1:Int),a)) (ifb (ilt b.2.2 (-4503599627370496:Int)) (c ((1:Int),a)) (ifb (igt b.2.2 (4503599627370496:Int)) (c ((1:Int),a)) (ck (a+(1:Int)) fun l=>h l)))))) (i ())
def aEa (a:Val Í) (k:Val Ã→Option ρ):Option ρ :=
  ifb (ilt a.1 (1:Int)) (k ((1:Int),(-1:Int))) (ifb (igt a.1 (60:Int)) (k ((1:Int),(-1:Int))) (ifb (igt (Ü a.2) (300:Int)) (k ((2:Int),(-1:Int))) (Ñ (fun(c:Int) d=>ajt a.2 (Ü a.2) a.1 a.2 c (fun e=>d e) (fun b=>k (b.1,b.2)) (fun _=>k ((0:Int),(-1:Int)))) (0:Int))))
def agU (a:Val Í):Option (Val Ã):=aEa a some
def ο (c:Val wi) (d:Int) (b:Int) (a:Int) (e:Int→Int→Option ρ) (f:Int→Option ρ):Option ρ :=
  ifb (ilt a d) (ü c a fun g=>ck (b+(aPV g.2.2 (0:Int))) fun h=>ck (a+(1:Int)) fun i=>e h i) (f b)
def Ō (f:Int) (d:Val m5) (a:Int) (b:Val abA) (c:Val m5) (e:Int→Val abA→Val m5→Option ρ) (g:Val abP→Option ρ):Option ρ :=
  ifb (ilt a f) (ô ((ile (0:Int) a)&&(ilt a (Ĩ d))) (Ψ d (Int.toNat a) fun h=>ifb (ine h (1152921504606846976:Int)) (ô (ì ((List.length c)+(List.length ([a])))) (ô ((ile (0:Int) a)&&(ilt a (Ĩ b))) (Ψ b (Int.toNat a) fun k=>ck (a+(1:Int)) fun i=>e i (List.set b (Int.toNat a) true) (c++([a]))))) (ck (a+(1:Int)) fun j=>e j b c))) (g (b,c))
def adW (m:Val abp) (j:Int) (d:Int) (n:Val wi) (o:Int) (f:Int) (b:Val m5) (c:Val abA) (e:Val m5) (g:Int→Val m5→Val abA→Val m5→Option ρ) (l:(Val (.pair .bool ab5))→Option ρ) (p:Val ab5→Option ρ):Option ρ :=
  ifb (ilt f o) (ü n f fun a=>ifb (ine a.1 d) (ck (f+(1:Int)) fun q=>g q b c e) (aNg (k:=tI) (v:=.bool) f m (fun r=>ifb r (ck (f+(1:Int)) fun s=>g s b c e) (ô ((ile (0:Int) d)&&(ilt d (Ĩ b))) (Ψ b (Int.toNat d) fun t=>ck (t+a.2.2) fun u=>ô ((ile (0:Int) a.2.1)&&(ilt a.2.1 (Ĩ b))) (Ψ b (Int.toNat a.2.1) fun w=>ifb (ige u w) (ck (f+(1:Int)) fun x=>g x b c e) (ô ((ile (0:Int) d)&&(ilt d (Ĩ b))) (Ψ b (Int.toNat d) fun y=>ck (y+a.2.2) fun h=>ô ((ile (0:Int) a.2.1)&&(ilt a.2.1 (Ĩ b))) (Ψ b (Int.toNat a.2.1) fun M=>ô ((ile (0:Int) a.2.1)&&(ilt a.2.1 (Ĩ (List.set b (Int.toNat a.2.1) h)))) (Ψ (List.set b (Int.toNat a.2.1) h) (Int.toNat a.2.1) fun z=>ifb (ilt z j) (l (false,(List.set b (Int.toNat a.2.1) h),c,e)) (ô ((ile (0:Int) a.2.1)&&(ilt a.2.1 (Ĩ c))) (Ψ c (Int.toNat a.2.1) fun A=>ifb (!A) (ô (ì ((List.length e)+(List.length ([a.2.1])))) (ô ((ile (0:Int) a.2.1)&&(ilt a.2.1 (Ĩ c))) (Ψ c (Int.toNat a.2.1) fun N=>ck (f+(1:Int)) fun B=>g B (List.set b (Int.toNat a.2.1) h) (List.set c (Int.toNat a.2.1) true) (e++([a.2.1]))))) (ck (f+(1:Int)) fun C=>g C (List.set b (Int.toNat a.2.1) h) c e))))))))))) (ô ((ile (0:Int) d)&&(ilt d (Ĩ b))) (Ψ b (Int.toNat d) fun D=>ck (D+a.2.2) fun E=>ô ((ile (0:Int) a.2.1)&&(ilt a.2.1 (Ĩ b))) (Ψ b (Int.toNat a.2.1) fun F=>ifb (ige E F) (ck (f+(1:Int)) fun G=>g G b c e) (ô ((ile (0:Int) d)&&(ilt d (Ĩ b))) (Ψ b (Int.toNat d) fun H=>ck (H+a.2.2) fun i=>ô ((ile (0:Int) a.2.1)&&(ilt a.2.1 (Ĩ b))) (Ψ b (Int.toNat a.2.1) fun O=>ô ((ile (0:Int) a.2.1)&&(ilt a.2.1 (Ĩ (List.set b (Int.toNat a.2.1) i)))) (Ψ (List.set b (Int.toNat a.2.1) i) (Int.toNat a.2.1) fun I=>ifb (ilt I j) (l (false,(List.set b (Int.toNat a.2.1) i),c,e)) (ô ((ile (0:Int) a.2.1)&&(ilt a.2.1 (Ĩ c))) (Ψ c (Int.toNat a.2.1) fun J=>ifb (!J) (ô (ì ((List.length e)+(List.length ([a.2.1])))) (ô ((ile (0:Int) a.2.1)&&(ilt a.2.1 (Ĩ c))) (Ψ c (Int.toNat a.2.1) fun P=>ck (f+(1:Int)) fun K=>g K (List.set b (Int.toNat a.2.1) i) (List.set c (Int.toNat a.2.1) true) (e++([a.2.1]))))) (ck (f+(1:Int)) fun L=>g L (List.set b (Int.toNat a.2.1) i) c e)))))))))))) (p (b,c,e))
def Ħ (l:Val abp) (m:Int) (n:Int) (k:Val wi) (h:Val m5) (d:Val abA) (b:Val m5) (c:Val m5) (o:Val m5→Val abA→Val m5→Val m5→Option ρ) (i:(Val (.pair .bool abZ))→Option ρ):Option ρ :=
  ifb (ieq (Ü c) (0:Int)) (i (true,h,d,b,c)) (ô (ilt (0:Int) (Ĩ c)) (Ψ c 0 fun a=>ô (ile (1:Int) (Ĩ c)) (ô (decide (1+(List.length c-1)=List.length c)) (ô ((ile (0:Int) a)&&(ilt a (Ĩ d))) (Ψ d (Int.toNat a) fun x=>ô ((ile (0:Int) a)&&(ilt a (Ĩ b))) (Ψ b (Int.toNat a) fun p=>ck (p+(1:Int)) fun e=>ô ((ile (0:Int) a)&&(ilt a (Ĩ b))) (Ψ b (Int.toNat a) fun y=>ô ((ile (0:Int) a)&&(ilt a (Ĩ (List.set b (Int.toNat a) e)))) (Ψ (List.set b (Int.toNat a) e) (Int.toNat a) fun q=>ck (n+(1:Int)) fun r=>ifb (igt q r) (i (false,h,(List.set d (Int.toNat a) false),(List.set b (Int.toNat a) e),(List.drop 1 c))) (Ñ (fun(f:(Val (.pair tI ab5))) s=>adW l m a k (Ü k) f.1 f.2.1 f.2.2.1 f.2.2.2 (fun t u v w=>s (t,u,v,w)) (fun g=>i (g.1,g.2.1,g.2.2.1,(List.set b (Int.toNat a) e),g.2.2.2)) (fun j=>o j.1 j.2.1 (List.set b (Int.toNat a) e) j.2.2)) ((0:Int),h,(List.set d (Int.toNat a) false),(List.drop 1 c)))))))))))
def adV (c:Int) (d:Int) (a:Int) (b:Val m5) (e:Int→Val m5→Option ρ) (f:Val m5→Option ρ):Option ρ :=
  ifb (ilt a d) (ô ((ile (0:Int) a)&&(ilt a (Ĩ b))) (Ψ b (Int.toNat a) fun g=>ck (g-c) fun h=>ô ((ile (0:Int) a)&&(ilt a (Ĩ b))) (Ψ b (Int.toNat a) fun j=>ck (a+(1:Int)) fun i=>e i (List.set b (Int.toNat a) h)))) (f b)
def aoA (a:Val Í) (h:Val abp) (k:(Val (.pair m5 .bool))→Option ρ):Option ρ :=
  ô ((ile (0:Int) a.1)&&(ì (Int.toNat a.1))) (ô ((ile (0:Int) a.1)&&(ì (Int.toNat a.1))) (ô ((ile (0:Int) a.1)&&(ì (Int.toNat a.1))) (Ñ (fun(e:Val Ã) i=>ο a.2 (Ü a.2) e.1 e.2 (fun j l=>i (j,l)) (fun m=>Ñ (fun(d:(Val (.pair tI abP))) n=>Ō a.1 (List.replicate (Int.toNat a.1) (0:Int)) d.1 d.2.1 d.2.2 (fun o p q=>n (o,p,q)) (fun f=>Ñ (fun(c:Val abZ) r=>Ħ h m a.1 a.2 c.1 c.2.1 c.2.2.1 c.2.2.2 (fun s t u v=>r (s,t,u,v)) (fun b=>ifb (!b.1) (k ([],false)) (ô (ilt (0:Int) (Ĩ b.2.1)) (Ψ b.2.1 0 fun w=>Ñ (fun(g:Val abz) x=>adV w (Ü b.2.1) g.1 g.2 (fun y z=>x (y,z)) (fun A=>k (A,true))) ((0:Int),b.2.1))))) ((List.replicate (Int.toNat a.1) (0:Int)),f.1,(List.replicate (Int.toNat a.1) (0:Int)),f.2))) ((0:Int),(List.replicate (Int.toNat a.1) false),[]))) ((0:Int),(0:Int)))))
def ae8 (a:Val Í) (b:Val abp):Option ((Val (.pair m5 .bool))):=aoA a b some
def ajr (b:Val m5) (c:Int) (d:Int) (e:Val wi) (a:Int) (f:Int→Option ρ) (g:Int→Option ρ) (h:Unit→Option ρ):Option ρ :=
  ifb (ilt a c) (ü b a fun i=>Â (ajJ (d,e) i) fun j=>ifb (!j) (g (1:Int)) (ck (a+(1:Int)) fun k=>f k)) (h ())
def aD2 (a:Val Í) (b:Val m5) (k:Int→Option ρ):Option ρ :=
  Â (agU a) fun c=>ifb (ine c.1 (0:Int)) (k c.1) (Ñ (fun(d:Int) e=>ajr b (Ü b) a.1 a.2 d (fun f=>e f) (fun g=>k g) (fun _=>Â (ae8 a ([])) fun h=>ifb (!h.2) (k (9:Int)) (k (0:Int)))) (0:Int))
def awq (a:Val Í) (b:Val m5):Option (Int):=aD2 a b some
def ahw (c:Int) (a:Int) (b:Val m5) (d:Int→Val m5→Option ρ) (e:Val m5→Option ρ):Option ρ :=
  ifb (ilt a c) (ô ((ile (0:Int) a)&&(ilt a (Ĩ b))) (Ψ b (Int.toNat a) fun g=>ck (a+(1:Int)) fun f=>d f (List.set b (Int.toNat a) (1152921504606846976:Int)))) (e b)
def al2 (c:Val wi) (d:Int) (b:Int) (a:Int) (e:Int→Int→Option ρ) (f:Int→Option ρ):Option ρ :=
  ifb (ilt a d) (ü c a fun g=>ck (b+(aPV g.2.2 (0:Int))) fun h=>ck (a+(1:Int)) fun i=>e h i) (f b)
def al1 (f:Int) (d:Val m5) (a:Int) (b:Val abA) (c:Val m5) (e:Int→Val abA→Val m5→Option ρ) (g:Val abP→Option ρ):Option ρ :=
  ifb (ilt a f) (ô ((ile (0:Int) a)&&(ilt a (Ĩ d))) (Ψ d (Int.toNat a) fun h=>ifb (ine h (1152921504606846976:Int)) (ô (ì ((List.length c)+(List.length ([a])))) (ô ((ile (0:Int) a)&&(ilt a (Ĩ b))) (Ψ b (Int.toNat a) fun k=>ck (a+(1:Int)) fun i=>e i (List.set b (Int.toNat a) true) (c++([a]))))) (ck (a+(1:Int)) fun j=>e j b c))) (g (b,c))
def avm (m:Val abp) (j:Int) (d:Int) (n:Val wi) (o:Int) (f:Int) (b:Val m5) (c:Val abA) (e:Val m5) (g:Int→Val m5→Val abA→Val m5→Option ρ) (l:(Val (.pair .bool ab5))→Option ρ) (p:Val ab5→Option ρ):Option ρ :=
  ifb (ilt f o) (ü n f fun a=>ifb (ine a.1 d) (ck (f+(1:Int)) fun q=>g q b c e) (aNg (k:=tI) (v:=.bool) f m (fun r=>ifb r (ck (f+(1:Int)) fun s=>g s b c e) (ô ((ile (0:Int) d)&&(ilt d (Ĩ b))) (Ψ b (Int.toNat d) fun t=>ck (t+a.2.2) fun u=>ô ((ile (0:Int) a.2.1)&&(ilt a.2.1 (Ĩ b))) (Ψ b (Int.toNat a.2.1) fun w=>ifb (ige u w) (ck (f+(1:Int)) fun x=>g x b c e) (ô ((ile (0:Int) d)&&(ilt d (Ĩ b))) (Ψ b (Int.toNat d) fun y=>ck (y+a.2.2) fun h=>ô ((ile (0:Int) a.2.1)&&(ilt a.2.1 (Ĩ b))) (Ψ b (Int.toNat a.2.1) fun M=>ô ((ile (0:Int) a.2.1)&&(ilt a.2.1 (Ĩ (List.set b (Int.toNat a.2.1) h)))) (Ψ (List.set b (Int.toNat a.2.1) h) (Int.toNat a.2.1) fun z=>ifb (ilt z j) (l (false,(List.set b (Int.toNat a.2.1) h),c,e)) (ô ((ile (0:Int) a.2.1)&&(ilt a.2.1 (Ĩ c))) (Ψ c (Int.toNat a.2.1) fun A=>ifb (!A) (ô (ì ((List.length e)+(List.length ([a.2.1])))) (ô ((ile (0:Int) a.2.1)&&(ilt a.2.1 (Ĩ c))) (Ψ c (Int.toNat a.2.1) fun N=>ck (f+(1:Int)) fun B=>g B (List.set b (Int.toNat a.2.1) h) (List.set c (Int.toNat a.2.1) true) (e++([a.2.1]))))) (ck (f+(1:Int)) fun C=>g C (List.set b (Int.toNat a.2.1) h) c e))))))))))) (ô ((ile (0:Int) d)&&(ilt d (Ĩ b))) (Ψ b (Int.toNat d) fun D=>ck (D+a.2.2) fun E=>ô ((ile (0:Int) a.2.1)&&(ilt a.2.1 (Ĩ b))) (Ψ b (Int.toNat a.2.1) fun F=>ifb (ige E F) (ck (f+(1:Int)) fun G=>g G b c e) (ô ((ile (0:Int) d)&&(ilt d (Ĩ b))) (Ψ b (Int.toNat d) fun H=>ck (H+a.2.2) fun i=>ô ((ile (0:Int) a.2.1)&&(ilt a.2.1 (Ĩ b))) (Ψ b (Int.toNat a.2.1) fun O=>ô ((ile (0:Int) a.2.1)&&(ilt a.2.1 (Ĩ (List.set b (Int.toNat a.2.1) i)))) (Ψ (List.set b (Int.toNat a.2.1) i) (Int.toNat a.2.1) fun I=>ifb (ilt I j) (l (false,(List.set b (Int.toNat a.2.1) i),c,e)) (ô ((ile (0:Int) a.2.1)&&(ilt a.2.1 (Ĩ c))) (Ψ c (Int.toNat a.2.1) fun J=>ifb (!J) (ô (ì ((List.length e)+(List.length ([a.2.1])))) (ô ((ile (0:Int) a.2.1)&&(ilt a.2.1 (Ĩ c))) (Ψ c (Int.toNat a.2.1) fun P=>ck (f+(1:Int)) fun K=>g K (List.set b (Int.toNat a.2.1) i) (List.set c (Int.toNat a.2.1) true) (e++([a.2.1]))))) (ck (f+(1:Int)) fun L=>g L (List.set b (Int.toNat a.2.1) i) c e)))))))))))) (p (b,c,e))
def al0 (l:Val abp) (m:Int) (n:Int) (k:Val wi) (h:Val m5) (d:Val abA) (b:Val m5) (c:Val m5) (o:Val m5→Val abA→Val m5→Val m5→Option ρ) (i:(Val (.pair .bool abZ))→Option ρ):Option ρ :=
  ifb (ieq (Ü c) (0:Int)) (i (true,h,d,b,c)) (ô (ilt (0:Int) (Ĩ c)) (Ψ c 0 fun a=>ô (ile (1:Int) (Ĩ c)) (ô (decide (1+(List.length c-1)=List.length c)) (ô ((ile (0:Int) a)&&(ilt a (Ĩ d))) (Ψ d (Int.toNat a) fun x=>ô ((ile (0:Int) a)&&(ilt a (Ĩ b))) (Ψ b (Int.toNat a) fun p=>ck (p+(1:Int)) fun e=>ô ((ile (0:Int) a)&&(ilt a (Ĩ b))) (Ψ b (Int.toNat a) fun y=>ô ((ile (0:Int) a)&&(ilt a (Ĩ (List.set b (Int.toNat a) e)))) (Ψ (List.set b (Int.toNat a) e) (Int.toNat a) fun q=>ck (n+(1:Int)) fun r=>ifb (igt q r) (i (false,h,(List.set d (Int.toNat a) false),(List.set b (Int.toNat a) e),(List.drop 1 c))) (Ñ (fun(f:(Val (.pair tI ab5))) s=>avm l m a k (Ü k) f.1 f.2.1 f.2.2.1 f.2.2.2 (fun t u v w=>s (t,u,v,w)) (fun g=>i (g.1,g.2.1,g.2.2.1,(List.set b (Int.toNat a) e),g.2.2.2)) (fun j=>o j.1 j.2.1 (List.set b (Int.toNat a) e) j.2.2)) ((0:Int),h,(List.set d (Int.toNat a) false),(List.drop 1 c)))))))))))
def axZ (a:Val Í) (i:Val abp) (b:Int) (k:Val m5→Option ρ):Option ρ :=
  ô ((ile (0:Int) a.1)&&(ì (Int.toNat a.1))) (Ñ (fun(f:Val abz) j=>ahw (Ü (List.replicate (Int.toNat a.1) (0:Int))) f.1 f.2 (fun l m=>j (l,m)) (fun c=>ô ((ile (0:Int) b)&&(ilt b (Ĩ c))) (Ψ c (Int.toNat b) fun B=>ô ((ile (0:Int) a.1)&&(ì (Int.toNat a.1))) (ô ((ile (0:Int) a.1)&&(ì (Int.toNat a.1))) (Ñ (fun(g:Val Ã) n=>al2 a.2 (Ü a.2) g.1 g.2 (fun o p=>n (o,p)) (fun q=>Ñ (fun(e:(Val (.pair tI abP))) r=>al1 a.1 (List.set c (Int.toNat b) (0:Int)) e.1 e.2.1 e.2.2 (fun s t u=>r (s,t,u)) (fun h=>Ñ (fun(d:Val abZ) v=>al0 i q a.1 a.2 d.1 d.2.1 d.2.2.1 d.2.2.2 (fun w x y z=>v (w,x,y,z)) (fun A=>k A.2.1)) ((List.set c (Int.toNat b) (0:Int)),h.1,(List.replicate (Int.toNat a.1) (0:Int)),h.2))) ((0:Int),(List.replicate (Int.toNat a.1) false),[]))) ((0:Int),(0:Int))))))) ((0:Int),(List.replicate (Int.toNat a.1) (0:Int))))
def ap7 (a:Val Í) (b:Val abp) (c:Int):Option ((Val m5)):=axZ a b c some
def aEg (a:Val Í) (b:Int) (c:Int) (k:Val Ã→Option ρ):Option ρ :=
  Â (awq a ([b,c])) fun d=>ifb (ine d (0:Int)) (k ((0:Int),d)) (Â (ap7 a ([]) b) fun f=>ü f c fun e=>ifb (ieq e (1152921504606846976:Int)) (k ((0:Int),(5:Int))) (k (e,(0:Int))))
def aiD (a:Val Í) (b:Int) (c:Int):Option (Val Ã):=aEg a b c some
def ajX (a:Val abx) (b:Int) (c:Int) (k:Int→Option ρ):Option ρ :=
  Â (aiD a.2 c b) fun d=>k d.1
def Ą (a:Val abx) (b:Int) (c:Int):Option (Int):=ajX a b c some
def ajW (a:Val abx) (b:Val Ã) (k:Int→Option ρ):Option ρ :=
  Â (Λ a b) fun c=>Â (Ą a (0:Int) c) fun d=>ck (0-d) fun e=>k e
def Κ (a:Val abx) (b:Val Ã):Option (Int):=ajW a b some
def af5 (a:Val abx) (b:Val Ã) (k:Int→Option ρ):Option ρ :=
  Â (Λ a b) fun c=>Â (Ą a c (0:Int)) fun d=>k d
def ψ (a:Val abx) (b:Val Ã):Option (Int):=af5 a b some
def af4 (a:Val abx) (b:Val Ã) (k:Val Ã→Option ρ):Option ρ :=
  Â (Κ a b) fun c=>Â (ψ a b) fun d=>k (c,d)
def ţ (a:Val abx) (b:Val Ã):Option (Val Ã):=af4 a b some
def amj (f:Int) (a:Int) (c:Val eW) (g:Int→Val eW→Option ρ) (h:Val eW→Option ρ):Option ρ :=
  ifb (ilt a f) (ô ((ile (0:Int) a)&&(ilt a (Ĩ c))) (Ψ c (Int.toNat a) fun d=>ô (ì (List.length d.2.2.1)) (ô (ì (List.length d.2.2.2.1)) (ô ((ile (0:Int) a)&&(ilt a (Ĩ c))) (Ψ c (Int.toNat a) fun b=>ô ((ile (0:Int) a)&&(ilt a (Ĩ (List.set c (Int.toNat a) (b.1,b.2.1,d.2.2.1,b.2.2.2))))) (Ψ (List.set c (Int.toNat a) (b.1,b.2.1,d.2.2.1,b.2.2.2)) (Int.toNat a) fun e=>ck (a+(1:Int)) fun i=>g i (List.set (List.set c (Int.toNat a) (b.1,b.2.1,d.2.2.1,b.2.2.2)) (Int.toNat a) (e.1,e.2.1,e.2.2.1,d.2.2.2.1,e.2.2.2.2)))))))) (h c)
def aMn (a:Val Ä) (b:Val Ã) (k:Val abL→Option ρ):Option ρ :=
  Â (ö a) fun c=>ifb (ine c (0:Int)) (k ((((0:Int),(0:Int)),[],[],[],[],[]),c)) (ô (ì (List.length a.2.1)) (ô (ì (List.length a.2.2.1)) (ô (ì (List.length a.2.2.2.1)) (ô (ì (List.length a.2.2.2.2.2)) (ô (ì (List.length a.2.2.2.2.1)) (Ñ (fun(d:(Val (.pair tI eW))) g=>amj (Ü a.2.2.2.2.1) d.1 d.2 (fun h i=>g (h,i)) (fun e=>ô (ì ((List.length a.2.2.2.2.2)+(List.length ([b])))) (Â (ö (a.1,a.2.1,a.2.2.1,a.2.2.2.1,e,(a.2.2.2.2.2++([b])))) fun f=>ifb (ine f (0:Int)) (k ((((0:Int),(0:Int)),[],[],[],[],[]),f)) (k ((a.1,a.2.1,a.2.2.1,a.2.2.2.1,e,(a.2.2.2.2.2++([b]))),(0:Int)))))) ((0:Int),a.2.2.2.2.1)))))))
def aeM (a:Val Ä) (b:Val Ã):Option ((Val abL)):=aMn a b some
def aj7 (a:Val Í) (k:Val abJ→Option ρ):Option ρ :=
  Â (agU a) fun b=>ifb (ine b.1 (0:Int)) (k (false,b.1)) (Â (ae8 a ([])) fun c=>k (c.2,(0:Int)))
def Ğ (a:Val Í):Option ((Val abJ)):=aj7 a some
def Č (m:Int) (j:Val eI) (b:Int) (c:Int) (d:Int) (e:Val f6) (f:Val eI) (g:Val l5) (h:Val eW) (i:Val eI) (k:Int→Int→Int→Val f6→Val eI→Val l5→Val eW→Val eI→Option ρ) (n:Val abD→Option ρ) (o:Val nn→Option ρ):Option ρ :=
  ifb (ilt b m) (ô ((ile (0:Int) b)&&(ilt b (Ĩ j))) (Ψ j (Int.toNat b) fun l=>Â (Ř ((c,d),e,f,g,h,i) l) fun p=>ifb (ieq p.2 (0:Int)) (ck (b+(1:Int)) fun q=>k q c d e f g h i) (Â (aeM ((c,d),e,f,g,h,i) l) fun a=>ifb (ine a.2 (0:Int)) (n (a.2,c,d,e,f,g,h,i)) (ck (b+(1:Int)) fun r=>k r a.1.1.1 a.1.1.2 a.1.2.1 a.1.2.2.1 a.1.2.2.2.1 a.1.2.2.2.2.1 a.1.2.2.2.2.2)))) (o (c,d,e,f,g,h,i))
def aov (a:Val Ä) (e:Val Ã) (k:Val į→Option ρ):Option ρ :=
  Â (ö a) fun f=>ifb (ine f (0:Int)) (ô (ine f (0:Int)) (k (((0:Int),(0:Int)),f))) (Ñ (fun(b:Val abD) h=>Č (Ü ([e])) ([e]) b.1 b.2.1 b.2.2.1 b.2.2.2.1 b.2.2.2.2.1 b.2.2.2.2.2.1 b.2.2.2.2.2.2.1 b.2.2.2.2.2.2.2 (fun i j l m n o p q=>h (i,j,l,m,n,o,p,q)) (fun g=>ô (ine g.1 (0:Int)) (k (((0:Int),(0:Int)),g.1))) (fun c=>Â (ĥ ((c.1,c.2.1),c.2.2)) fun d=>ifb (ine d.2.2 (0:Int)) (ô (ine d.2.2 (0:Int)) (k (((0:Int),(0:Int)),d.2.2))) (Â (Ğ d.1) fun r=>ifb (!r.1) (k (((0:Int),(0:Int)),(9:Int))) (Â (ţ (((c.1,c.2.1),c.2.2),d.1) e) fun s=>k (s,(0:Int)))))) ((0:Int),a.1.1,a.1.2,a.2.1,a.2.2.1,a.2.2.2.1,a.2.2.2.2.1,a.2.2.2.2.2))
def agT (a:Val Ä) (b:Val Ã):Option (Val į):=aov a b some
def aj6 (m:Int) (j:Val eI) (b:Int) (c:Int) (d:Int) (e:Val f6) (f:Val eI) (g:Val l5) (h:Val eW) (i:Val eI) (k:Int→Int→Int→Val f6→Val eI→Val l5→Val eW→Val eI→Option ρ) (n:Val abD→Option ρ) (o:Val nn→Option ρ):Option ρ :=
  ifb (ilt b m) (ô ((ile (0:Int) b)&&(ilt b (Ĩ j))) (Ψ j (Int.toNat b) fun l=>Â (Ř ((c,d),e,f,g,h,i) l) fun p=>ifb (ieq p.2 (0:Int)) (ck (b+(1:Int)) fun q=>k q c d e f g h i) (Â (aeM ((c,d),e,f,g,h,i) l) fun a=>ifb (ine a.2 (0:Int)) (n (a.2,c,d,e,f,g,h,i)) (ck (b+(1:Int)) fun r=>k r a.1.1.1 a.1.1.2 a.1.2.1 a.1.2.2.1 a.1.2.2.2.1 a.1.2.2.2.2.1 a.1.2.2.2.2.2)))) (o (c,d,e,f,g,h,i))
def asR (b:Val Ä) (e:Val Ã) (f:Val Ã) (k:Val į→Option ρ):Option ρ :=
  Â (ö b) fun g=>ifb (ine g (0:Int)) (ô (ine g (0:Int)) (k (((0:Int),(0:Int)),g))) (Ñ (fun(c:Val abD) l=>aj6 (Ü ([e,f])) ([e,f]) c.1 c.2.1 c.2.2.1 c.2.2.2.1 c.2.2.2.2.1 c.2.2.2.2.2.1 c.2.2.2.2.2.2.1 c.2.2.2.2.2.2.2 (fun m n o p q r s t=>l (m,n,o,p,q,r,s,t)) (fun h=>ô (ine h.1 (0:Int)) (k (((0:Int),(0:Int)),h.1))) (fun a=>Â (ĥ ((a.1,a.2.1),a.2.2)) fun d=>ifb (ine d.2.2 (0:Int)) (ô (ine d.2.2 (0:Int)) (k (((0:Int),(0:Int)),d.2.2))) (Â (Ğ d.1) fun u=>ifb (!u.1) (k (((0:Int),(0:Int)),(9:Int))) (Â (Λ (((a.1,a.2.1),a.2.2),d.1) e) fun i=>Â (Λ (((a.1,a.2.1),a.2.2),d.1) f) fun j=>Â (Ą (((a.1,a.2.1),a.2.2),d.1) j i) fun v=>ck (0-v) fun w=>Â (Ą (((a.1,a.2.1),a.2.2),d.1) i j) fun x=>k ((w,x),(0:Int)))))) ((0:Int),b.1.1,b.1.2,b.2.1,b.2.2.1,b.2.2.2.1,b.2.2.2.2.1,b.2.2.2.2.2))
def amA (a:Val Ä) (b:Val Ã) (c:Val Ã):Option (Val į):=asR a b c some
def ayh (a:Val m5) (b:Val m5) (k:(Val (.pair m5 abI))→Option ρ):Option ρ :=
  Â (agf a) fun c=>ifb (!c) (k ([],[],(1:Int))) (Â (agf b) fun d=>ifb (!d) (k ([],[],(1:Int))) (Â (ŝ a b) fun e=>Â (ŝ b a) fun f=>k (e,f,(0:Int))))
def aln (a:Val m5) (b:Val m5):Option ((Val (.pair m5 abI))):=ayh a b some
def aK7 (a:Val m5) (b:Int) (k:Bool→Option ρ):Option ρ :=
  Â (aln a ([])) fun c=>ifb (ieq c.2.2 (0:Int)) (k (ile (Ü a) b)) (k false)
def aBE (a:Val m5) (b:Int):Option (Bool):=aK7 a b some
def aDE (a:Int) (k:Bool→Option ρ):Option ρ :=
  ifb (ige a (0:Int)) (k (ile a (20000:Int))) (k false)
def awm (a:Int):Option (Bool):=aDE a some
def ajj (c:Int) (e:Val m5) (f:Int) (a:Int) (b:Val eI) (g:Int→Val eI→Option ρ) (h:Val eI→Option ρ):Option ρ :=
  ifb (ilt a f) (ü e a fun d=>ô (ì ((List.length b)+(List.length ([(d,c)])))) (ck (a+(1:Int)) fun i=>g i (b++([(d,c)])))) (h b)
def aDz (c:Int) (d:Val abr) (k:Val eI→Option ρ):Option ρ :=
  Â (é d) fun a=>Ñ (fun(b:Val abG) e=>ajj c a (Ü a) b.1 b.2 (fun f g=>e (f,g)) (fun h=>k h)) ((0:Int),[])
def awl (a:Int) (b:Val abr):Option ((Val eI)):=aDz a b some
def alU (l:Val eI) (m:Int) (i:Int) (b:Int) (c:Int) (d:Val f6) (e:Val eI) (f:Val l5) (g:Val eW) (h:Val eI) (j:Int→Int→Int→Val f6→Val eI→Val l5→Val eW→Val eI→Option ρ) (n:Val abD→Option ρ) (o:Val nn→Option ρ):Option ρ :=
  ifb (ilt i m) (ü l i fun k=>Â (Ř ((b,c),d,e,f,g,h) k) fun p=>ifb (ieq p.2 (0:Int)) (ck (i+(1:Int)) fun q=>j q b c d e f g h) (Â (aeM ((b,c),d,e,f,g,h) k) fun a=>ifb (ine a.2 (0:Int)) (n (a.2,b,c,d,e,f,g,h)) (ck (i+(1:Int)) fun r=>j r a.1.1.1 a.1.1.2 a.1.2.1 a.1.2.2.1 a.1.2.2.2.1 a.1.2.2.2.2.1 a.1.2.2.2.2.2))) (o (b,c,d,e,f,g,h))
def alT (e:Val abx) (f:Val eI) (g:Int) (a:Int) (b:Int) (c:Int) (h:Int→Int→Int→Option ρ) (i:Val Ã→Option ρ):Option ρ :=
  ifb (ilt a g) (ü f a fun j=>Â (ţ e j) fun d=>ck (b+d.1) fun k=>ck (c+d.2) fun l=>ck (a+(1:Int)) fun m=>h m k l) (i (b,c))
def aLx (a:Val Ä) (i:Int) (c:Val m5) (k:Val į→Option ρ):Option ρ :=
  Â (ö a) fun j=>ifb (ine j (0:Int)) (k (((0:Int),(0:Int)),j)) (ifb (ieq (Ü c) (0:Int)) (k (((0:Int),(0:Int)),(1:Int))) (Â (aBE c (6:Int)) fun q=>ifb (!q) (k (((0:Int),(0:Int)),(1:Int))) (Â (awm i) fun r=>ifb (!r) (k (((0:Int),(0:Int)),(1:Int))) (Â (awl i ([c])) fun f=>Â (ö a) fun g=>ifb (ine g (0:Int)) (ifb (ine g (0:Int)) (k (((0:Int),(0:Int)),g)) (ck ((Ü c)-(1:Int)) fun l=>ck (l*a.1.1) fun J=>ck (l*a.1.2) fun K=>none)) (Ñ (fun(b:Val abD) s=>alU f (Ü f) b.1 b.2.1 b.2.2.1 b.2.2.2.1 b.2.2.2.2.1 b.2.2.2.2.2.1 b.2.2.2.2.2.2.1 b.2.2.2.2.2.2.2 (fun t u v w x y z A=>s (t,u,v,w,x,y,z,A)) (fun m=>ifb (ine m.1 (0:Int)) (k (((0:Int),(0:Int)),m.1)) (ck ((Ü c)-(1:Int)) fun n=>ck (n*a.1.1) fun L=>ck (n*a.1.2) fun M=>none)) (fun d=>Â (ĥ ((d.1,d.2.1),d.2.2)) fun e=>ifb (ine e.2.2 (0:Int)) (ifb (ine e.2.2 (0:Int)) (k (((0:Int),(0:Int)),e.2.2)) (ck ((Ü c)-(1:Int)) fun o=>ck (o*a.1.1) fun N=>ck (o*a.1.2) fun O=>none)) (Â (Ğ e.1) fun B=>ifb (!B.1) (k (((0:Int),(0:Int)),(9:Int))) (ck ((Ü c)-(1:Int)) fun p=>ck (p*a.1.1) fun C=>ck (p*a.1.2) fun D=>Ñ (fun(h:Val ÿ) E=>alT (((d.1,d.2.1),d.2.2),e.1) f (Ü f) h.1 h.2.1 h.2.2 (fun F G H=>E (F,G,H)) (fun I=>k (I,(0:Int)))) ((0:Int),C,D))))) ((0:Int),a.1.1,a.1.2,a.2.1,a.2.2.1,a.2.2.2.1,a.2.2.2.2.1,a.2.2.2.2.2))))))
def aBF (a:Val Ä) (b:Int) (c:Val m5):Option (Val į):=aLx a b c some
def asH (a:Val Ã) (b:Val Ã) (k:Int→Option ρ):Option ρ :=
  ifb (ile b.1 a.1) (ifb (ile a.2 b.2) (k (1:Int)) (ifb (ilt a.2 b.1) (k (2:Int)) (ifb (ilt b.2 a.1) (k (2:Int)) (k (3:Int))))) (ifb (ilt a.2 b.1) (k (2:Int)) (ifb (ilt b.2 a.1) (k (2:Int)) (k (3:Int))))
def aiz (a:Val Ã) (b:Val Ã):Option (Int):=asH a b some
def aou (m:Int) (j:Val eI) (b:Int) (c:Int) (d:Int) (e:Val f6) (f:Val eI) (g:Val l5) (h:Val eW) (i:Val eI) (k:Int→Int→Int→Val f6→Val eI→Val l5→Val eW→Val eI→Option ρ) (n:Val abD→Option ρ) (o:Val nn→Option ρ):Option ρ :=
  ifb (ilt b m) (ô ((ile (0:Int) b)&&(ilt b (Ĩ j))) (Ψ j (Int.toNat b) fun l=>Â (Ř ((c,d),e,f,g,h,i) l) fun p=>ifb (ieq p.2 (0:Int)) (ck (b+(1:Int)) fun q=>k q c d e f g h i) (Â (aeM ((c,d),e,f,g,h,i) l) fun a=>ifb (ine a.2 (0:Int)) (n (a.2,c,d,e,f,g,h,i)) (ck (b+(1:Int)) fun r=>k r a.1.1.1 a.1.1.2 a.1.2.1 a.1.2.2.1 a.1.2.2.2.1 a.1.2.2.2.2.1 a.1.2.2.2.2.2)))) (o (c,d,e,f,g,h,i))
def aDN (b:Val Ä) (f:Val Ã) (a:Val Ã) (k:Val Ã→Option ρ):Option ρ :=
  Â (ö b) fun g=>ifb (ine g (0:Int)) (ifb (ine g (0:Int)) (k ((0:Int),g)) (ô (igt a.1 a.2) (k ((0:Int),(1:Int))))) (Ñ (fun(c:Val abD) i=>aou (Ü ([f])) ([f]) c.1 c.2.1 c.2.2.1 c.2.2.2.1 c.2.2.2.2.1 c.2.2.2.2.2.1 c.2.2.2.2.2.2.1 c.2.2.2.2.2.2.2 (fun j l m n o p q r=>i (j,l,m,n,o,p,q,r)) (fun h=>ifb (ine h.1 (0:Int)) (k ((0:Int),h.1)) (ô (igt a.1 a.2) (k ((0:Int),(1:Int))))) (fun d=>Â (ĥ ((d.1,d.2.1),d.2.2)) fun e=>ifb (ine e.2.2 (0:Int)) (ifb (ine e.2.2 (0:Int)) (k ((0:Int),e.2.2)) (ô (igt a.1 a.2) (k ((0:Int),(1:Int))))) (Â (Ğ e.1) fun s=>ifb (!s.1) (k ((0:Int),(9:Int))) (ifb (igt a.1 a.2) (k ((0:Int),(1:Int))) (Â (ţ (((d.1,d.2.1),d.2.2),e.1) f) fun t=>Â (aiz t a) fun u=>k (u,(0:Int))))))) ((0:Int),b.1.1,b.1.2,b.2.1,b.2.2.1,b.2.2.2.1,b.2.2.2.2.1,b.2.2.2.2.2))
def awn (a:Val Ä) (b:Val Ã) (c:Val Ã):Option (Val Ã):=aDN a b c some
def ami (f:Int) (a:Int) (c:Val eW) (g:Int→Val eW→Option ρ) (h:Val eW→Option ρ):Option ρ :=
  ifb (ilt a f) (ô ((ile (0:Int) a)&&(ilt a (Ĩ c))) (Ψ c (Int.toNat a) fun d=>ô (ì (List.length d.2.2.1)) (ô (ì (List.length d.2.2.2.1)) (ô ((ile (0:Int) a)&&(ilt a (Ĩ c))) (Ψ c (Int.toNat a) fun b=>ô ((ile (0:Int) a)&&(ilt a (Ĩ (List.set c (Int.toNat a) (b.1,b.2.1,d.2.2.1,b.2.2.2))))) (Ψ (List.set c (Int.toNat a) (b.1,b.2.1,d.2.2.1,b.2.2.2)) (Int.toNat a) fun e=>ck (a+(1:Int)) fun i=>g i (List.set (List.set c (Int.toNat a) (b.1,b.2.1,d.2.2.1,b.2.2.2)) (Int.toNat a) (e.1,e.2.1,e.2.2.1,d.2.2.2.1,e.2.2.2.2)))))))) (h c)
def aMj (a:Val Ä) (b:Val Ê) (k:Val abL→Option ρ):Option ρ :=
  ô (ì (List.length b.2.2.1)) (ô (ì (List.length b.2.2.2.1)) (Â (ö a) fun d=>ifb (ine d (0:Int)) (k ((((0:Int),(0:Int)),[],[],[],[],[]),d)) (ô (ì (List.length a.2.1)) (ô (ì (List.length a.2.2.1)) (ô (ì (List.length a.2.2.2.1)) (ô (ì (List.length a.2.2.2.2.2)) (ô (ì (List.length a.2.2.2.2.1)) (Ñ (fun(e:(Val (.pair tI eW))) g=>ami (Ü a.2.2.2.2.1) e.1 e.2 (fun h i=>g (h,i)) (fun c=>ô (ì ((List.length c)+(List.length ([b])))) (Â (ö (a.1,a.2.1,a.2.2.1,a.2.2.2.1,(c++([b])),a.2.2.2.2.2)) fun f=>ifb (ine f (0:Int)) (k ((((0:Int),(0:Int)),[],[],[],[],[]),f)) (k ((a.1,a.2.1,a.2.2.1,a.2.2.2.1,(c++([b])),a.2.2.2.2.2),(0:Int)))))) ((0:Int),a.2.2.2.2.1)))))))))
def ahF (a:Val Ä) (b:Val Ê):Option ((Val abL)):=aMj a b some
def aEy (b:Val Ä) (a:Val Ê) (c:Val Ã) (k:Val į→Option ρ):Option ρ :=
  Â (ahV b a) fun d=>Â (alm b a) fun e=>Â (awr d.1) fun h=>Â (apd d.2) fun i=>ck (h.1+e.1) fun j=>ck (j-a.2.2.2.2.2.1) fun f=>ck (i.1+e.2) fun l=>ck (l+a.2.2.2.2.2.1) fun g=>ifb (igt f g) (k (((0:Int),(0:Int)),(5:Int))) (ck (c.1+f) fun m=>ck (c.2+g) fun n=>k ((m,n),(0:Int)))
def alk (a:Val Ä) (b:Val Ê) (c:Val Ã):Option (Val į):=aEy a b c some
def as6 (g:Val Ä) (a:Val Ê) (k:Val į→Option ρ):Option ρ :=
  Â (ahF g (a.1,a.2.1,a.2.2.1,a.2.2.2.1,(0:Int),a.2.2.2.2.2)) fun d=>ifb (ine d.2 (0:Int)) (k (((0:Int),(0:Int)),d.2)) (Â (awt d.1) fun b=>ck ((Ü b.2.2.1.2)-(2:Int)) fun c=>ô ((ile (0:Int) c)&&(ile c (Ĩ b.2.2.1.2))) (Â (ŝ a.2.2.1 a.2.2.2.1) fun l=>Â (adk b l a.2.1) fun h=>Â (ŝ a.2.2.2.1 a.2.2.1) fun m=>Â (adk b m a.2.1) fun i=>Â (aiD (b.2.2.1.1,(List.take (Int.toNat c) b.2.2.1.2)) i h) fun e=>ifb (ine e.2 (0:Int)) (k (((0:Int),(0:Int)),e.2)) (Â (aiD (b.2.2.1.1,(List.take (Int.toNat c) b.2.2.1.2)) h i) fun f=>ifb (ine f.2 (0:Int)) (k (((0:Int),(0:Int)),f.2)) (ck (0-f.1) fun n=>Â (alk g (a.1,a.2.1,a.2.2.1,a.2.2.2.1,(0:Int),a.2.2.2.2.2) (n,e.1)) fun j=>k (j.1,j.2)))))
def amE (a:Val Ä) (b:Val Ê):Option (Val į):=as6 a b some
def aEw (a:Val Ä) (b:Int) (k:(Val (.pair Ê tI))→Option ρ):Option ρ :=
  Â (ö a) fun c=>ifb (ine c (0:Int)) (k (((0:Int),(0:Int),[],[],(0:Int),(0:Int),(0:Int),(0:Int)),c)) (ifb (ilt b (0:Int)) (k (((0:Int),(0:Int),[],[],(0:Int),(0:Int),(0:Int),(0:Int)),(1:Int))) (ifb (ige b (Ü a.2.2.2.2.1)) (k (((0:Int),(0:Int),[],[],(0:Int),(0:Int),(0:Int),(0:Int)),(1:Int))) (ü a.2.2.2.2.1 b fun d=>k (d,(0:Int)))))
def aws (a:Val Ä) (b:Int):Option ((Val (.pair Ê tI))):=aEw a b some
def aMl (b:Val Ä) (c:Int) (k:Val į→Option ρ):Option ρ :=
  Â (aws b c) fun a=>ifb (ine a.2 (0:Int)) (k (((0:Int),(0:Int)),a.2)) (Â (amB b a.1) fun d=>k (d,(0:Int)))
def aBH (a:Val Ä) (b:Int):Option (Val į):=aMl a b some
def aoo (a:Val m5) (b:Val abx) (c:(Val (.ptr Ê))) (k:Int→Option ρ):Option ρ :=
  ifb (ieq (Ü a) (0:Int)) (k (0:Int)) (ü a (0:Int) fun d=>Â (Λ b (d,c.2.1)) fun e=>k e)
def agS (a:Val m5) (b:Val abx) (c:(Val (.ptr Ê))):Option (Int):=aoo a b c some
def aon (b:Int) (c:Int) (a:Val abx) (d:(Val (.ptr tI))) (e:Val abX) (f:(Val (.ptr tI))) (k:Val ÿ→Option ρ):Option ρ :=
  Â (Ą a b c) fun g=>Â (Ą a d c) fun h=>ck (h+e.2) fun i=>Â (Ą a b f) fun j=>ck (i+j) fun l=>Â (Ą a f c) fun m=>ck (m-e.1) fun n=>Â (Ą a b d) fun o=>ck (n+o) fun p=>k (g,l,p)
def agR (a:Int) (b:Int) (c:Val abx) (d:(Val (.ptr tI))) (e:Val abX) (f:(Val (.ptr tI))):Option (Val ÿ):=aon a b c d e f some
def aft (f:Int) (g:Val eI) (h:Val wi) (i:Int) (a:Int) (b:Val wi) (c:Int→Val wi→Option ρ) (j:Val wi→Option ρ):Option ρ :=
  ifb (ilt a i) (ü h a fun d=>ü g a fun e=>ifb (!((û e.1 (3:Int))&&((û e.2 f)&&true))) (ô (ì ((List.length b)+(List.length ([d])))) (ck (a+(1:Int)) fun k=>c k (b++([d])))) (ck (a+(1:Int)) fun l=>c l b)) (j b)
def axA (f:Val abx) (o:Val Ã) (a:Val Ê) (k:(Val (.pair Ŧ tI))→Option ρ):Option ρ :=
  Â (amE f.1 a) fun e=>ifb (ine e.2 (0:Int)) (k ((((0:Int),(0:Int)),((0:Int),(0:Int),(0:Int)),(0:Int),(0:Int),(0:Int)),e.2)) (Â (ahF f.1 (a.1,a.2.1,a.2.2.1,a.2.2.2.1,(0:Int),a.2.2.2.2.2)) fun b=>ifb (ine b.2 (0:Int)) (k ((((0:Int),(0:Int)),((0:Int),(0:Int),(0:Int)),(0:Int),(0:Int),(0:Int)),b.2)) (ck ((Ü b.1.2.2.2.2.1)-(1:Int)) fun g=>Â (aBH b.1 g) fun h=>Â (aln a.2.2.1 a.2.2.2.1) fun i=>Â (ĥ b.1) fun c=>Ñ (fun(j:Val Í) p=>aft g c.2.1 c.1.2 (Ü c.1.2) j.1 j.2 (fun q r=>p (q,r)) (fun d=>Â (agS i.1 (b.1,c.1.1,d) (a.1,a.2.1,a.2.2.1,a.2.2.2.1,(0:Int),a.2.2.2.2.2)) fun l=>Â (agS i.2.1 (b.1,c.1.1,d) (a.1,a.2.1,a.2.2.1,a.2.2.2.1,(0:Int),a.2.2.2.2.2)) fun m=>Â (Λ (b.1,c.1.1,d) o) fun n=>Â (agR n (0:Int) (b.1,c.1.1,d) m h.1 l) fun s=>Â (agR (0:Int) n (b.1,c.1.1,d) m h.1 l) fun t=>k ((e.1,s,t),(0:Int)))) ((0:Int),[])))
def alf (a:Val abx) (b:Val Ã) (c:Val Ê):Option ((Val (.pair Ŧ tI))):=axA a b c some
def alO (a:Val ÿ) (k:Val m5→Option ρ):Option ρ :=
  ck (a.2.2-a.2.1) fun c=>ck (Int.tdiv c (2:Int)) fun b=>ck (a.1-a.2.1) fun d=>ck (a.2.2-a.1) fun e=>ck (b-(1:Int)) fun f=>ck (b+(1:Int)) fun g=>k ([d,e,b,f,g])
def adv (a:Val ÿ):Option ((Val m5)):=alO a some
def axD (a:Val ÿ) (b:Int) (k:Int→Option ρ):Option ρ :=
  ck (a.2.1+b) fun c=>ck (a.2.2-b) fun d=>k (aPV (aPV a.1 c) d)
def alg (a:Val ÿ) (b:Int):Option (Int):=axD a b some
def ajU (a:Val Ŧ) (b:Int) (k:Val Ã→Option ρ):Option ρ :=
  Â (alg a.2.2 b) fun c=>ck (0-c) fun d=>Â (alg a.2.1 b) fun e=>k (d,e)
def Ň (a:Val Ŧ) (b:Int):Option (Val Ã):=ajU a b some
def ξ (d:Int) (e:Int) (f:Int) (a:Int) (b:Val m5) (c:Int→Val m5→Option ρ) (g:Val m5→Option ρ):Option ρ :=
  ck (d+(2:Int)) fun h=>ifb (ile a h) (ifb (igt a e) (ifb (ilt a f) (ô (ì ((List.length b)+(List.length ([a])))) (ck (a+(1:Int)) fun i=>c i (b++([a])))) (ck (a+(1:Int)) fun j=>c j b)) (ck (a+(1:Int)) fun k=>c k b)) (g b)
def aea (e:Val m5) (f:Int) (g:Int) (h:Int) (a:Int) (b:Val m5) (i:Int→Val m5→Option ρ) (j:Val m5→Option ρ):Option ρ :=
  ifb (ilt a f) (ü e a fun c=>ck (c-(2:Int)) fun k=>Ñ (fun(d:Val abz) l=>ξ c g h d.1 d.2 (fun m n=>l (m,n)) (fun o=>ck (a+(1:Int)) fun p=>i p o)) (k,b)) (j b)
def ajV (a:Val Ŧ) (b:Val m5) (k:Val m5→Option ρ):Option ρ :=
  Ñ (fun(c:Val abz) d=>aea b (Ü b) a.1.1 a.1.2 c.1 c.2 (fun e f=>d (e,f)) (fun g=>k g)) ((0:Int),[a.1.1,a.1.2])
def aeA (a:Val Ŧ) (b:Val m5):Option ((Val m5)):=ajV a b some
def adQ (d:Val m5) (e:Int) (f:Int) (g:Int) (h:Int) (i:Int) (j:Int) (k:Int) (l:Int) (m:Int) (b:Int) (a:Int) (n:Int→Int→Option ρ) (o:Int→Option ρ):Option ρ :=
  ifb (ilt a e) (ü d a fun p=>Â (Ň ((f,g),(h,i,j),k,l,m) p) fun c=>ck (c.2-c.1) fun q=>ck (a+(1:Int)) fun r=>n (aFZ b q) r) (o b)
def aic (a:Val Ŧ) (k:Int→Option ρ):Option ρ :=
  Â (adv a.2.1) fun d=>Â (adv a.2.2) fun e=>Â (é ([d,e])) fun f=>Â (aeA a f) fun b=>Ñ (fun(c:Val Ã) g=>adQ b (Ü b) a.1.1 a.1.2 a.2.1.1 a.2.1.2.1 a.2.1.2.2 a.2.2.1 a.2.2.2.1 a.2.2.2.2 c.1 c.2 (fun h i=>g (h,i)) (fun j=>k j)) ((-1:Int),(0:Int))
def afA (a:Val Ŧ):Option (Int):=aic a some
def aor (m:Int) (j:Val eI) (b:Int) (c:Int) (d:Int) (e:Val f6) (f:Val eI) (g:Val l5) (h:Val eW) (i:Val eI) (k:Int→Int→Int→Val f6→Val eI→Val l5→Val eW→Val eI→Option ρ) (n:Val abD→Option ρ) (o:Val nn→Option ρ):Option ρ :=
  ifb (ilt b m) (ô ((ile (0:Int) b)&&(ilt b (Ĩ j))) (Ψ j (Int.toNat b) fun l=>Â (Ř ((c,d),e,f,g,h,i) l) fun p=>ifb (ieq p.2 (0:Int)) (ck (b+(1:Int)) fun q=>k q c d e f g h i) (Â (aeM ((c,d),e,f,g,h,i) l) fun a=>ifb (ine a.2 (0:Int)) (n (a.2,c,d,e,f,g,h,i)) (ck (b+(1:Int)) fun r=>k r a.1.1.1 a.1.1.2 a.1.2.1 a.1.2.2.1 a.1.2.2.2.1 a.1.2.2.2.2.1 a.1.2.2.2.2.2)))) (o (c,d,e,f,g,h,i))
def aDI (a:Val Ä) (e:Val Ã) (i:Val Ê) (k:Val Ã→Option ρ):Option ρ :=
  Â (ö a) fun f=>ifb (ine f (0:Int)) (ô (ine f (0:Int)) (k ((0:Int),f))) (Ñ (fun(b:Val abD) j=>aor (Ü ([e])) ([e]) b.1 b.2.1 b.2.2.1 b.2.2.2.1 b.2.2.2.2.1 b.2.2.2.2.2.1 b.2.2.2.2.2.2.1 b.2.2.2.2.2.2.2 (fun l m n o p q r s=>j (l,m,n,o,p,q,r,s)) (fun h=>ô (ine h.1 (0:Int)) (k ((0:Int),h.1))) (fun c=>Â (ĥ ((c.1,c.2.1),c.2.2)) fun d=>ifb (ine d.2.2 (0:Int)) (ô (ine d.2.2 (0:Int)) (k ((0:Int),d.2.2))) (Â (Ğ d.1) fun t=>ifb (!t.1) (k ((0:Int),(9:Int))) (Â (alf (((c.1,c.2.1),c.2.2),d.1) e i) fun g=>ifb (ine g.2 (0:Int)) (k ((0:Int),g.2)) (Â (afA g.1) fun u=>k (u,(0:Int))))))) ((0:Int),a.1.1,a.1.2,a.2.1,a.2.2.1,a.2.2.2.1,a.2.2.2.2.1,a.2.2.2.2.2))
def ao9 (a:Val Ä) (b:Val Ã) (c:Val Ê):Option (Val Ã):=aDI a b c some
def agr (d:Val m5) (e:Int) (f:Val wi) (a:Int) (g:Int→Option ρ) (b:Int→Option ρ) (h:Unit→Option ρ):Option ρ :=
  ifb (ilt a e) (ü d a fun c=>ifb (ilt c (0:Int)) (b a) (ifb (ige c (Ü f)) (b a) (ck (a+(1:Int)) fun i=>g i))) (h ())
def asS (b:Val Í) (a:Val m5) (k:Int→Option ρ):Option ρ :=
  ifb (igt (Ü a) (80:Int)) (k (2:Int)) (Ñ (fun(c:Int) d=>agr a (Ü a) b.2 c (fun e=>d e) (fun f=>ifb (ige f (0:Int)) (k (1:Int)) (k (0:Int))) (fun _=>k (0:Int))) (0:Int))
def aiC (a:Val Í) (b:Val m5):Option (Int):=asS a b some
def alY (e:Val m5) (f:Int) (g:Val wi) (c:Int) (d:Int) (a:Int) (h:Int→Int→Int→Option ρ) (i:Val abQ→Option ρ) (j:Val Ã→Option ρ):Option ρ :=
  ifb (ilt a f) (ü e a fun k=>ü g k fun b=>ifb (ine b.1 c) (i ((0:Int),(0:Int),false)) (ck (d+b.2.2) fun l=>ck (a+(1:Int)) fun m=>h b.2.1 l m)) (j (c,d))
def aLC (e:Val Í) (f:Int) (c:Val m5) (k:Val abQ→Option ρ):Option ρ :=
  Ñ (fun(a:Val ÿ) g=>alY c (Ü c) e.2 a.1 a.2.1 a.2.2 (fun h i j=>g (h,i,j)) (fun b=>k (b.1,b.2.1,b.2.2)) (fun d=>k (d.1,d.2,true))) (f,(0:Int),(0:Int))
def awp (a:Val Í) (b:Int) (c:Val m5):Option ((Val abQ)):=aLC a b c some
def aj9 (a:Val Í) (c:Int) (d:Int) (e:Val m5) (k:Val Ã→Option ρ):Option ρ :=
  Â (agU a) fun f=>ifb (ine f.1 (0:Int)) (k ((0:Int),f.1)) (Â (ajJ a c) fun h=>ifb (!h) (k ((0:Int),(1:Int))) (Â (ajJ a d) fun i=>ifb (!i) (k ((0:Int),(1:Int))) (Â (aiC a e) fun g=>ifb (ine g (0:Int)) (k ((0:Int),g)) (Â (awp a c e) fun b=>ifb (!b.2.2) (k ((0:Int),(8:Int))) (ifb (ine b.1 d) (k ((0:Int),(8:Int))) (k (b.2.1,(0:Int))))))))
def aeB (a:Val Í) (b:Int) (c:Int) (d:Val m5):Option (Val Ã):=aj9 a b c d some
def alV (a:Val ĉ) (k:Int→Option ρ):Option ρ :=
  Â (ö a.1) fun c=>ifb (ine c (0:Int)) (k c) (Â (Ř a.1 a.2.1) fun b=>ifb (ine b.2 (0:Int)) (k (5:Int)) (Â (ĥ a.1) fun d=>ck (0-a.2.2.2.1) fun g=>ifb a.2.2.1 (Â (aeB d.1 (0:Int) b.1 a.2.2.2.2) fun e=>ifb (ine e.2 (0:Int)) (k (8:Int)) (ifb (ine e.1 a.2.2.2.1) (k (8:Int)) (k (0:Int)))) (Â (aeB d.1 b.1 (0:Int) a.2.2.2.2) fun f=>ifb (ine f.2 (0:Int)) (k (8:Int)) (ifb (ine f.1 g) (k (8:Int)) (k (0:Int))))))
def afC (a:Val ĉ):Option (Int):=alV a some
def aj8 (a:Val Í) (b:Val m5) (k:Int→Option ρ):Option ρ :=
  Â (agU a) fun d=>ifb (ine d.1 (0:Int)) (k d.1) (Â (aiC a b) fun e=>ifb (ine e (0:Int)) (k e) (ifb (ieq (Ü b) (0:Int)) (k (8:Int)) (ü b (0:Int) fun g=>ü a.2 g fun f=>Â (awp a f.1 b) fun c=>ifb (!c.2.2) (k (8:Int)) (ifb (ine c.1 f.1) (k (8:Int)) (ifb (ige c.2.1 (0:Int)) (k (8:Int)) (k (0:Int)))))))
def agu (a:Val Í) (b:Val m5):Option (Int):=aj8 a b some
def aj1 (a:Val ĉ) (k:Int→Option ρ):Option ρ :=
  Â (ö a.1) fun b=>ifb (ine b (0:Int)) (k b) (ifb (!((û a.2.1.1 (0:Int))&&((û a.2.1.2 (0:Int))&&true))) (k (1:Int)) (ifb a.2.2.1 (k (1:Int)) (ifb (ine a.2.2.2.1 (0:Int)) (k (1:Int)) (Â (ĥ a.1) fun c=>Â (agu c.1 a.2.2.2.2) fun d=>ifb (ine d (0:Int)) (k (8:Int)) (k (0:Int))))))
def agt (a:Val ĉ):Option (Int):=aj1 a some
def Ā (c:Val f6) (d:Int) (e:Int) (f:Int) (g:Int) (h:Int) (i:Int) (j:Int) (k:Int) (l:Int) (b:Int) (m:Int→Option ρ) (n:Int→Option ρ) (o:Unit→Option ρ):Option ρ :=
  ifb (ilt b d) (ü c b fun a=>ifb ((û e a.1)&&((û f a.2.1)&&((û g a.2.2.1)&&((û h a.2.2.2.1.1)&&((û i a.2.2.2.1.2)&&((û j a.2.2.2.2.1.1)&&((û k a.2.2.2.2.1.2)&&((û l a.2.2.2.2.2)&&true)))))))) (n b) (ck (b+(1:Int)) fun p=>m p)) (o ())
def Ŗ (b:Val f6) (a:Val Ð) (k:Int→Option ρ):Option ρ :=
  Ñ (fun(c:Int) d=>Ā b (Ü b) a.1 a.2.1 a.2.2.1 a.2.2.2.1.1 a.2.2.2.1.2 a.2.2.2.2.1.1 a.2.2.2.2.1.2 a.2.2.2.2.2 c (fun e=>d e) (fun f=>k f) (fun _=>k (-1:Int))) (0:Int)
def ŗ (a:Val f6) (b:Val Ð):Option (Int):=Ŗ a b some
def Ľ (a:Val f6) (b:Val Ð) (k:Bool→Option ρ):Option ρ :=
  Â (ŗ a b) fun c=>k (ige c (0:Int))
def Ě (a:Val f6) (b:Val Ð):Option (Bool):=Ľ a b some
def Ē (c:Val eI) (d:Int) (e:Int) (f:Int) (a:Int) (g:Int→Option ρ) (h:Int→Option ρ) (i:Unit→Option ρ):Option ρ :=
  ifb (ilt a d) (ü c a fun b=>ifb ((û e b.1)&&((û f b.2)&&true)) (h a) (ck (a+(1:Int)) fun j=>g j)) (i ())
def Ζ (a:Val eI) (b:Val Ã) (k:Int→Option ρ):Option ρ :=
  Ñ (fun(c:Int) d=>Ē a (Ü a) b.1 b.2 c (fun e=>d e) (fun f=>k f) (fun _=>k (-1:Int))) (0:Int)
def Ι (a:Val eI) (b:Val Ã):Option (Int):=Ζ a b some
def ś (a:Val eI) (b:Val Ã) (k:Bool→Option ρ):Option ρ :=
  Â (Ι a b) fun c=>k (ige c (0:Int))
def ĕ (a:Val eI) (b:Val Ã):Option (Bool):=ś a b some
def Ć (c:Val l5) (d:Int) (e:Int) (f:Int) (g:Int) (h:Int) (a:Int) (i:Int→Option ρ) (j:Int→Option ρ) (k:Unit→Option ρ):Option ρ :=
  ifb (ilt a d) (ü c a fun b=>ifb ((û e b.1)&&((û f b.2.1.1)&&((û g b.2.1.2)&&((û h b.2.2)&&true)))) (j a) (ck (a+(1:Int)) fun l=>i l)) (k ())
def Ŭ (b:Val l5) (a:Val Ł) (k:Int→Option ρ):Option ρ :=
  Ñ (fun(c:Int) d=>Ć b (Ü b) a.1 a.2.1.1 a.2.1.2 a.2.2 c (fun e=>d e) (fun f=>k f) (fun _=>k (-1:Int))) (0:Int)
def Ů (a:Val l5) (b:Val Ł):Option (Int):=Ŭ a b some
def ŋ (a:Val l5) (b:Val Ł) (k:Bool→Option ρ):Option ρ :=
  Â (Ů a b) fun c=>k (ige c (0:Int))
def ć (a:Val l5) (b:Val Ł):Option (Bool):=ŋ a b some
def alN (c:Val f6) (d:Int) (a:Int) (b:Val abp) (e:Int→Val abp→Option ρ) (f:Val abp→Option ρ):Option ρ :=
  ifb (ilt a d) (ü c a fun g=>ck (a+(1:Int)) fun h=>e h (aBs (k:=tI) (v:=.bool) g.1 true b)) (f b)
def af7 (b:Val m5) (c:Val m5) (d:Int) (a:Int) (e:Int→Option ρ) (f:Bool→Option ρ) (g:Unit→Option ρ):Option ρ :=
  ifb (ilt a d) (ü b a fun h=>ü c a fun i=>ifb (ine h i) (f false) (ck (a+(1:Int)) fun j=>e j)) (g ())
def alM (b:Val m5) (c:Val m5) (d:Int) (a:Int) (e:Int→Option ρ) (f:Bool→Option ρ) (g:Unit→Option ρ):Option ρ :=
  ifb (ilt a d) (ü b a fun h=>ü c a fun i=>ifb (ine h i) (f false) (ck (a+(1:Int)) fun j=>e j)) (g ())
def aih (g:Val eW) (h:Int) (i:Int) (j:Int) (f:Val m5) (d:Val m5) (k:Int) (l:Int) (m:Int) (n:Int) (a:Int) (c:Int→Option ρ) (e:Int→Option ρ) (o:Unit→Option ρ):Option ρ :=
  ifb (ilt a h) (ü g a fun b=>ifb (ieq i b.1) (ifb (ieq j b.2.1) (ifb (ieq k b.2.2.2.2.1) (ifb (ieq l b.2.2.2.2.2.1) (ifb ((û m b.2.2.2.2.2.2.1)&&((û n b.2.2.2.2.2.2.2)&&true)) (ifb (ine (Ü f) (Ü b.2.2.1)) (ck (a+(1:Int)) fun p=>c p) (Ñ (fun(q:Int) r=>af7 f b.2.2.1 (Ü f) q (fun s=>r s) (fun t=>ifb t (ifb (ine (Ü d) (Ü b.2.2.2.1)) (ck (a+(1:Int)) fun u=>c u) (Ñ (fun(v:Int) w=>alM d b.2.2.2.1 (Ü d) v (fun x=>w x) (fun y=>ifb y (e a) (ck (a+(1:Int)) fun z=>c z)) (fun _=>e a)) (0:Int))) (ck (a+(1:Int)) fun A=>c A)) (fun _=>ifb (ine (Ü d) (Ü b.2.2.2.1)) (ck (a+(1:Int)) fun B=>c B) (Ñ (fun(C:Int) D=>alM d b.2.2.2.1 (Ü d) C (fun E=>D E) (fun F=>ifb F (e a) (ck (a+(1:Int)) fun G=>c G)) (fun _=>e a)) (0:Int)))) (0:Int))) (ck (a+(1:Int)) fun H=>c H)) (ck (a+(1:Int)) fun I=>c I)) (ck (a+(1:Int)) fun J=>c J)) (ck (a+(1:Int)) fun K=>c K)) (ck (a+(1:Int)) fun L=>c L)) (o ())
def aii (e:Val eW) (f:Int) (c:Val eW) (b:Int) (g:Int→Option ρ) (d:Bool→Option ρ) (h:Unit→Option ρ):Option ρ :=
  ifb (ilt b f) (ü e b fun a=>Ñ (fun(i:Int) j=>aih c (Ü c) a.1 a.2.1 a.2.2.1 a.2.2.2.1 a.2.2.2.2.1 a.2.2.2.2.2.1 a.2.2.2.2.2.2.1 a.2.2.2.2.2.2.2 i (fun k=>j k) (fun l=>ifb (!(ige l (0:Int))) (d false) (ck (b+(1:Int)) fun m=>g m)) (fun _=>d false)) (0:Int)) (h ())
def aig (b:Val f6) (c:Int) (d:Val f6) (a:Int) (e:Int→Option ρ) (f:Int→Option ρ) (g:Unit→Option ρ):Option ρ :=
  ifb (ilt a c) (ü b a fun h=>Â (Ě d h) fun i=>ifb (!i) (f a) (ck (a+(1:Int)) fun j=>e j)) (g ())
def aeW (d:Val eI) (e:Int) (f:Val abp) (g:Val eI) (a:Int) (b:Int→Option ρ) (h:Int→Option ρ) (i:Unit→Option ρ):Option ρ :=
  ifb (ilt a e) (ü d a fun c=>aNg (k:=tI) (v:=.bool) c.1 f (fun j=>ifb j (Â (ĕ g c) fun l=>ifb (!l) (h a) (ck (a+(1:Int)) fun m=>b m)) (ck (a+(1:Int)) fun n=>b n)) (ck (a+(1:Int)) fun o=>b o)) (i ())
def af6 (d:Val eI) (e:Int) (f:Val abp) (g:Val eI) (a:Int) (b:Int→Option ρ) (h:Int→Option ρ) (i:Unit→Option ρ):Option ρ :=
  ifb (ilt a e) (ü d a fun c=>aNg (k:=tI) (v:=.bool) c.1 f (fun j=>ifb j (Â (ĕ g c) fun l=>ifb (!l) (h a) (ck (a+(1:Int)) fun m=>b m)) (ck (a+(1:Int)) fun n=>b n)) (ck (a+(1:Int)) fun o=>b o)) (i ())
def ĵ (d:Val l5) (e:Int) (f:Val abp) (g:Val l5) (a:Int) (b:Int→Option ρ) (h:Int→Option ρ) (i:Unit→Option ρ):Option ρ :=
  ifb (ilt a e) (ü d a fun c=>aNg (k:=tI) (v:=.bool) c.1 f (fun j=>ifb j (Â (ć g c) fun l=>ifb (!l) (h a) (ck (a+(1:Int)) fun m=>b m)) (ck (a+(1:Int)) fun n=>b n)) (ck (a+(1:Int)) fun o=>b o)) (i ())
def Đ (d:Val l5) (e:Int) (f:Val abp) (g:Val l5) (a:Int) (b:Int→Option ρ) (h:Int→Option ρ) (i:Unit→Option ρ):Option ρ :=
  ifb (ilt a e) (ü d a fun c=>aNg (k:=tI) (v:=.bool) c.1 f (fun j=>ifb j (Â (ć g c) fun l=>ifb (!l) (h a) (ck (a+(1:Int)) fun m=>b m)) (ck (a+(1:Int)) fun n=>b n)) (ck (a+(1:Int)) fun o=>b o)) (i ())
def aLi (b:Val Ä) (a:Val Ä) (k:Bool→Option ρ):Option ρ :=
  Ñ (fun(d:(Val (.pair tI abp))) e=>alN b.2.1 (Ü b.2.1) d.1 d.2 (fun f g=>e (f,g)) (fun c=>Ñ (fun(h:Int) i=>aii b.2.2.2.2.1 (Ü b.2.2.2.2.1) a.2.2.2.2.1 h (fun j=>i j) (fun l=>k l) (fun _=>ifb ((û b.1.1 a.1.1)&&((û b.1.2 a.1.2)&&true)) (Ñ (fun(m:Int) n=>aig b.2.1 (Ü b.2.1) a.2.1 m (fun o=>n o) (fun p=>ifb (!(ige p (0:Int))) (Ñ (fun(q:Int) r=>aeW b.2.2.1 (Ü b.2.2.1) c a.2.2.1 q (fun s=>r s) (fun t=>ifb (!(ige t (0:Int))) (Ñ (fun(u:Int) v=>af6 a.2.2.1 (Ü a.2.2.1) c b.2.2.1 u (fun w=>v w) (fun x=>ifb (!(ige x (0:Int))) (Ñ (fun(y:Int) z=>ĵ b.2.2.2.1 (Ü b.2.2.2.1) c a.2.2.2.1 y (fun A=>z A) (fun B=>ifb (!(ige B (0:Int))) (Ñ (fun(C:Int) D=>Đ a.2.2.2.1 (Ü a.2.2.2.1) c b.2.2.2.1 C (fun E=>D E) (fun F=>k (!(ige F (0:Int)))) (fun _=>k true)) (0:Int)) (k false)) (fun _=>Ñ (fun(G:Int) H=>Đ a.2.2.2.1 (Ü a.2.2.2.1) c b.2.2.2.1 G (fun I=>H I) (fun J=>k (!(ige J (0:Int)))) (fun _=>k true)) (0:Int))) (0:Int)) (k false)) (fun _=>Ñ (fun(K:Int) L=>ĵ b.2.2.2.1 (Ü b.2.2.2.1) c a.2.2.2.1 K (fun M=>L M) (fun N=>ifb (!(ige N (0:Int))) (Ñ (fun(O:Int) P=>Đ a.2.2.2.1 (Ü a.2.2.2.1) c b.2.2.2.1 O (fun Q=>P Q) (fun R=>k (!(ige R (0:Int)))) (fun _=>k true)) (0:Int)) (k false)) (fun _=>Ñ (fun(S:Int) T=>Đ a.2.2.2.1 (Ü a.2.2.2.1) c b.2.2.2.1 S (fun U=>T U) (fun V=>k (!(ige V (0:Int)))) (fun _=>k true)) (0:Int))) (0:Int))) (0:Int)) (k false)) (fun _=>Ñ (fun(W:Int) X=>af6 a.2.2.1 (Ü a.2.2.1) c b.2.2.1 W (fun Y=>X Y) (fun Z=>ifb (!(ige Z (0:Int))) (Ñ (fun(v124:Int) kk126=>ĵ b.2.2.2.1 (Ü b.2.2.2.1) c a.2.2.2.1 v124 (fun u125=>kk126 u125) (fun z112=>ifb (!(ige z112 (0:Int))) (Ñ (fun(v115:Int) kk117=>Đ a.2.2.2.1 (Ü a.2.2.2.1) c b.2.2.2.1 v115 (fun u116=>kk117 u116) (fun z113=>k (!(ige z113 (0:Int)))) (fun _=>k true)) (0:Int)) (k false)) (fun _=>Ñ (fun(v121:Int) kk123=>Đ a.2.2.2.1 (Ü a.2.2.2.1) c b.2.2.2.1 v121 (fun u122=>kk123 u122) (fun z119=>k (!(ige z119 (0:Int)))) (fun _=>k true)) (0:Int))) (0:Int)) (k false)) (fun _=>Ñ (fun(v140:Int) kk142=>ĵ b.2.2.2.1 (Ü b.2.2.2.1) c a.2.2.2.1 v140 (fun u141=>kk142 u141) (fun z128=>ifb (!(ige z128 (0:Int))) (Ñ (fun(v131:Int) kk133=>Đ a.2.2.2.1 (Ü a.2.2.2.1) c b.2.2.2.1 v131 (fun u132=>kk133 u132) (fun z129=>k (!(ige z129 (0:Int)))) (fun _=>k true)) (0:Int)) (k false)) (fun _=>Ñ (fun(v137:Int) kk139=>Đ a.2.2.2.1 (Ü a.2.2.2.1) c b.2.2.2.1 v137 (fun u138=>kk139 u138) (fun z135=>k (!(ige z135 (0:Int)))) (fun _=>k true)) (0:Int))) (0:Int))) (0:Int))) (0:Int)) (k false)) (fun _=>Ñ (fun(v222:Int) kk224=>aeW b.2.2.1 (Ü b.2.2.1) c a.2.2.1 v222 (fun u223=>kk224 u223) (fun z150=>ifb (!(ige z150 (0:Int))) (Ñ (fun(v183:Int) kk185=>af6 a.2.2.1 (Ü a.2.2.1) c b.2.2.1 v183 (fun u184=>kk185 u184) (fun z151=>ifb (!(ige z151 (0:Int))) (Ñ (fun(v164:Int) kk166=>ĵ b.2.2.2.1 (Ü b.2.2.2.1) c a.2.2.2.1 v164 (fun u165=>kk166 u165) (fun z152=>ifb (!(ige z152 (0:Int))) (Ñ (fun(v155:Int) kk157=>Đ a.2.2.2.1 (Ü a.2.2.2.1) c b.2.2.2.1 v155 (fun u156=>kk157 u156) (fun z153=>k (!(ige z153 (0:Int)))) (fun _=>k true)) (0:Int)) (k false)) (fun _=>Ñ (fun(v161:Int) kk163=>Đ a.2.2.2.1 (Ü a.2.2.2.1) c b.2.2.2.1 v161 (fun u162=>kk163 u162) (fun z159=>k (!(ige z159 (0:Int)))) (fun _=>k true)) (0:Int))) (0:Int)) (k false)) (fun _=>Ñ (fun(v180:Int) kk182=>ĵ b.2.2.2.1 (Ü b.2.2.2.1) c a.2.2.2.1 v180 (fun u181=>kk182 u181) (fun z168=>ifb (!(ige z168 (0:Int))) (Ñ (fun(v171:Int) kk173=>Đ a.2.2.2.1 (Ü a.2.2.2.1) c b.2.2.2.1 v171 (fun u172=>kk173 u172) (fun z169=>k (!(ige z169 (0:Int)))) (fun _=>k true)) (0:Int)) (k false)) (fun _=>Ñ (fun(v177:Int) kk179=>Đ a.2.2.2.1 (Ü a.2.2.2.1) c b.2.2.2.1 v177 (fun u178=>kk179 u178) (fun z175=>k (!(ige z175 (0:Int)))) (fun _=>k true)) (0:Int))) (0:Int))) (0:Int)) (k false)) (fun _=>Ñ (fun(v219:Int) kk221=>af6 a.2.2.1 (Ü a.2.2.1) c b.2.2.1 v219 (fun u220=>kk221 u220) (fun z187=>ifb (!(ige z187 (0:Int))) (Ñ (fun(v200:Int) kk202=>ĵ b.2.2.2.1 (Ü b.2.2.2.1) c a.2.2.2.1 v200 (fun u201=>kk202 u201) (fun z188=>ifb (!(ige z188 (0:Int))) (Ñ (fun(v191:Int) kk193=>Đ a.2.2.2.1 (Ü a.2.2.2.1) c b.2.2.2.1 v191 (fun u192=>kk193 u192) (fun z189=>k (!(ige z189 (0:Int)))) (fun _=>k true)) (0:Int)) (k false)) (fun _=>Ñ (fun(v197:Int) kk199=>Đ a.2.2.2.1 (Ü a.2.2.2.1) c b.2.2.2.1 v197 (fun u198=>kk199 u198) (fun z195=>k (!(ige z195 (0:Int)))) (fun _=>k true)) (0:Int))) (0:Int)) (k false)) (fun _=>Ñ (fun(v216:Int) kk218=>ĵ b.2.2.2.1 (Ü b.2.2.2.1) c a.2.2.2.1 v216 (fun u217=>kk218 u217) (fun z204=>ifb (!(ige z204 (0:Int))) (Ñ (fun(v207:Int) kk209=>Đ a.2.2.2.1 (Ü a.2.2.2.1) c b.2.2.2.1 v207 (fun u208=>kk209 u208) (fun z205=>k (!(ige z205 (0:Int)))) (fun _=>k true)) (0:Int)) (k false)) (fun _=>Ñ (fun(v213:Int) kk215=>Đ a.2.2.2.1 (Ü a.2.2.2.1) c b.2.2.2.1 v213 (fun u214=>kk215 u214) (fun z211=>k (!(ige z211 (0:Int)))) (fun _=>k true)) (0:Int))) (0:Int))) (0:Int))) (0:Int))) (0:Int)) (k false))) (0:Int))) ((0:Int),[])
def ap6 (a:Val Ä) (b:Val Ä):Option (Bool):=aLi a b some
def axF (b:Val Ä) (a:Val ĉ) (k:Val abJ→Option ρ):Option ρ :=
  Â (ö b) fun c=>ifb (ine c (0:Int)) (k (false,c)) (ifb ((û a.2.1.1 (0:Int))&&((û a.2.1.2 (0:Int))&&true)) (Â (agt a) fun d=>ifb (ine d (0:Int)) (k (false,d)) (Â (ap6 a.1 b) fun f=>k (f,(0:Int)))) (Â (afC a) fun e=>ifb (ine e (0:Int)) (k (false,e)) (Â (ap6 a.1 b) fun g=>k (g,(0:Int)))))
def alh (a:Val Ä) (b:Val ĉ):Option ((Val abJ)):=axF a b some
def apK (c:Int) (a:Int) (b:Val m5) (d:Int→Val m5→Option ρ) (e:Val m5→Option ρ):Option ρ :=
  ifb (ilt a c) (ô ((ile (0:Int) a)&&(ilt a (Ĩ b))) (Ψ b (Int.toNat a) fun g=>ck (a+(1:Int)) fun f=>d f (List.set b (Int.toNat a) (1152921504606846976:Int)))) (e b)
def aLE (c:Int) (a:Int) (b:Val m5) (d:Int→Val m5→Option ρ) (e:Val m5→Option ρ):Option ρ :=
  ifb (ilt a c) (ô ((ile (0:Int) a)&&(ilt a (Ĩ b))) (Ψ b (Int.toNat a) fun g=>ck (a+(1:Int)) fun f=>d f (List.set b (Int.toNat a) (1152921504606846976:Int)))) (e b)
def avl (d:Val m5) (f:Val wi) (g:Int) (c:Int) (b:Val m5) (e:Int→Val m5→Option ρ) (h:Val m5→Option ρ):Option ρ :=
  ifb (ilt c g) (ü f c fun a=>ü d a.2.1 fun i=>ifb (ine i (1152921504606846976:Int)) (ô ((ile (0:Int) a.1)&&(ilt a.1 (Ĩ b))) (Ψ b (Int.toNat a.1) fun j=>ü d a.2.1 fun k=>ck (a.2.2+k) fun l=>ô ((ile (0:Int) a.1)&&(ilt a.1 (Ĩ b))) (Ψ b (Int.toNat a.1) fun o=>ck (c+(1:Int)) fun m=>e m (List.set b (Int.toNat a.1) (aPV j l))))) (ck (c+(1:Int)) fun n=>e n b)) (h b)
def aBv (i:Int) (b:Int) (d:Val wi) (e:Int) (a:Val abr) (j:Int→Val abr→Option ρ) (k:Val abr→Option ρ):Option ρ :=
  ifb (ilt e i) (ck ((Ü a)-(1:Int)) fun c=>ô ((ile (0:Int) c)&&(ilt c (Ĩ a))) (Ψ a (Int.toNat c) fun l=>ô ((ile (0:Int) b)&&(ì (Int.toNat b))) (Ñ (fun(f:Val abz) m=>aLE (Ü (List.replicate (Int.toNat b) (0:Int))) f.1 f.2 (fun n o=>m (n,o)) (fun p=>Ñ (fun(g:Val abz) q=>avl l d (Ü d) g.1 g.2 (fun r s=>q (r,s)) (fun h=>ô (ì ((List.length a)+(List.length ([h])))) (ck (e+(1:Int)) fun t=>j t (a++([h]))))) ((0:Int),p))) ((0:Int),(List.replicate (Int.toNat b) (0:Int)))))) (k a)
def aDV (a:Val Í) (b:Int) (f:Int) (k:Val abr→Option ρ):Option ρ :=
  ô ((ile (0:Int) a.1)&&(ì (Int.toNat a.1))) (Ñ (fun(d:Val abz) g=>apK (Ü (List.replicate (Int.toNat a.1) (0:Int))) d.1 d.2 (fun h i=>g (h,i)) (fun c=>ô ((ile (0:Int) b)&&(ilt b (Ĩ c))) (Ψ c (Int.toNat b) fun o=>Ñ (fun(e:(Val (.pair tI abr))) j=>aBv f a.1 a.2 e.1 e.2 (fun l m=>j (l,m)) (fun n=>k n)) ((0:Int),[(List.set c (Int.toNat b) (0:Int))])))) ((0:Int),(List.replicate (Int.toNat a.1) (0:Int))))
def apa (a:Val Í) (b:Int) (c:Int):Option ((Val abr)):=aDV a b c some
def azH (d:Int) (c:Int) (e:Val wi) (a:Int) (b:Val abS) (f:Int→Val abS→Option ρ) (g:Val abS→Option ρ):Option ρ :=
  ifb (ilt a d) (Â (apa (c,e) a c) fun h=>ô ((ile (0:Int) a)&&(ilt a (Ĩ b))) (Ψ b (Int.toNat a) fun j=>ck (a+(1:Int)) fun i=>f i (List.set b (Int.toNat a) h))) (g b)
def azD (g:Int) (h:Val abr) (j:Val wi) (k:Int) (e:Int) (b:Int) (a:Int) (c:Val m5) (f:Int→Int→Int→Val m5→Option ρ) (i:(Val (.pair tI abz))→Option ρ):Option ρ :=
  ifb (ilt a k) (ü j a fun d=>ifb (ieq d.1 e) (ck (g-(1:Int)) fun l=>ü h l fun m=>ü m d.2.1 fun n=>ifb (ine n (1152921504606846976:Int)) (ck (b+d.2.2) fun o=>ck (g-(1:Int)) fun p=>ü h p fun q=>ü q d.2.1 fun r=>ck (o+r) fun s=>ifb (ilt s (0:Int)) (ô (ì ((List.length c)+(List.length ([a])))) (ck (b+d.2.2) fun t=>i (d.2.1,t,(c++([a]))))) (ck (a+(1:Int)) fun u=>f e b u c)) (ck (a+(1:Int)) fun v=>f e b v c)) (ck (a+(1:Int)) fun w=>f e b w c)) (i (e,b,c))
def azE (f:Val abr) (d:Val wi) (g:Int) (b:Int) (h:Int) (e:Val m5) (i:Int→Int→Int→Val m5→Option ρ) (j:Val m5→Option ρ):Option ρ :=
  ifb (igt b (0:Int)) (Ñ (fun(a:Val abO) k=>azD b f d (Ü d) a.1 a.2.1 a.2.2.1 a.2.2.2 (fun l m n o=>k (l,m,n,o)) (fun c=>ck (b-(1:Int)) fun p=>i c.1 p c.2.1 c.2.2)) (g,h,(0:Int),e)) (j e)
def azF (e:Int) (h:Val wi) (i:Int) (j:Int) (k:Val wi) (b:Val abS) (c:Int) (f:Int→Option ρ) (l:Unit→Option ρ) (m:Val abz→Option ρ) (n:Unit→Option ρ):Option ρ :=
  ifb (ilt c i) (ü h c fun a=>ô ((ile (0:Int) a.1)&&(ilt a.1 (Ĩ b))) (Ψ b (Int.toNat a.1) fun o=>ck (e-(1:Int)) fun p=>ü o p fun q=>ü q a.2.1 fun g=>ifb (ieq g (1152921504606846976:Int)) (ck (c+(1:Int)) fun r=>f r) (ck (a.2.2+g) fun s=>ifb (ige s (0:Int)) (ck (c+(1:Int)) fun t=>f t) (ifb (igt e j) (l ()) (ô ((ile (0:Int) a.1)&&(ilt a.1 (Ĩ b))) (Ψ b (Int.toNat a.1) fun u=>Ñ (fun(d:Val abO) v=>azE u k d.1 d.2.1 d.2.2.1 d.2.2.2 (fun w x y z=>v (w,x,y,z)) (fun A=>m ((0:Int),A))) (a.1,e,(0:Int),[]))))))) (n ())
def azG (d:Int) (a:Val wi) (e:Val abS) (b:Int) (f:Int→Option ρ) (g:Unit→Option ρ) (h:Val abz→Option ρ):Option ρ :=
  Ñ (fun(i:Int) j=>azF b a (Ü a) d a e i (fun k=>j k) (fun _=>g ()) (fun c=>h (c.1,c.2)) (fun _=>ck (b+(1:Int)) fun l=>f l)) (0:Int)
def aD8 (a:Val Í) (k:Val abI→Option ρ):Option ρ :=
  Â (agU a) fun b=>ifb (ine b.1 (0:Int)) (k ([],b.1)) (Â (ae8 a ([])) fun e=>ifb e.2 (k ([],(5:Int))) (ô ((ile (0:Int) a.1)&&(ì (Int.toNat a.1))) (Ñ (fun(c:(Val (.pair tI abS))) f=>azH (Ü (List.replicate (Int.toNat a.1) ([]:Val abr))) a.1 a.2 c.1 c.2 (fun g h=>f (g,h)) (fun i=>Ñ (fun(j:Int) l=>azG a.1 a.2 i j (fun m=>l m) (fun _=>k ([],(5:Int))) (fun d=>k (d.2,d.1))) (1:Int))) ((0:Int),(List.replicate (Int.toNat a.1) ([]:Val abr))))))
def apb (a:Val Í):Option ((Val abI)):=aD8 a some
def agp (d:Val eI) (e:Val m5) (f:Int) (a:Int) (b:Val eI) (g:Int→Val eI→Option ρ) (h:Val eI→Option ρ):Option ρ :=
  ifb (ilt a f) (ü e a fun i=>ü d i fun c=>ô (ì ((List.length b)+(List.length ([c])))) (ck (a+(1:Int)) fun j=>g j (b++([c])))) (h b)
def asI (c:Val Ä) (a:Val m5) (k:Val eI→Option ρ):Option ρ :=
  Â (ĥ c) fun d=>Ñ (fun(b:Val abG) e=>agp d.2.1 a (Ü a) b.1 b.2 (fun f g=>e (f,g)) (fun h=>k h)) ((0:Int),[])
def aiA (a:Val Ä) (b:Val m5):Option ((Val eI)):=asI a b some
def aDQ (a:Val Ä) (k:(Val (.pair ĉ tI))→Option ρ):Option ρ :=
  Â (ĥ a) fun b=>ifb (ine b.2.2 (0:Int)) (k (((((0:Int),(0:Int)),[],[],[],[],[]),((0:Int),(0:Int)),false,(0:Int),[]),b.2.2)) (Â (apb b.1) fun c=>ifb (ine c.2 (0:Int)) (k (((((0:Int),(0:Int)),[],[],[],[],[]),((0:Int),(0:Int)),false,(0:Int),[]),c.2)) (Â (aiA a c.1) fun f=>Â (aFe a f ([])) fun e=>Â (ĥ e) fun g=>Â (apb g.1) fun d=>ifb (ine d.2 (0:Int)) (k (((((0:Int),(0:Int)),[],[],[],[],[]),((0:Int),(0:Int)),false,(0:Int),[]),d.2)) (k ((e,((0:Int),(0:Int)),false,(0:Int),d.1),(0:Int)))))
def awo (a:Val Ä):Option ((Val (.pair ĉ tI))):=aDQ a some
def alS (a:Int) (k:Int→Option ρ):Option ρ :=
  k (aFZ (-288230376151711744:Int) (aPV a (288230376151711744:Int)))
def afB (a:Int):Option (Int):=alS a some
def alP (a:Val ÿ) (b:Int) (k:Val m5→Option ρ):Option ρ :=
  ck (b-a.2.1) fun c=>ck (a.2.2-b) fun d=>k ([c,d])
def adw (a:Val ÿ) (b:Int):Option ((Val m5)):=alP a b some
def ajZ (m:Int) (j:Val eI) (b:Int) (c:Int) (d:Int) (e:Val f6) (f:Val eI) (g:Val l5) (h:Val eW) (i:Val eI) (k:Int→Int→Int→Val f6→Val eI→Val l5→Val eW→Val eI→Option ρ) (n:Val abD→Option ρ) (o:Val nn→Option ρ):Option ρ :=
  ifb (ilt b m) (ô ((ile (0:Int) b)&&(ilt b (Ĩ j))) (Ψ j (Int.toNat b) fun l=>Â (Ř ((c,d),e,f,g,h,i) l) fun p=>ifb (ieq p.2 (0:Int)) (ck (b+(1:Int)) fun q=>k q c d e f g h i) (Â (aeM ((c,d),e,f,g,h,i) l) fun a=>ifb (ine a.2 (0:Int)) (n (a.2,c,d,e,f,g,h,i)) (ck (b+(1:Int)) fun r=>k r a.1.1.1 a.1.1.2 a.1.2.1 a.1.2.2.1 a.1.2.2.2.1 a.1.2.2.2.2.1 a.1.2.2.2.2.2)))) (o (c,d,e,f,g,h,i))
def agq (b:Val m5) (c:Int) (d:Int) (e:Int) (f:Int) (g:Int) (h:Int) (i:Int) (j:Int) (k:Int) (l:Int) (m:Int) (a:Int) (n:Int→Option ρ) (o:Int→Option ρ) (p:Unit→Option ρ):Option ρ :=
  ifb (ilt a c) (ü b a fun q=>Â (Ň ((f,g),(h,i,j),k,l,m) q) fun r=>Â (aiz r (d,e)) fun s=>ifb (ieq s (3:Int)) (o a) (ck (a+(1:Int)) fun t=>n t)) (p ())
def asO (c:Val Ä) (g:Val Ã) (b:Val Ã) (n:Val Ê) (k:Val abJ→Option ρ):Option ρ :=
  Â (ö c) fun h=>ifb (ine h (0:Int)) (ifb (ine h (0:Int)) (k (false,h)) (ô (igt b.1 b.2) (k (false,(1:Int))))) (Ñ (fun(d:Val abD) o=>ajZ (Ü ([g])) ([g]) d.1 d.2.1 d.2.2.1 d.2.2.2.1 d.2.2.2.2.1 d.2.2.2.2.2.1 d.2.2.2.2.2.2.1 d.2.2.2.2.2.2.2 (fun p q r s t u v w=>o (p,q,r,s,t,u,v,w)) (fun l=>ifb (ine l.1 (0:Int)) (k (false,l.1)) (ô (igt b.1 b.2) (k (false,(1:Int))))) (fun e=>Â (ĥ ((e.1,e.2.1),e.2.2)) fun f=>ifb (ine f.2.2 (0:Int)) (ifb (ine f.2.2 (0:Int)) (k (false,f.2.2)) (ô (igt b.1 b.2) (k (false,(1:Int))))) (Â (Ğ f.1) fun x=>ifb (!x.1) (k (false,(9:Int))) (ifb (igt b.1 b.2) (k (false,(1:Int))) (Â (alf (((e.1,e.2.1),e.2.2),f.1) g n) fun a=>ifb (ine a.2 (0:Int)) (k (false,a.2)) (Â (adv a.1.2.1) fun y=>Â (adv a.1.2.2) fun z=>Â (é ([y,z])) fun A=>Â (afB b.1) fun i=>Â (afB b.2) fun j=>Â (adw a.1.2.1 i) fun B=>ck (0-i) fun C=>Â (adw a.1.2.2 C) fun D=>Â (é ([A,B,D])) fun E=>Â (adw a.1.2.1 j) fun F=>ck (0-j) fun G=>Â (adw a.1.2.2 G) fun H=>Â (é ([E,F,H])) fun I=>Â (aeA a.1 I) fun m=>Ñ (fun(J:Int) K=>agq m (Ü m) i j a.1.1.1 a.1.1.2 a.1.2.1.1 a.1.2.1.2.1 a.1.2.1.2.2 a.1.2.2.1 a.1.2.2.2.1 a.1.2.2.2.2 J (fun L=>K L) (fun M=>k ((!(ige M (0:Int))),(0:Int))) (fun _=>k (true,(0:Int)))) (0:Int))))))) ((0:Int),c.1.1,c.1.2,c.2.1,c.2.2.1,c.2.2.2.1,c.2.2.2.2.1,c.2.2.2.2.2))
def aiB (a:Val Ä) (b:Val Ã) (c:Val Ã) (d:Val Ê):Option ((Val abJ)):=asO a b c d some
def anO (k:Val Ä→Option ρ):Option ρ :=
  k (((0:Int),(2:Int)),[((1:Int),(0:Int),(1000:Int),((-5:Int),(5:Int)),((1:Int),(10:Int)),(1:Int)),((2:Int),(0:Int),(1000:Int),((-50:Int),(50:Int)),((1:Int),(4:Int)),(0:Int))],[((1:Int),(10:Int))],[((1:Int),((20:Int),(29:Int)),(3:Int))],[((7:Int),(10:Int),[(1:Int)],[(2:Int)],(-20:Int),(1:Int),(100:Int),(200:Int))],[])
def ao5:Option (Val Ä):=anO some
def ajx (b:Val abr) (c:Int) (d:Int) (e:Int) (a:Int) (f:Int→Option ρ) (g:Int→Option ρ) (h:Unit→Option ρ):Option ρ :=
  ifb (ilt a c) (ü b a fun i=>ü i d fun j=>ifb (ieq j e) (g a) (ck (a+(1:Int)) fun k=>f k)) (h ())
def azI (g:Int) (h:Val abr) (j:Val wi) (k:Int) (l:Int) (e:Int) (b:Int) (a:Int) (c:Val m5) (f:Int→Int→Int→Val m5→Option ρ) (i:(Val (.pair tI abz))→Option ρ):Option ρ :=
  ifb (ilt a k) (ü j a fun d=>ifb (ieq d.1 e) (ck (g-(1:Int)) fun m=>ü h m fun n=>ü n d.2.1 fun o=>ifb (ine o (1152921504606846976:Int)) (ck (b+d.2.2) fun p=>ck (g-(1:Int)) fun q=>ü h q fun r=>ü r d.2.1 fun s=>ck (p+s) fun t=>ifb (ieq t l) (ô (ì ((List.length c)+(List.length ([a])))) (ck (b+d.2.2) fun u=>i (d.2.1,u,(c++([a]))))) (ck (a+(1:Int)) fun v=>f e b v c)) (ck (a+(1:Int)) fun w=>f e b w c)) (ck (a+(1:Int)) fun x=>f e b x c)) (i (e,b,c))
def ajw (f:Val abr) (g:Int) (d:Val wi) (h:Int) (b:Int) (i:Int) (e:Val m5) (j:Int→Int→Int→Val m5→Option ρ) (k:Val m5→Option ρ):Option ρ :=
  ifb (igt b (0:Int)) (Ñ (fun(a:Val abO) l=>azI b f d (Ü d) g a.1 a.2.1 a.2.2.1 a.2.2.2 (fun m n o p=>l (m,n,o,p)) (fun c=>ck (b-(1:Int)) fun q=>j c.1 q c.2.1 c.2.2)) (h,i,(0:Int),e)) (k e)
def aEe (a:Val Í) (c:Int) (g:Int) (k:Val abI→Option ρ):Option ρ :=
  Â (aiD a c g) fun b=>ifb (ine b.2 (0:Int)) (k ([],b.2)) (Â (apa a g a.1) fun d=>Ñ (fun(h:Int) i=>ajx d (Ü d) c b.1 h (fun j=>i j) (fun l=>Ñ (fun(e:Val abO) m=>ajw d b.1 a.2 e.1 e.2.1 e.2.2.1 e.2.2.2 (fun n o p q=>m (n,o,p,q)) (fun r=>k (r,(0:Int)))) (c,l,(0:Int),[])) (fun _=>Ñ (fun(f:Val abO) s=>ajw d b.1 a.2 f.1 f.2.1 f.2.2.1 f.2.2.2 (fun t u v w=>s (t,u,v,w)) (fun x=>k (x,(0:Int)))) (c,(-1:Int),(0:Int),[]))) (0:Int))
def apc (a:Val Í) (b:Int) (c:Int):Option ((Val abI)):=aEe a b c some
def alW (a:Val abx) (c:Val abX) (d:(Val (.ptr .bool))) (k:Val m5→Option ρ):Option ρ :=
  Â (Λ a c) fun b=>ifb d (Â (apc a.2 (0:Int) b) fun e=>k e.1) (Â (apc a.2 b (0:Int)) fun f=>k f.1)
def afD (a:Val abx) (b:Val abX) (c:(Val (.ptr .bool))):Option ((Val m5)):=alW a b c some
def aj3 (m:Int) (j:Val eI) (b:Int) (c:Int) (d:Int) (e:Val f6) (f:Val eI) (g:Val l5) (h:Val eW) (i:Val eI) (k:Int→Int→Int→Val f6→Val eI→Val l5→Val eW→Val eI→Option ρ) (n:Val abD→Option ρ) (o:Val nn→Option ρ):Option ρ :=
  ifb (ilt b m) (ô ((ile (0:Int) b)&&(ilt b (Ĩ j))) (Ψ j (Int.toNat b) fun l=>Â (Ř ((c,d),e,f,g,h,i) l) fun p=>ifb (ieq p.2 (0:Int)) (ck (b+(1:Int)) fun q=>k q c d e f g h i) (Â (aeM ((c,d),e,f,g,h,i) l) fun a=>ifb (ine a.2 (0:Int)) (n (a.2,c,d,e,f,g,h,i)) (ck (b+(1:Int)) fun r=>k r a.1.1.1 a.1.1.2 a.1.2.1 a.1.2.2.1 a.1.2.2.2.1 a.1.2.2.2.2.1 a.1.2.2.2.2.2)))) (o (c,d,e,f,g,h,i))
def aj2 (a:Int) (b:Int) (d:Int→Option ρ) (c:Unit→Option ρ):Option ρ :=
  ifb (ilt b a) (none) (c ())
def asQ (d:Val Ä) (b:Val Ã) (f:Bool) (k:(Val (.pair ĉ tI))→Option ρ):Option ρ :=
  Â (ö d) fun i=>ifb (ine i (0:Int)) (ô (ine i (0:Int)) (k (((((0:Int),(0:Int)),[],[],[],[],[]),((0:Int),(0:Int)),false,(0:Int),[]),i))) (Ñ (fun(e:Val abD) n=>aj3 (Ü ([b])) ([b]) e.1 e.2.1 e.2.2.1 e.2.2.2.1 e.2.2.2.2.1 e.2.2.2.2.2.1 e.2.2.2.2.2.2.1 e.2.2.2.2.2.2.2 (fun o p q r s t u v=>n (o,p,q,r,s,t,u,v)) (fun l=>ô (ine l.1 (0:Int)) (k (((((0:Int),(0:Int)),[],[],[],[],[]),((0:Int),(0:Int)),false,(0:Int),[]),l.1))) (fun a=>Â (ĥ ((a.1,a.2.1),a.2.2)) fun c=>ifb (ine c.2.2 (0:Int)) (ô (ine c.2.2 (0:Int)) (k (((((0:Int),(0:Int)),[],[],[],[],[]),((0:Int),(0:Int)),false,(0:Int),[]),c.2.2))) (Â (Ğ c.1) fun w=>ifb (!w.1) (k (((((0:Int),(0:Int)),[],[],[],[],[]),((0:Int),(0:Int)),false,(0:Int),[]),(9:Int))) (Â (afD (((a.1,a.2.1),a.2.2),c.1) b f) fun x=>Â (aiA ((a.1,a.2.1),a.2.2) x) fun y=>Â (aFe ((a.1,a.2.1),a.2.2) y ([b])) fun g=>Â (ö g) fun j=>ifb (ine j (0:Int)) (ifb (ine j (0:Int)) (k (((((0:Int),(0:Int)),[],[],[],[],[]),((0:Int),(0:Int)),false,(0:Int),[]),j)) (Â (Κ (((a.1,a.2.1),a.2.2),c.1) b) fun F=>none)) (Ñ (fun(z:Int) A=>aj2 (0:Int) z (fun B=>A B) (fun _=>Â (ĥ g) fun h=>ifb (ine h.2.2 (0:Int)) (ifb (ine h.2.2 (0:Int)) (k (((((0:Int),(0:Int)),[],[],[],[],[]),((0:Int),(0:Int)),false,(0:Int),[]),h.2.2)) (Â (Κ (((a.1,a.2.1),a.2.2),c.1) b) fun G=>none)) (Â (Ğ h.1) fun C=>ifb (!C.1) (k (((((0:Int),(0:Int)),[],[],[],[],[]),((0:Int),(0:Int)),false,(0:Int),[]),(9:Int))) (Â (Κ (((a.1,a.2.1),a.2.2),c.1) b) fun D=>Â (afD (g,h.1) b f) fun m=>ifb f (Â (ψ (((a.1,a.2.1),a.2.2),c.1) b) fun E=>k ((g,b,f,E,m),(0:Int))) (k ((g,b,f,D,m),(0:Int))))))) (0:Int)))))) ((0:Int),d.1.1,d.1.2,d.2.1,d.2.2.1,d.2.2.2.1,d.2.2.2.2.1,d.2.2.2.2.2))
def amz (a:Val Ä) (b:Val Ã) (c:Bool):Option ((Val (.pair ĉ tI))):=asQ a b c some
def asl (k:Bool→Option ρ):Option ρ :=
  Â ao5 fun a=>Â (agT a ((2:Int),(10:Int))) fun c=>Â (agT a ((1:Int),(30:Int))) fun d=>Â (amA a ((1:Int),(10:Int)) ((2:Int),(10:Int))) fun e=>Â (aBF a (10:Int) ([(1:Int),(2:Int)])) fun f=>Â (awn a ((2:Int),(0:Int)) ((990:Int),(1010:Int))) fun g=>Â (amz a ((2:Int),(10:Int)) true) fun b=>ifb (ine c.2 (0:Int)) (k false) (ifb (ine d.2 (0:Int)) (k false) (ifb (ine e.2 (0:Int)) (k false) (ifb (ine f.2 (0:Int)) (k false) (ifb (ine g.2 (0:Int)) (k false) (ifb (ine b.2 (0:Int)) (k false) (ifb (!((û c.1.1 (984:Int))&&((û c.1.2 (1011:Int))&&true))) (k false) (ifb (!((û d.1.1 (964:Int))&&((û d.1.2 (1005:Int))&&true))) (k false) (ifb (!((û e.1.1 (-6:Int))&&((û e.1.2 (11:Int))&&true))) (k false) (ifb (!((û f.1.1 (1979:Int))&&((û f.1.2 (2018:Int))&&true))) (k false) (ifb (ine g.1 (3:Int)) (k false) (ifb (ine b.1.2.2.2.1 (1011:Int)) (k false) (Â (ao9 a ((2:Int),(10:Int)) ((8:Int),(10:Int),[(1:Int)],[(2:Int)],(0:Int),(0:Int),(0:Int),(0:Int))) fun h=>Â (aiB a ((2:Int),(10:Int)) ((900:Int),(1100:Int)) ((8:Int),(10:Int),[(1:Int)],[(2:Int)],(0:Int),(0:Int),(0:Int),(0:Int))) fun i=>Â (alh a b.1) fun j=>Â (awo a) fun l=>ifb (ieq h.2 (0:Int)) (ifb (ieq i.2 (0:Int)) (ifb (ieq j.2 (0:Int)) (ifb (ieq l.2 (5:Int)) (ifb (ieq h.1 (10:Int)) (ifb i.1 (ifb j.1 (Â (afC b.1) fun m=>k (ieq m (0:Int))) (k false)) (k false)) (k false)) (k false)) (k false)) (k false)) (k false)))))))))))))
def Ó:Option (Bool):=asl some
def aLy (a:Val Ä) (b:Val Ä) (k:Val abJ→Option ρ):Option ρ :=
  Â (ö a) fun c=>ifb (ine c (0:Int)) (k (false,c)) (Â (ö b) fun d=>ifb (ine d (0:Int)) (k (false,d)) (Â (ap6 a b) fun e=>k (e,(0:Int))))
def aBG (a:Val Ä) (b:Val Ä):Option ((Val abJ)):=aLy a b some
def anV (a:Val Ã) (b:Int) (c:Int) (k:Bool→Option ρ):Option ρ :=
  ifb (ile b a.1) (ifb (ile a.1 a.2) (k (ile a.2 c)) (k false)) (k false)
def ad0 (a:Val Ã) (b:Int) (c:Int):Option (Bool):=anV a b c some
def aRt (a:Int) (b:Int) (c:Int) (k:Bool→Option ρ):Option ρ :=
  ifb (ige a b) (k (ile a c)) (k false)
def afy (a:Int) (b:Int) (c:Int):Option (Bool):=aRt a b c some
def aKQ (a:Int) (k:Bool→Option ρ):Option ρ :=
  Â (afy a (0:Int) (20000:Int)) fun b=>k b
def amx (a:Int):Option (Bool):=aKQ a some
def alK (b:Int) (a:Int) (c:Int→Int→Option ρ) (d:Int→Option ρ):Option ρ :=
  ifb (ine a (0:Int)) (ifb (û a 0) (none) (c a (Int.tmod b a))) (d b)
def aK2 (b:Int) (c:Int) (k:Int→Option ρ):Option ρ :=
  Ñ (fun(a:Val Ã) d=>alK a.1 a.2 (fun e f=>d (e,f)) (fun g=>k g)) (b,c)
def ap4 (a:Int) (b:Int):Option (Int):=aK2 a b some
def aK6 (a:Int) (k:Int→Option ρ):Option ρ :=
  ifb (ilt a (0:Int)) (ck ((0:Int)-a) fun b=>k b) (k a)
def awk (a:Int):Option (Int):=aK6 a some
def axr (a:Val Ã) (k:Bool→Option ρ):Option ρ :=
  ifb (ilt a.2 (1:Int)) (k false) (ifb (igt a.2 (2147483647:Int)) (k false) (ifb (ilt a.1 (-2147483647:Int)) (k false) (ifb (igt a.1 (2147483647:Int)) (k false) (Â (awk a.1) fun b=>Â (ap4 b a.2) fun c=>k (ieq c (1:Int))))))
def ap2 (a:Val Ã):Option (Bool):=axr a some
def axg (a:Val Ð) (k:Bool→Option ρ):Option ρ :=
  Â (ap2 a.2.2.2.2.1) fun b=>ifb (!b) (k false) (Â (afy a.2.2.2.2.1.1 (-1000:Int) (1000:Int)) fun c=>ifb (!c) (k false) (ifb (igt a.2.2.2.2.1.2 (100:Int)) (k false) (Â (afy a.1 (1:Int) (1099511627776:Int)) fun d=>ifb d (Â (amx a.2.1) fun e=>ifb e (Â (afy a.2.2.1 (1:Int) (1125899906842624:Int)) fun f=>ifb f (Â (ad0 a.2.2.2.1 (-1073741824:Int) (1073741824:Int)) fun g=>ifb g (Â (afy a.2.2.2.2.2 (0:Int) (1048576:Int)) fun h=>k h) (k false)) (k false)) (k false)) (k false))))
def apZ (a:Val Ð):Option (Bool):=axg a some
def ajd (c:Int) (b:Val f6) (a:Int) (d:Int→Option ρ) (e:Int→Option ρ) (f:Unit→Option ρ):Option ρ :=
  ifb (ilt a (Ü b)) (ü b a fun g=>ifb (ieq g.1 c) (e a) (ck (a+(1:Int)) fun h=>d h)) (f ())
def aDg (a:Val Ä) (b:Int) (k:Int→Option ρ):Option ρ :=
  Ñ (fun(c:Int) d=>ajd b a.2.1 c (fun e=>d e) (fun f=>k f) (fun _=>k (-1:Int))) (0:Int)
def aix (a:Val Ä) (b:Int):Option (Int):=aDg a b some
def axi (a:Val Ä) (c:Int) (d:Int) (k:Int→Option ρ):Option ρ :=
  Â (aix a c) fun b=>ifb (ilt b (0:Int)) (k (5:Int)) (ü a.2.1 b fun e=>ifb (ilt d e.2.1) (k (4:Int)) (k (0:Int)))
def agd (a:Val Ä) (b:Int) (c:Int):Option (Int):=axi a b c some
def ai3 (e:Int) (f:Int) (g:Val f6) (a:Val eI) (h:Val l5) (i:Val eW) (j:Val eI) (b:Int) (k:Int→Option ρ) (c:Int→Option ρ) (l:Unit→Option ρ):Option ρ :=
  ifb (ilt b (Ü a)) (ü a b fun m=>Â (amx m.2) fun n=>ifb (!n) (c (1:Int)) (ü a b fun o=>ü a b fun p=>Â (agd ((e,f),g,a,h,i,j) o.1 p.2) fun d=>ifb (ine d (0:Int)) (c d) (ck (b+(1:Int)) fun q=>k q))) (l ())
def aCL (a:Val Ä) (k:Int→Option ρ):Option ρ :=
  Ñ (fun(b:Int) c=>ai3 a.1.1 a.1.2 a.2.1 a.2.2.1 a.2.2.2.1 a.2.2.2.2.1 a.2.2.2.2.2 b (fun d=>c d) (fun e=>k e) (fun _=>k (0:Int))) (0:Int)
def awf (a:Val Ä):Option (Int):=aCL a some
def ahn (d:Int) (b:Val l5) (e:Int) (f:Int) (g:Int) (a:Int) (c:Int→Option ρ) (h:Int→Option ρ) (i:Unit→Option ρ):Option ρ :=
  ifb (ilt a d) (ü b a fun j=>ifb (ieq j.1 e) (ü b a fun k=>ifb (ile k.2.1.1 g) (ü b a fun l=>ifb (ile f l.2.1.2) (h (9:Int)) (ck (a+(1:Int)) fun m=>c m)) (ck (a+(1:Int)) fun n=>c n)) (ck (a+(1:Int)) fun o=>c o)) (i ())
def afp (b:Val eI) (d:Int) (e:Int) (f:Int) (a:Int) (c:Int→Option ρ) (g:Int→Option ρ) (h:Unit→Option ρ):Option ρ :=
  ifb (ilt a (Ü b)) (ü b a fun i=>ifb (ieq i.1 d) (ü b a fun j=>Â (afy j.2 e f) fun k=>ifb k (g (9:Int)) (ck (a+(1:Int)) fun l=>c l)) (ck (a+(1:Int)) fun m=>c m)) (h ())
def aho (g:Int) (h:Int) (i:Val f6) (e:Val eI) (c:Val l5) (j:Val eW) (k:Val eI) (d:Int) (l:Int→Option ρ) (b:Int→Option ρ) (m:Unit→Option ρ):Option ρ :=
  ifb (ilt d (Ü c)) (ü c d fun a=>Â (ad0 a.2.1 (0:Int) (20000:Int)) fun n=>ifb (!n) (b (1:Int)) (Â (afy a.2.2 (0:Int) (1048576:Int)) fun o=>ifb (!o) (b (1:Int)) (Â (agd ((g,h),i,e,c,j,k) a.1 a.2.1.1) fun f=>ifb (ine f (0:Int)) (b f) (Ñ (fun(p:Int) q=>ahn d c a.1 a.2.1.1 a.2.1.2 p (fun r=>q r) (fun s=>b s) (fun _=>Ñ (fun(t:Int) u=>afp e a.1 a.2.1.1 a.2.1.2 t (fun v=>u v) (fun w=>b w) (fun _=>ck (d+(1:Int)) fun x=>l x)) (0:Int))) (0:Int))))) (m ())
def axe (a:Val Ä) (k:Int→Option ρ):Option ρ :=
  Ñ (fun(b:Int) c=>aho a.1.1 a.1.2 a.2.1 a.2.2.1 a.2.2.2.1 a.2.2.2.2.1 a.2.2.2.2.2 b (fun d=>c d) (fun e=>k e) (fun _=>k (0:Int))) (0:Int)
def apY (a:Val Ä):Option (Int):=axe a some
def ai9 (b:Val m5) (a:Int) (c:Int→Option ρ) (d:Bool→Option ρ) (e:Unit→Option ρ):Option ρ :=
  ifb (ilt a (Ü b)) (ü b a fun f=>Â (afy f (1:Int) (1099511627776:Int)) fun g=>ifb (!g) (d false) (ifb (igt a (0:Int)) (ü b a fun h=>ck (a-(1:Int)) fun i=>ü b i fun j=>ifb (ile h j) (d false) (ck (a+(1:Int)) fun k=>c k)) (ck (a+(1:Int)) fun l=>c l))) (e ())
def aCZ (a:Val m5) (k:Bool→Option ρ):Option ρ :=
  Ñ (fun(b:Int) c=>ai9 a b (fun d=>c d) (fun e=>k e) (fun _=>k (ile (Ü a) (6:Int)))) (0:Int)
def ao7 (a:Val m5):Option (Bool):=aCZ a some
def axd (a:Val Ê) (k:Bool→Option ρ):Option ρ :=
  Â (ao7 a.2.2.1) fun b=>Â (ao7 a.2.2.2.1) fun c=>ifb b (ifb c (Â (afy a.1 (1:Int) (1099511627776:Int)) fun d=>ifb d (Â (amx a.2.1) fun e=>ifb e (Â (afy a.2.2.2.2.1 (-1125899906842624:Int) (1125899906842624:Int)) fun f=>ifb f (Â (afy a.2.2.2.2.2.1 (0:Int) (1073741824:Int)) fun g=>ifb g (Â (ad0 a.2.2.2.2.2.2 (-10000:Int) (10000:Int)) fun h=>k h) (k false)) (k false)) (k false)) (k false)) (k false)) (k false)
def apX (a:Val Ê):Option (Bool):=axd a some
def ajb (j:Int) (h:Int) (i:Val l5) (b:Int) (c:Int) (d:Int) (e:Int) (f:Int) (g:Int→Int→Int→Int→Int→Option ρ) (k:(Val (.pair .bool (.pair tI ÿ)))→Option ρ) (l:(Val (.pair tI ÿ))→Option ρ):Option ρ :=
  ifb (ilt b (Ü i)) (ü i b fun a=>ifb (ieq a.1 j) (ifb (ile a.2.1.1 h) (ifb (ile h a.2.1.2) (k (true,a.1,a.2.1.1,a.2.1.2,a.2.2)) (ck (b+(1:Int)) fun m=>g m c d e f)) (ck (b+(1:Int)) fun n=>g n c d e f)) (ck (b+(1:Int)) fun o=>g o c d e f)) (l (c,d,e,f))
def aC9 (c:Val Ä) (d:Int) (e:Int) (k:Val ab3→Option ρ):Option ρ :=
  Ñ (fun(a:Val ab7) f=>ajb d e c.2.2.2.1 a.1 a.2.1 a.2.2.1 a.2.2.2.1 a.2.2.2.2 (fun g h i j l=>f (g,h,i,j,l)) (fun b=>k ((b.2.1,(b.2.2.1,b.2.2.2.1),b.2.2.2.2),b.1)) (fun m=>k (((0:Int),((0:Int),(0:Int)),(0:Int)),false))) ((0:Int),(0:Int),(0:Int),(0:Int),(0:Int))
def ao8 (a:Val Ä) (b:Int) (c:Int):Option ((Val ab3)):=aC9 a b c some
def alH (b:Val m5) (c:Int) (a:Int) (d:Int→Option ρ) (e:Bool→Option ρ) (f:Unit→Option ρ):Option ρ :=
  ifb (ilt a (Ü b)) (ü b a fun g=>ifb (ieq g c) (e true) (ck (a+(1:Int)) fun h=>d h)) (f ())
def aKN (a:Val m5) (b:Int) (k:Bool→Option ρ):Option ρ :=
  Ñ (fun(c:Int) d=>alH a b c (fun e=>d e) (fun f=>k f) (fun _=>k false)) (0:Int)
def aBC (a:Val m5) (b:Int):Option (Bool):=aKN a b some
def ajc (c:Val m5) (f:Val m5) (a:Int) (b:Val m5) (d:Int→Val m5→Option ρ) (g:Val m5→Option ρ):Option ρ :=
  ifb (ilt a (Ü c)) (ü c a fun h=>Â (aBC f h) fun i=>ifb (!i) (ü c a fun e=>ô (ì ((List.length b)+(List.length ([e])))) (ck (a+(1:Int)) fun j=>d j (b++([e])))) (ck (a+(1:Int)) fun k=>d k b)) (g b)
def aDb (b:Val m5) (c:Val m5) (k:Val m5→Option ρ):Option ρ :=
  Ñ (fun(a:Val abz) d=>ajc b c a.1 a.2 (fun e f=>d (e,f)) (fun g=>k g)) ((0:Int),[])
def aez (a:Val m5) (b:Val m5):Option ((Val m5)):=aDb a b some
def aeH (c:Int) (d:Int) (e:Val f6) (f:Val eI) (g:Val l5) (h:Val eW) (i:Val eI) (b:Val m5) (a:Int) (j:Int→Option ρ) (k:Int→Option ρ) (l:Unit→Option ρ):Option ρ :=
  ifb (ilt a (Ü b)) (ô ((ile (0:Int) a)&&(ilt a (Ĩ b))) (Ψ b (Int.toNat a) fun m=>Â (aix ((c,d),e,f,g,h,i) m) fun n=>ifb (ilt n (0:Int)) (k (5:Int)) (ck (a+(1:Int)) fun o=>j o))) (l ())
def adD (c:Int) (d:Int) (e:Val f6) (f:Val eI) (g:Val l5) (h:Val eW) (i:Val eI) (j:Int) (b:Val m5) (a:Int) (k:Int→Option ρ) (l:Int→Option ρ) (m:Unit→Option ρ):Option ρ :=
  ifb (ilt a (Ü b)) (ô ((ile (0:Int) a)&&(ilt a (Ĩ b))) (Ψ b (Int.toNat a) fun n=>Â (agd ((c,d),e,f,g,h,i) n j) fun o=>ifb (ine o (0:Int)) (l (4:Int)) (ck (a+(1:Int)) fun p=>k p))) (m ())
def ŷ (c:Int) (d:Int) (e:Val f6) (f:Val eI) (g:Val l5) (h:Val eW) (i:Val eI) (j:Int) (b:Val m5) (a:Int) (k:Int→Option ρ) (l:Int→Option ρ) (m:Unit→Option ρ):Option ρ :=
  ifb (ilt a (Ü b)) (ô ((ile (0:Int) a)&&(ilt a (Ĩ b))) (Ψ b (Int.toNat a) fun n=>Â (ao8 ((c,d),e,f,g,h,i) n j) fun o=>ifb o.2 (l (9:Int)) (ck (a+(1:Int)) fun p=>k p))) (m ())
def alD (a:Val Ä) (b:Val Ê) (k:Int→Option ρ):Option ρ :=
  ô (ì (0+(List.length b.2.2.1))) (ô (ì ((List.length (([])++b.2.2.1))+(List.length b.2.2.2.1))) (Ñ (fun(e:Int) f=>aeH a.1.1 a.1.2 a.2.1 a.2.2.1 a.2.2.2.1 a.2.2.2.2.1 a.2.2.2.2.2 ((([])++b.2.2.1)++b.2.2.2.1) e (fun g=>f g) (fun h=>k h) (fun _=>Ñ (fun(i:Int) j=>adD a.1.1 a.1.2 a.2.1 a.2.2.1 a.2.2.2.1 a.2.2.2.2.1 a.2.2.2.2.2 b.2.1 ((([])++b.2.2.1)++b.2.2.2.1) i (fun l=>j l) (fun m=>k m) (fun _=>Ñ (fun(n:Int) o=>ŷ a.1.1 a.1.2 a.2.1 a.2.2.1 a.2.2.2.1 a.2.2.2.2.1 a.2.2.2.2.2 b.2.1 ((([])++b.2.2.1)++b.2.2.2.1) n (fun p=>o p) (fun q=>k q) (fun _=>Â (aez b.2.2.1 b.2.2.2.1) fun c=>Â (aez b.2.2.2.1 b.2.2.1) fun d=>ifb (igt (Ü c) (1:Int)) (k (1:Int)) (ifb (igt (Ü d) (1:Int)) (k (1:Int)) (ck ((Ü c)+(Ü d)) fun r=>ifb (ieq r (0:Int)) (k (1:Int)) (k (0:Int)))))) (0:Int))) (0:Int))) (0:Int)))
def aei (a:Val Ä) (b:Val Ê):Option (Int):=alD a b some
def aKu (b:Val m5) (c:Val m5) (k:Int→Option ρ):Option ρ :=
  Â (aez b c) fun a=>ifb (ieq (Ü a) (0:Int)) (k (0:Int)) (ü a (0:Int) fun d=>k d)
def ahC (a:Val m5) (b:Val m5):Option (Int):=aKu a b some
def ai7 (g:Int) (c:Val eW) (d:Int) (b:Int) (e:Int→Option ρ) (f:Bool→Option ρ) (h:Unit→Option ρ):Option ρ :=
  ifb (ilt b (Ü c)) (ü c b fun a=>ifb (ieq a.2.1 g) (Â (ahC a.2.2.1 a.2.2.2.1) fun i=>ifb (ieq i d) (f true) (Â (ahC a.2.2.2.1 a.2.2.1) fun j=>ifb (ieq j d) (f true) (ck (b+(1:Int)) fun k=>e k))) (ck (b+(1:Int)) fun l=>e l)) (h ())
def agG (d:Int) (b:Val eI) (e:Int) (a:Int) (c:Int→Option ρ) (f:Bool→Option ρ) (g:Unit→Option ρ):Option ρ :=
  ifb (ilt a (Ü b)) (ü b a fun h=>ifb (ieq h.1 e) (ü b a fun i=>ifb (ieq i.2 d) (f true) (ck (a+(1:Int)) fun j=>c j)) (ck (a+(1:Int)) fun k=>c k)) (g ())
def aCS (c:Val Ä) (a:Val Ð) (b:Int) (k:Bool→Option ρ):Option ρ :=
  ifb (ieq a.2.1 b) (k true) (Ñ (fun(d:Int) e=>ai7 b c.2.2.2.2.1 a.1 d (fun f=>e f) (fun g=>k g) (fun _=>Ñ (fun(h:Int) i=>agG b c.2.2.2.2.2 a.1 h (fun j=>i j) (fun l=>k l) (fun _=>k false)) (0:Int))) (0:Int))
def awg (a:Val Ä) (b:Val Ð) (c:Int):Option (Bool):=aCS a b c some
def ahs (c:Val f6) (a:Int) (b:Val m5) (e:Int→Val m5→Option ρ) (f:Val m5→Option ρ):Option ρ :=
  ifb (ilt a (Ü c)) (ü c a fun d=>ô (ì ((List.length b)+(List.length ([d.2.1])))) (ck (a+(1:Int)) fun g=>e g (b++([d.2.1])))) (f b)
def ahr (c:Val eW) (a:Int) (b:Val m5) (e:Int→Val m5→Option ρ) (f:Val m5→Option ρ):Option ρ :=
  ifb (ilt a (Ü c)) (ü c a fun d=>ô (ì ((List.length b)+(List.length ([d.2.1])))) (ck (a+(1:Int)) fun g=>e g (b++([d.2.1])))) (f b)
def ahq (c:Val eI) (a:Int) (b:Val m5) (e:Int→Val m5→Option ρ) (f:Val m5→Option ρ):Option ρ :=
  ifb (ilt a (Ü c)) (ü c a fun d=>ô (ì ((List.length b)+(List.length ([d.2])))) (ck (a+(1:Int)) fun g=>e g (b++([d.2])))) (f b)
def afq (e:Int) (b:Val m5) (c:Int) (a:Int) (d:Int→Int→Option ρ) (f:Int→Option ρ):Option ρ :=
  ifb (ilt a (Ü b)) (ô ((ile (0:Int) a)&&(ilt a (Ĩ b))) (Ψ b (Int.toNat a) fun g=>ifb (igt g e) (ô ((ile (0:Int) a)&&(ilt a (Ĩ b))) (Ψ b (Int.toNat a) fun h=>ck (a+(1:Int)) fun i=>d (aPV c h) i)) (ck (a+(1:Int)) fun j=>d c j))) (f c)
def afr (e:Int) (i:Int) (j:Int) (c:Val f6) (k:Val eI) (l:Val l5) (m:Val eW) (n:Val eI) (o:Val m5) (f:Int) (b:Val eI) (d:Int→Val eI→Option ρ) (p:Val eI→Option ρ):Option ρ :=
  ifb (ilt f (20001:Int)) (Ñ (fun(g:Val Ã) q=>afq f o g.1 g.2 (fun r s=>q (r,s)) (fun a=>ifb (ilt a (20001:Int)) (ü c e fun t=>Â (awg ((i,j),c,k,l,m,n) t a) fun u=>ifb u (ü c e fun h=>ô (ì ((List.length b)+(List.length ([(h.1,a)])))) (d a (b++([(h.1,a)])))) (d a b)) (d a b))) ((20001:Int),(0:Int))) (p b)
def ahp (e:Int) (f:Int) (b:Val f6) (g:Val eI) (h:Val l5) (i:Val eW) (j:Val eI) (k:Val m5) (a:Int) (c:Val eI) (l:Int→Val eI→Option ρ) (m:Val eI→Option ρ):Option ρ :=
  ifb (ilt a (Ü b)) (Ñ (fun(d:Val abG) n=>afr a e f b g h i j k d.1 d.2 (fun o p=>n (o,p)) (fun q=>ck (a+(1:Int)) fun r=>l r q)) ((-1:Int),c)) (m c)
def axj (a:Val Ä) (k:Val eI→Option ρ):Option ρ :=
  Ñ (fun(b:Val abz) f=>ahs a.2.1 b.1 b.2 (fun g h=>f (g,h)) (fun i=>Ñ (fun(c:Val abz) j=>ahr a.2.2.2.2.1 c.1 c.2 (fun l m=>j (l,m)) (fun n=>Ñ (fun(d:Val abz) o=>ahq a.2.2.2.2.2 d.1 d.2 (fun p q=>o (p,q)) (fun r=>Ñ (fun(e:Val abG) s=>ahp a.1.1 a.1.2 a.2.1 a.2.2.1 a.2.2.2.1 a.2.2.2.2.1 a.2.2.2.2.2 r e.1 e.2 (fun t u=>s (t,u)) (fun v=>k v)) ((0:Int),[]))) ((0:Int),n))) ((0:Int),i))) ((0:Int),[])
def aej (a:Val Ä):Option ((Val eI)):=axj a some
def aht (b:Val eI) (d:Int) (e:Int) (a:Int) (f:Int→Option ρ) (g:Int→Option ρ) (h:Unit→Option ρ):Option ρ :=
  ifb (ilt a (Ü b)) (ü b a fun c=>ifb ((û c.1 d)&&((û c.2 e)&&true)) (ck (a+(1:Int)) fun i=>g i) (ck (a+(1:Int)) fun j=>f j)) (h ())
def axk (b:Val Ä) (a:Val Ã) (k:Int→Option ρ):Option ρ :=
  Â (aej b) fun c=>Ñ (fun(d:Int) e=>aht c a.1 a.2 d (fun f=>e f) (fun g=>k g) (fun _=>k (0:Int))) (0:Int)
def χ (a:Val Ä) (b:Val Ã):Option (Int):=axk a b some
def ai8 (d:Int) (e:Int) (b:Val eI) (a:Int) (c:Int→Option ρ) (f:Bool→Option ρ) (g:Unit→Option ρ):Option ρ :=
  ifb (ilt a (Ü b)) (ü b a fun h=>ifb (ieq h.1 d) (ü b a fun i=>ifb (ieq i.2 e) (f true) (ck (a+(1:Int)) fun j=>c j)) (ck (a+(1:Int)) fun k=>c k)) (g ())
def aCU (a:Val Ä) (b:Int) (c:Int) (k:Bool→Option ρ):Option ρ :=
  Ñ (fun(d:Int) e=>ai8 b c a.2.2.1 d (fun f=>e f) (fun g=>k g) (fun _=>k false)) (0:Int)
def awh (a:Val Ä) (b:Int) (c:Int):Option (Bool):=aCU a b c some
def aja (d:Int) (m:Int) (n:Int) (e:Int) (f:Int) (g:Val f6) (h:Val eI) (i:Val l5) (j:Val eW) (k:Val eI) (b:Int) (a:Int) (c:Int→Int→Option ρ) (o:Int→Option ρ):Option ρ :=
  ifb (ilt a m) (Â (ao8 ((e,f),g,h,i,j,k) d a) fun l=>ifb l.2 (ck (b+l.1.2.2) fun p=>ck (a+(1:Int)) fun q=>c p q) (Â (awh ((e,f),g,h,i,j,k) d a) fun r=>ifb r (ck (b+n) fun s=>ck (a+(1:Int)) fun t=>c s t) (ck (a+(1:Int)) fun u=>c b u))) (o b)
def aC7 (a:Val Ä) (b:Int) (d:Int) (e:Int) (k:Int→Option ρ):Option ρ :=
  Â (aix a b) fun f=>ü a.2.1 f fun g=>Ñ (fun(c:Val Ã) h=>aja b e g.2.2.2.2.2 a.1.1 a.1.2 a.2.1 a.2.2.1 a.2.2.2.1 a.2.2.2.2.1 a.2.2.2.2.2 c.1 c.2 (fun i j=>h (i,j)) (fun l=>k l)) ((0:Int),d)
def ale (a:Val Ä) (b:Int) (c:Int) (d:Int):Option (Int):=aC7 a b c d some
def asD (b:Int) (a:Int) (k:Val į→Option ρ):Option ρ :=
  ifb (ine b (0:Int)) (ifb (û a 0) (none) (Â (awk (Int.tmod b a)) fun h=>Â (ap4 h a) fun c=>ifb (û c 0) (none) (ck (Int.tdiv b c) fun d=>ifb (û c 0) (none) (ck (Int.tdiv a c) fun f=>ifb (igt f (2147483647:Int)) (k (((0:Int),(0:Int)),(3:Int))) (ifb (ilt d (-2147483647:Int)) (k (((0:Int),(0:Int)),(3:Int))) (ifb (igt d (2147483647:Int)) (k (((0:Int),(0:Int)),(3:Int))) (k ((d,f),(0:Int))))))))) (ifb (û a 0) (none) (ck (Int.tdiv b a) fun e=>ifb (û a 0) (none) (ck (Int.tdiv a a) fun g=>ifb (igt g (2147483647:Int)) (k (((0:Int),(0:Int)),(3:Int))) (ifb (ilt e (-2147483647:Int)) (k (((0:Int),(0:Int)),(3:Int))) (ifb (igt e (2147483647:Int)) (k (((0:Int),(0:Int)),(3:Int))) (k ((e,g),(0:Int))))))))
def aiy (a:Int) (b:Int):Option (Val į):=asD a b some
def aK5 (a:Val Ã) (b:Val Ã) (k:Val į→Option ρ):Option ρ :=
  ck (a.1*b.2) fun c=>ck (b.1*a.2) fun d=>ck (c+d) fun e=>ck (a.2*b.2) fun f=>Â (aiy e f) fun g=>k g
def aMG (a:Val Ã) (b:Val Ã):Option (Val į):=aK5 a b some
def aKZ (a:Val Ã) (k:Val Ã→Option ρ):Option ρ :=
  ck ((0:Int)-a.1) fun b=>k (b,a.2)
def aMF (a:Val Ã):Option (Val Ã):=aKZ a some
def aKX (a:Val Ã) (b:Val Ã) (k:Val į→Option ρ):Option ρ :=
  Â (aMF b) fun c=>Â (aMG a c) fun d=>k d
def aBD (a:Val Ã) (b:Val Ã):Option (Val į):=aKX a b some
def axf (a:Val Ä) (b:Int) (k:Val Ã→Option ρ):Option ρ :=
  ifb (ieq b (0:Int)) (k ((0:Int),(1:Int))) (Â (aix a b) fun c=>ü a.2.1 c fun d=>k d.2.2.2.2.1)
def alc (a:Val Ä) (b:Int):Option (Val Ã):=axf a b some
def aDs (a:Val į) (b:Val į) (k:Val ako→Option ρ):Option ρ :=
  ifb (ine a.2 (0:Int)) (k ((((0:Int),(0:Int)),(0:Int),(0:Int)),a.2)) (ifb (ine b.2 (0:Int)) (k ((((0:Int),(0:Int)),(0:Int),(0:Int)),b.2)) (k ((a.1,b.1),(0:Int))))
def awi (a:Val į) (b:Val į):Option (Val ako):=aDs a b some
def aK0 (a:Val Ã) (b:Val Ã) (k:Val į→Option ρ):Option ρ :=
  ck (a.1*b.1) fun c=>ck (a.2*b.2) fun d=>Â (aiy c d) fun e=>k e
def amy (a:Val Ã) (b:Val Ã):Option (Val į):=aK0 a b some
def axs (b:Val å) (a:Val Ã) (k:Val ako→Option ρ):Option ρ :=
  ifb (ilt a.1 (0:Int)) (Â (amy b.2 a) fun c=>Â (amy b.1 a) fun d=>Â (awi c d) fun e=>k e) (Â (amy b.1 a) fun f=>Â (amy b.2 a) fun g=>Â (awi f g) fun h=>k h)
def ap3 (a:Val å) (b:Val Ã):Option (Val ako):=axs a b some
def asz (b:Val Ä) (a:Val Ê) (k:Val å→Option ρ):Option ρ :=
  Â (ahC a.2.2.1 a.2.2.2.1) fun c=>Â (alc b c) fun d=>Â (ahC a.2.2.2.1 a.2.2.1) fun e=>Â (alc b e) fun f=>Â (aBD d f) fun g=>Â (ap3 ((a.2.2.2.2.2.2.1,(1:Int)),a.2.2.2.2.2.2.2,(1:Int)) g.1) fun h=>k h.1
def amw (a:Val Ä) (b:Val Ê):Option (Val å):=asz a b some
def axm (a:Val Ä) (b:Val Ê) (k:Val Ã→Option ρ):Option ρ :=
  ck ((Ü b.2.2.1)-(1:Int)) fun c=>ck ((Ü b.2.2.2.1)-(1:Int)) fun d=>ck ((aFZ (0:Int) c)*a.1.1) fun e=>ck ((aFZ (0:Int) d)*a.1.2) fun f=>ck (e-f) fun g=>ck ((aFZ (0:Int) c)*a.1.2) fun h=>ck ((aFZ (0:Int) d)*a.1.1) fun i=>ck (h-i) fun j=>k (g,j)
def ap0 (a:Val Ä) (b:Val Ê):Option (Val Ã):=axm a b some
def aDq (b:Int) (a:Int) (k:Int→Option ρ):Option ρ :=
  ifb (û a 0) (none) (ck (Int.tdiv b a) fun c=>ifb (û a 0) (none) (ifb (ilt (Int.tmod b a) (0:Int)) (ck (c-(1:Int)) fun d=>k d) (k c)))
def aFd (a:Int) (b:Int):Option (Int):=aDq a b some
def axu (a:Val Ã) (k:Int→Option ρ):Option ρ :=
  Â (aFd a.1 a.2) fun b=>k b
def ap5 (a:Val Ã):Option (Int):=axu a some
def aRy (b:Int) (a:Int) (k:Int→Option ρ):Option ρ :=
  ifb (û a 0) (none) (ck (Int.tdiv b a) fun c=>ifb (û a 0) (none) (ifb (igt (Int.tmod b a) (0:Int)) (ck (c+(1:Int)) fun d=>k d) (k c)))
def aSm (a:Int) (b:Int):Option (Int):=aRy a b some
def aDu (a:Val Ã) (k:Int→Option ρ):Option ρ :=
  Â (aSm a.1 a.2) fun b=>k b
def awj (a:Val Ã):Option (Int):=aDu a some
def aCX (b:Val Ä) (a:Val Ê) (k:Val Ã→Option ρ):Option ρ :=
  Â (amw b a) fun c=>Â (ap0 b a) fun d=>ck (a.2.2.2.2.1-a.2.2.2.2.2.1) fun e=>ck (e-d.2) fun f=>Â (ap5 c.2) fun g=>ck (f-g) fun h=>ck (a.2.2.2.2.1+a.2.2.2.2.2.1) fun i=>ck (i-d.1) fun j=>Â (awj c.1) fun l=>ck (j-l) fun m=>k (h,m)
def ald (a:Val Ä) (b:Val Ê):Option (Val Ã):=aCX a b some
def ah9 (e:Val eI) (b:Int) (p:Int) (q:Int) (r:Val f6) (s:Val eI) (t:Val l5) (u:Val eW) (v:Val eI) (g:Int) (w:Int) (h:Int) (x:Int) (y:Int) (a:Int) (c:Val wi) (d:Val eI) (f:Int→Val wi→Val eI→Option ρ) (z:Val amO→Option ρ):Option ρ :=
  ifb (ilt a (Ü e)) (ü e a fun A=>ifb (ine A.1 g) (ck (a+(1:Int)) fun B=>f B c d) (ü e a fun C=>ifb (ieq C.2 w) (ck (a+(1:Int)) fun i=>ck (h+y) fun j=>ck (a+(1:Int)) fun k=>ck ((0:Int)-h) fun D=>ck (D-x) fun l=>ô (ì ((List.length c)+(List.length ([((0:Int),i,j),(k,(0:Int),l)])))) (ô (ì ((List.length d)+(List.length ([((1:Int),b),((1:Int),b)])))) (ck (a+(1:Int)) fun E=>f E (c++([((0:Int),i,j),(k,(0:Int),l)])) (d++([((1:Int),b),((1:Int),b)]))))) (ck (a-(1:Int)) fun F=>ü e F fun G=>ü e a fun H=>Â (ale ((p,q),r,s,t,u,v) g G.2 H.2) fun m=>ck (a+(1:Int)) fun n=>ck (a+(1:Int)) fun o=>ô (ì ((List.length c)+(List.length ([(a,n,(0:Int)),(o,a,m)])))) (ô (ì ((List.length d)+(List.length ([((2:Int),b),((2:Int),b)])))) (ck (a+(1:Int)) fun I=>f I (c++([(a,n,(0:Int)),(o,a,m)])) (d++([((2:Int),b),((2:Int),b)]))))))) (z (c,d))
def alG (h:Val eI) (i:Int) (j:Int) (c:Val f6) (k:Val eI) (l:Val l5) (m:Val eW) (n:Val eI) (b:Int) (e:Val wi) (f:Val eI) (o:Int→Val wi→Val eI→Option ρ) (p:Val amO→Option ρ):Option ρ :=
  ifb (ilt b (Ü c)) (ü c b fun a=>Ñ (fun(d:Val abR) q=>ah9 h b i j c k l m n a.1 a.2.1 a.2.2.1 a.2.2.2.1.1 a.2.2.2.1.2 d.1 d.2.1 d.2.2 (fun r s t=>q (r,s,t)) (fun g=>ck (b+(1:Int)) fun u=>o u g.1 g.2)) ((0:Int),e,f)) (p (e,f))
def alF (f:Int) (g:Int) (h:Val f6) (i:Val eI) (j:Val l5) (c:Val eW) (k:Val eI) (a:Int) (l:Val wi) (m:Val eI) (p:Int→Val wi→Val eI→Option ρ) (q:Val amO→Option ρ):Option ρ :=
  ifb (ilt a (Ü c)) (ü c a fun b=>Â (ahC b.2.2.1 b.2.2.2.1) fun r=>Â (χ ((f,g),h,i,j,c,k) (r,b.2.1)) fun d=>Â (ahC b.2.2.2.1 b.2.2.1) fun s=>Â (χ ((f,g),h,i,j,c,k) (s,b.2.1)) fun e=>Â (ald ((f,g),h,i,j,c,k) b) fun n=>ck ((0:Int)-n.1) fun o=>ô (ì ((List.length l)+(List.length ([(e,d,n.2),(d,e,o)])))) (ô (ì ((List.length m)+(List.length ([((3:Int),a),((3:Int),a)])))) (ck (a+(1:Int)) fun t=>p t (l++([(e,d,n.2),(d,e,o)])) (m++([((3:Int),a),((3:Int),a)]))))) (q (l,m))
def aKD (a:Val Ä) (k:Val amO→Option ρ):Option ρ :=
  Â (aej a) fun e=>Ñ (fun(b:Val abR) f=>alG e a.1.1 a.1.2 a.2.1 a.2.2.1 a.2.2.2.1 a.2.2.2.2.1 a.2.2.2.2.2 b.1 b.2.1 b.2.2 (fun g h i=>f (g,h,i)) (fun d=>Ñ (fun(c:Val abR) j=>alF a.1.1 a.1.2 a.2.1 a.2.2.1 a.2.2.2.1 a.2.2.2.2.1 a.2.2.2.2.2 c.1 c.2.1 c.2.2 (fun l m n=>j (l,m,n)) (fun o=>k o)) ((0:Int),d.1,d.2))) ((0:Int),[],[])
def amv (a:Val Ä):Option (Val amO):=aKD a some
def ahv (b:Val f6) (a:Int) (c:Int→Option ρ) (d:Int→Option ρ) (e:Unit→Option ρ):Option ρ :=
  ifb (ilt a (Ü b)) (ü b a fun f=>Â (apZ f) fun g=>ifb (!g) (d (1:Int)) (ifb (igt a (0:Int)) (ü b a fun h=>ck (a-(1:Int)) fun i=>ü b i fun j=>ifb (ile h.1 j.1) (d (6:Int)) (ck (a+(1:Int)) fun k=>c k)) (ck (a+(1:Int)) fun l=>c l))) (e ())
def ahu (b:Int) (c:Val eW) (a:Int) (d:Int→Option ρ) (e:Int→Option ρ) (f:Unit→Option ρ):Option ρ :=
  ifb (ilt a b) (ü c a fun g=>ü c b fun h=>ifb (ieq g.1 h.1) (e (6:Int)) (ck (a+(1:Int)) fun i=>d i)) (f ())
def ad9 (e:Int) (f:Int) (g:Val f6) (h:Val eI) (i:Val l5) (a:Val eW) (j:Val eI) (b:Int) (k:Int→Option ρ) (c:Int→Option ρ) (l:Unit→Option ρ):Option ρ :=
  ifb (ilt b (Ü a)) (ü a b fun m=>Â (apX m) fun n=>ifb (!n) (c (1:Int)) (Ñ (fun(o:Int) p=>ahu b a o (fun q=>p q) (fun r=>c r) (fun _=>ü a b fun s=>Â (aei ((e,f),g,h,i,a,j) s) fun d=>ifb (ine d (0:Int)) (c d) (ck (b+(1:Int)) fun t=>k t))) (0:Int))) (l ())
def ad8 (e:Int) (f:Int) (g:Val f6) (h:Val eI) (i:Val l5) (j:Val eW) (a:Val eI) (b:Int) (k:Int→Option ρ) (c:Int→Option ρ) (l:Unit→Option ρ):Option ρ :=
  ifb (ilt b (Ü a)) (ü a b fun m=>Â (amx m.2) fun n=>ifb (!n) (c (1:Int)) (ü a b fun o=>ü a b fun p=>Â (agd ((e,f),g,h,i,j,a) o.1 p.2) fun d=>ifb (ine d (0:Int)) (c d) (ck (b+(1:Int)) fun q=>k q))) (l ())
def axn (a:Val Ä) (k:Int→Option ρ):Option ρ :=
  Â (ad0 a.1 (0:Int) (1000000:Int)) fun d=>ifb (!d) (k (1:Int)) (ifb (igt (Ü a.2.1) (12:Int)) (k (2:Int)) (ifb (igt (Ü a.2.2.1) (40:Int)) (k (2:Int)) (ifb (igt (Ü a.2.2.2.1) (12:Int)) (k (2:Int)) (ifb (igt (Ü a.2.2.2.2.1) (40:Int)) (k (2:Int)) (ifb (igt (Ü a.2.2.2.2.2) (10:Int)) (k (2:Int)) (Ñ (fun(e:Int) f=>ahv a.2.1 e (fun g=>f g) (fun h=>k h) (fun _=>Â (awf a) fun b=>ifb (ieq b (0:Int)) (Â (apY a) fun c=>ifb (ine c (0:Int)) (k c) (Ñ (fun(i:Int) j=>ad9 a.1.1 a.1.2 a.2.1 a.2.2.1 a.2.2.2.1 a.2.2.2.2.1 a.2.2.2.2.2 i (fun l=>j l) (fun m=>k m) (fun _=>Ñ (fun(n:Int) o=>ad8 a.1.1 a.1.2 a.2.1 a.2.2.1 a.2.2.2.1 a.2.2.2.2.1 a.2.2.2.2.2 n (fun p=>o p) (fun q=>k q) (fun _=>Â (aej a) fun r=>ifb (igt (Ü r) (59:Int)) (k (2:Int)) (Â (amv a) fun s=>ifb (igt (Ü s.1) (300:Int)) (k (2:Int)) (k (0:Int))))) (0:Int))) (0:Int))) (ifb (ine b (0:Int)) (k b) (Ñ (fun(t:Int) u=>ad9 a.1.1 a.1.2 a.2.1 a.2.2.1 a.2.2.2.1 a.2.2.2.2.1 a.2.2.2.2.2 t (fun v=>u v) (fun w=>k w) (fun _=>Ñ (fun(x:Int) y=>ad8 a.1.1 a.1.2 a.2.1 a.2.2.1 a.2.2.2.1 a.2.2.2.2.1 a.2.2.2.2.2 x (fun z=>y z) (fun A=>k A) (fun _=>Â (aej a) fun B=>ifb (igt (Ü B) (59:Int)) (k (2:Int)) (Â (amv a) fun C=>ifb (igt (Ü C.1) (300:Int)) (k (2:Int)) (k (0:Int))))) (0:Int))) (0:Int))))) (0:Int)))))))
def age (a:Val Ä):Option (Int):=axn a some
def ahm (c:Val f6) (d:Int) (e:Int) (f:Int) (g:Int) (h:Int) (i:Int) (j:Int) (k:Int) (b:Int) (l:Int→Option ρ) (m:Bool→Option ρ) (n:Unit→Option ρ):Option ρ :=
  ifb (ilt b (Ü c)) (ü c b fun a=>ifb ((û a.1 d)&&((û a.2.1 e)&&((û a.2.2.1 f)&&((û a.2.2.2.1.1 g)&&((û a.2.2.2.1.2 h)&&((û a.2.2.2.2.1.1 i)&&((û a.2.2.2.2.1.2 j)&&((û a.2.2.2.2.2 k)&&true)))))))) (m true) (ck (b+(1:Int)) fun o=>l o)) (n ())
def axa (b:Val Ä) (a:Val Ð) (k:Bool→Option ρ):Option ρ :=
  Ñ (fun(c:Int) d=>ahm b.2.1 a.1 a.2.1 a.2.2.1 a.2.2.2.1.1 a.2.2.2.1.2 a.2.2.2.2.1.1 a.2.2.2.2.1.2 a.2.2.2.2.2 c (fun e=>d e) (fun f=>k f) (fun _=>k false)) (0:Int)
def ahU (a:Val Ä) (b:Val Ð):Option (Bool):=axa a b some
def aeI (b:Val m5) (c:Val m5) (a:Int) (d:Int→Option ρ) (e:Bool→Option ρ) (f:Unit→Option ρ):Option ρ :=
  ifb (ilt a (Ü b)) (ü b a fun g=>ü c a fun h=>ifb (ine g h) (e false) (ck (a+(1:Int)) fun i=>d i)) (f ())
def alJ (a:Val m5) (b:Val m5) (k:Bool→Option ρ):Option ρ :=
  ifb (ine (Ü a) (Ü b)) (k false) (Ñ (fun(c:Int) d=>aeI a b c (fun e=>d e) (fun f=>k f) (fun _=>k true)) (0:Int))
def afz (a:Val m5) (b:Val m5):Option (Bool):=alJ a b some
def ag2 (a:Val Ê) (b:Val Ê) (k:Bool→Option ρ):Option ρ :=
  ifb (ieq a.1 b.1) (ifb (ieq a.2.1 b.2.1) (ifb (ieq a.2.2.2.2.1 b.2.2.2.2.1) (ifb (ieq a.2.2.2.2.2.1 b.2.2.2.2.2.1) (ifb ((û a.2.2.2.2.2.2.1 b.2.2.2.2.2.2.1)&&((û a.2.2.2.2.2.2.2 b.2.2.2.2.2.2.2)&&true)) (Â (afz a.2.2.1 b.2.2.1) fun c=>ifb c (Â (afz a.2.2.2.1 b.2.2.2.1) fun d=>k d) (k false)) (k false)) (k false)) (k false)) (k false)) (k false)
def aeL (a:Val Ê) (b:Val Ê):Option (Bool):=ag2 a b some
def ahl (c:Int) (b:Val f6) (a:Int) (d:Int→Option ρ) (e:Bool→Option ρ) (f:Unit→Option ρ):Option ρ :=
  ifb (ilt a (Ü b)) (ü b a fun g=>ifb (ieq g.1 c) (e true) (ck (a+(1:Int)) fun h=>d h)) (f ())
def aw9 (a:Val Ä) (b:Int) (k:Bool→Option ρ):Option ρ :=
  Ñ (fun(c:Int) d=>ahl b a.2.1 c (fun e=>d e) (fun f=>k f) (fun _=>k false)) (0:Int)
def aeh (a:Val Ä) (b:Int):Option (Bool):=aw9 a b some
def aiW (g:Int) (h:Val eI) (b:Val eI) (c:Bool) (a:Int) (d:Bool→Int→Option ρ) (i:Bool→Option ρ):Option ρ :=
  ifb (ilt a (Ü b)) (ifb c (ck (a+(1:Int)) fun j=>d true j) (ü b a fun e=>ü h g fun f=>ck (a+(1:Int)) fun k=>d ((û e.1 f.1)&&((û e.2 f.2)&&true)) k)) (i c)
def aiX (b:Val eI) (d:Val eI) (e:Int) (f:Int) (g:Val f6) (h:Val eI) (i:Val l5) (j:Val eW) (k:Val eI) (a:Int) (l:Int→Option ρ) (m:Bool→Option ρ) (n:Unit→Option ρ):Option ρ :=
  ifb (ilt a (Ü b)) (ü b a fun o=>Â (aeh ((e,f),g,h,i,j,k) o.1) fun p=>Ñ (fun(c:Val abJ) q=>aiW a b d c.1 c.2 (fun r s=>q (r,s)) (fun t=>ifb (!t) (m false) (ck (a+(1:Int)) fun u=>l u))) ((!p),(0:Int))) (n ())
def aiU (g:Int) (h:Val l5) (d:Val l5) (e:Bool) (a:Int) (f:Bool→Int→Option ρ) (i:Bool→Option ρ):Option ρ :=
  ifb (ilt a (Ü d)) (ifb e (ck (a+(1:Int)) fun j=>f true j) (ü d a fun b=>ü h g fun c=>ck (a+(1:Int)) fun k=>f ((û b.1 c.1)&&((û b.2.1.1 c.2.1.1)&&((û b.2.1.2 c.2.1.2)&&((û b.2.2 c.2.2)&&true)))) k)) (i e)
def aiV (b:Val l5) (d:Val l5) (e:Int) (f:Int) (g:Val f6) (h:Val eI) (i:Val l5) (j:Val eW) (k:Val eI) (a:Int) (l:Int→Option ρ) (m:Bool→Option ρ) (n:Unit→Option ρ):Option ρ :=
  ifb (ilt a (Ü b)) (ü b a fun o=>Â (aeh ((e,f),g,h,i,j,k) o.1) fun p=>Ñ (fun(c:Val abJ) q=>aiU a b d c.1 c.2 (fun r s=>q (r,s)) (fun t=>ifb (!t) (m false) (ck (a+(1:Int)) fun u=>l u))) ((!p),(0:Int))) (n ())
def aCD (b:Val Ä) (c:Val Ä) (a:Val Ä) (k:Bool→Option ρ):Option ρ :=
  Ñ (fun(d:Int) e=>aiX b.2.2.1 c.2.2.1 a.1.1 a.1.2 a.2.1 a.2.2.1 a.2.2.2.1 a.2.2.2.2.1 a.2.2.2.2.2 d (fun f=>e f) (fun g=>k g) (fun _=>Ñ (fun(h:Int) i=>aiV b.2.2.2.1 c.2.2.2.1 a.1.1 a.1.2 a.2.1 a.2.2.1 a.2.2.2.1 a.2.2.2.2.1 a.2.2.2.2.2 h (fun j=>i j) (fun l=>k l) (fun _=>k true)) (0:Int))) (0:Int)
def ao6 (a:Val Ä) (b:Val Ä) (c:Val Ä):Option (Bool):=aCD a b c some
def ai1 (b:Val f6) (c:Int) (d:Int) (e:Val f6) (f:Val eI) (g:Val l5) (h:Val eW) (i:Val eI) (a:Int) (j:Int→Option ρ) (k:Bool→Option ρ) (l:Unit→Option ρ):Option ρ :=
  ifb (ilt a (Ü b)) (ü b a fun m=>Â (ahU ((c,d),e,f,g,h,i) m) fun n=>ifb (!n) (k false) (ck (a+(1:Int)) fun o=>j o)) (l ())
def aiZ (e:Int) (f:Val eW) (b:Val eW) (c:Bool) (a:Int) (d:Bool→Int→Option ρ) (g:Bool→Option ρ):Option ρ :=
  ifb (ilt a (Ü b)) (ifb c (ck (a+(1:Int)) fun h=>d true h) (ü f e fun i=>ü b a fun j=>Â (aeL i j) fun k=>ck (a+(1:Int)) fun l=>d k l)) (g c)
def ai0 (b:Val eW) (d:Val eW) (a:Int) (e:Int→Option ρ) (f:Bool→Option ρ) (g:Unit→Option ρ):Option ρ :=
  ifb (ilt a (Ü b)) (Ñ (fun(c:Val abJ) h=>aiZ a b d c.1 c.2 (fun i j=>h (i,j)) (fun k=>ifb (!k) (f false) (ck (a+(1:Int)) fun l=>e l))) (false,(0:Int))) (g ())
def aCJ (b:Val Ä) (a:Val Ä) (k:Bool→Option ρ):Option ρ :=
  ifb (!((û b.1.1 a.1.1)&&((û b.1.2 a.1.2)&&true))) (k false) (Ñ (fun(c:Int) d=>ai1 b.2.1 a.1.1 a.1.2 a.2.1 a.2.2.1 a.2.2.2.1 a.2.2.2.2.1 a.2.2.2.2.2 c (fun e=>d e) (fun f=>k f) (fun _=>Ñ (fun(g:Int) h=>ai0 b.2.2.2.2.1 a.2.2.2.2.1 g (fun i=>h i) (fun j=>k j) (fun _=>Â (ao6 b a b) fun l=>ifb l (Â (ao6 a b b) fun m=>k m) (k false))) (0:Int))) (0:Int))
def ï (a:Val Ä) (b:Val Ä):Option (Bool):=aCJ a b some
def asu (a:Val Ä) (k:Val Í→Option ρ):Option ρ :=
  Â (aej a) fun b=>ck ((Ü b)+(1:Int)) fun c=>Â (amv a) fun d=>k (c,d.1)
def aiw (a:Val Ä):Option (Val Í):=asu a some
def alI (b:Val m5) (c:Val wi) (e:Int) (f:Int) (a:Int) (g:Int→Int→Int→Option ρ) (d:Val abQ→Option ρ) (h:Val Ã→Option ρ):Option ρ :=
  ifb (ilt a (Ü b)) (ü b a fun i=>ifb (ilt i (0:Int)) (d ((0:Int),(0:Int),false)) (ü b a fun j=>ifb (ige j (Ü c)) (d ((0:Int),(0:Int),false)) (ü b a fun k=>ü c k fun l=>ifb (ine l.1 e) (d ((0:Int),(0:Int),false)) (ü b a fun m=>ü c m fun n=>ck (f+n.2.2) fun o=>ü b a fun p=>ü c p fun q=>ck (a+(1:Int)) fun r=>g q.2.1 o r)))) (h (e,f))
def aKT (d:Val Í) (e:Int) (f:Val m5) (k:Val abQ→Option ρ):Option ρ :=
  Ñ (fun(a:Val ÿ) g=>alI f d.2 a.1 a.2.1 a.2.2 (fun h i j=>g (h,i,j)) (fun b=>k (b.1,b.2.1,b.2.2)) (fun c=>k (c.2,c.1,true))) (e,(0:Int),(0:Int))
def ap1 (a:Val Í) (b:Int) (c:Val m5):Option ((Val abQ)):=aKT a b c some
def axc (a:Val ĉ) (k:Bool→Option ρ):Option ρ :=
  Â (aiw a.1) fun d=>Â (χ a.1 a.2.1) fun e=>ifb (!a.2.2.1) (ifb (ilt a.2.2.2.1 (-1152921504606846976:Int)) (k false) (ifb (igt a.2.2.2.1 (1152921504606846976:Int)) (k false) (ck ((0:Int)-a.2.2.2.1) fun f=>Â (ap1 d e a.2.2.2.2) fun b=>ifb (ile (Ü a.2.2.2.2) (80:Int)) (ifb b.2.2 (ifb (ieq b.2.1 (0:Int)) (k (ieq b.1 f)) (k false)) (k false)) (k false)))) (Â (ap1 d (0:Int) a.2.2.2.2) fun c=>ifb (ile (Ü a.2.2.2.2) (80:Int)) (ifb c.2.2 (ifb (ieq c.2.1 e) (k (ieq c.1 a.2.2.2.1)) (k false)) (k false)) (k false))
def apW (a:Val ĉ):Option (Bool):=axc a some
def ajS (a:Val ĉ) (k:Int→Option ρ):Option ρ :=
  Â (age a.1) fun b=>ifb (ine b (0:Int)) (k b) (Â (χ a.1 a.2.1) fun c=>ifb (ieq c (0:Int)) (k (5:Int)) (Â (apW a) fun d=>ifb (!d) (k (8:Int)) (k (0:Int))))
def ĝ (a:Val ĉ):Option (Int):=ajS a some
def afs (b:Val m5) (d:Val wi) (a:Int) (e:Int→Option ρ) (c:Bool→Option ρ) (f:Unit→Option ρ):Option ρ :=
  ifb (ilt a (Ü b)) (ü b a fun g=>ifb (ilt g (0:Int)) (c false) (ü b a fun h=>ifb (ige h (Ü d)) (c false) (ck (a+(1:Int)) fun i=>e i))) (f ())
def aod (a:Val Í) (b:Val m5) (k:Bool→Option ρ):Option ρ :=
  Ñ (fun(c:Int) d=>afs b a.2 c (fun e=>d e) (fun f=>k f) (fun _=>k true)) (0:Int)
def ajI (a:Val Í) (b:Val m5):Option (Bool):=aod a b some
def asC (b:Val Í) (a:Val m5) (k:Bool→Option ρ):Option ρ :=
  ifb (ieq (Ü a) (0:Int)) (k false) (Â (ajI b a) fun e=>ifb (!e) (k false) (ü a (0:Int) fun f=>ü b.2 f fun d=>Â (ap1 b d.1 a) fun c=>ifb c.2.2 (ifb (ieq c.2.1 d.1) (k (ilt c.1 (0:Int))) (k false)) (k false)))
def atf (a:Val Í) (b:Val m5):Option (Bool):=asC a b some
def ah8 (a:Val ĉ) (k:Int→Option ρ):Option ρ :=
  Â (age a.1) fun b=>ifb (ine b (0:Int)) (k b) (ifb (!((û a.2.1.1 (0:Int))&&((û a.2.1.2 (0:Int))&&true))) (k (1:Int)) (ifb a.2.2.1 (k (1:Int)) (ifb (ine a.2.2.2.1 (0:Int)) (k (1:Int)) (ifb (igt (Ü a.2.2.2.2) (80:Int)) (k (8:Int)) (Â (aiw a.1) fun c=>Â (atf c a.2.2.2.2) fun d=>ifb (!d) (k (8:Int)) (k (0:Int)))))))
def č (a:Val ĉ):Option (Int):=ah8 a some
def ah5 (f:Val Ä) (c:Val Ä) (b:Val ĉ) (k:Bool→Option ρ):Option ρ :=
  Â (apU f) fun y=>ifb (!y) (Â Ó fun z=>k z) (Â (apU c) fun A=>ifb (!A) (Â Ó fun B=>k B) (Â (apU b.1) fun C=>ifb (!C) (Â Ó fun D=>k D) (ifb (igt (Ü b.2.2.2.2) (90:Int)) (Â Ó fun E=>k E) (Â (aBG f c) fun e=>Â (alh c b) fun a=>Â (age f) fun g=>Â (age c) fun d=>ifb (ieq g (0:Int)) (ifb (ine e.2 d) (k false) (ifb (ine d (0:Int)) (ifb e.1 (k false) (ifb (ieq d (0:Int)) (Â (ï f c) fun F=>ifb (!(e.1==F)) (k false) (ifb (ieq d (0:Int)) (Â (ĝ b) fun h=>ifb ((û b.2.1.1 (0:Int))&&((û b.2.1.2 (0:Int))&&true)) (Â (č b) fun i=>ifb (ine i (0:Int)) (Â Ó fun G=>ifb G (ifb (ieq a.2 i) (k (!a.1)) (k false)) (k false)) (Â Ó fun H=>ifb H (ifb (ieq a.2 (0:Int)) (Â (ï b.1 c) fun I=>k (a.1==I)) (k false)) (k false))) (ifb (ine h (0:Int)) (Â Ó fun J=>ifb J (ifb (ieq a.2 h) (k (!a.1)) (k false)) (k false)) (Â Ó fun K=>ifb K (ifb (ieq a.2 (0:Int)) (Â (ï b.1 c) fun L=>k (a.1==L)) (k false)) (k false)))) (ifb (ine d (0:Int)) (Â Ó fun M=>ifb M (ifb (ieq a.2 d) (k (!a.1)) (k false)) (k false)) (Â Ó fun N=>ifb N (ifb (ieq a.2 (0:Int)) (Â (ï b.1 c) fun O=>k (a.1==O)) (k false)) (k false))))) (ifb (ieq d (0:Int)) (Â (ĝ b) fun j=>ifb ((û b.2.1.1 (0:Int))&&((û b.2.1.2 (0:Int))&&true)) (Â (č b) fun l=>ifb (ine l (0:Int)) (Â Ó fun P=>ifb P (ifb (ieq a.2 l) (k (!a.1)) (k false)) (k false)) (Â Ó fun Q=>ifb Q (ifb (ieq a.2 (0:Int)) (Â (ï b.1 c) fun R=>k (a.1==R)) (k false)) (k false))) (ifb (ine j (0:Int)) (Â Ó fun S=>ifb S (ifb (ieq a.2 j) (k (!a.1)) (k false)) (k false)) (Â Ó fun T=>ifb T (ifb (ieq a.2 (0:Int)) (Â (ï b.1 c) fun U=>k (a.1==U)) (k false)) (k false)))) (ifb (ine d (0:Int)) (Â Ó fun V=>ifb V (ifb (ieq a.2 d) (k (!a.1)) (k false)) (k false)) (Â Ó fun W=>ifb W (ifb (ieq a.2 (0:Int)) (Â (ï b.1 c) fun X=>k (a.1==X)) (k false)) (k false)))))) (ifb (ieq d (0:Int)) (Â (ï f c) fun Y=>ifb (!(e.1==Y)) (k false) (ifb (ieq d (0:Int)) (Â (ĝ b) fun m=>ifb ((û b.2.1.1 (0:Int))&&((û b.2.1.2 (0:Int))&&true)) (Â (č b) fun n=>ifb (ine n (0:Int)) (Â Ó fun Z=>ifb Z (ifb (ieq a.2 n) (k (!a.1)) (k false)) (k false)) (Â Ó fun r39=>ifb r39 (ifb (ieq a.2 (0:Int)) (Â (ï b.1 c) fun r40=>k (a.1==r40)) (k false)) (k false))) (ifb (ine m (0:Int)) (Â Ó fun r41=>ifb r41 (ifb (ieq a.2 m) (k (!a.1)) (k false)) (k false)) (Â Ó fun r42=>ifb r42 (ifb (ieq a.2 (0:Int)) (Â (ï b.1 c) fun r43=>k (a.1==r43)) (k false)) (k false)))) (ifb (ine d (0:Int)) (Â Ó fun r44=>ifb r44 (ifb (ieq a.2 d) (k (!a.1)) (k false)) (k false)) (Â Ó fun r45=>ifb r45 (ifb (ieq a.2 (0:Int)) (Â (ï b.1 c) fun r46=>k (a.1==r46)) (k false)) (k false))))) (ifb (ieq d (0:Int)) (Â (ĝ b) fun o=>ifb ((û b.2.1.1 (0:Int))&&((û b.2.1.2 (0:Int))&&true)) (Â (č b) fun p=>ifb (ine p (0:Int)) (Â Ó fun r49=>ifb r49 (ifb (ieq a.2 p) (k (!a.1)) (k false)) (k false)) (Â Ó fun r50=>ifb r50 (ifb (ieq a.2 (0:Int)) (Â (ï b.1 c) fun r51=>k (a.1==r51)) (k false)) (k false))) (ifb (ine o (0:Int)) (Â Ó fun r52=>ifb r52 (ifb (ieq a.2 o) (k (!a.1)) (k false)) (k false)) (Â Ó fun r53=>ifb r53 (ifb (ieq a.2 (0:Int)) (Â (ï b.1 c) fun r54=>k (a.1==r54)) (k false)) (k false)))) (ifb (ine d (0:Int)) (Â Ó fun r55=>ifb r55 (ifb (ieq a.2 d) (k (!a.1)) (k false)) (k false)) (Â Ó fun r56=>ifb r56 (ifb (ieq a.2 (0:Int)) (Â (ï b.1 c) fun r57=>k (a.1==r57)) (k false)) (k false))))))) (ifb (ine e.2 g) (k false) (ifb (ine g (0:Int)) (ifb e.1 (k false) (ifb (ieq g (0:Int)) (Â (ï f c) fun r58=>ifb (!(e.1==r58)) (k false) (ifb (ieq d (0:Int)) (Â (ĝ b) fun q=>ifb ((û b.2.1.1 (0:Int))&&((û b.2.1.2 (0:Int))&&true)) (Â (č b) fun r=>ifb (ine r (0:Int)) (Â Ó fun r61=>ifb r61 (ifb (ieq a.2 r) (k (!a.1)) (k false)) (k false)) (Â Ó fun r62=>ifb r62 (ifb (ieq a.2 (0:Int)) (Â (ï b.1 c) fun r63=>k (a.1==r63)) (k false)) (k false))) (ifb (ine q (0:Int)) (Â Ó fun r64=>ifb r64 (ifb (ieq a.2 q) (k (!a.1)) (k false)) (k false)) (Â Ó fun r65=>ifb r65 (ifb (ieq a.2 (0:Int)) (Â (ï b.1 c) fun r66=>k (a.1==r66)) (k false)) (k false)))) (ifb (ine d (0:Int)) (Â Ó fun r67=>ifb r67 (ifb (ieq a.2 d) (k (!a.1)) (k false)) (k false)) (Â Ó fun r68=>ifb r68 (ifb (ieq a.2 (0:Int)) (Â (ï b.1 c) fun r69=>k (a.1==r69)) (k false)) (k false))))) (ifb (ieq d (0:Int)) (Â (ĝ b) fun s=>ifb ((û b.2.1.1 (0:Int))&&((û b.2.1.2 (0:Int))&&true)) (Â (č b) fun t=>ifb (ine t (0:Int)) (Â Ó fun r72=>ifb r72 (ifb (ieq a.2 t) (k (!a.1)) (k false)) (k false)) (Â Ó fun r73=>ifb r73 (ifb (ieq a.2 (0:Int)) (Â (ï b.1 c) fun r74=>k (a.1==r74)) (k false)) (k false))) (ifb (ine s (0:Int)) (Â Ó fun r75=>ifb r75 (ifb (ieq a.2 s) (k (!a.1)) (k false)) (k false)) (Â Ó fun r76=>ifb r76 (ifb (ieq a.2 (0:Int)) (Â (ï b.1 c) fun r77=>k (a.1==r77)) (k false)) (k false)))) (ifb (ine d (0:Int)) (Â Ó fun r78=>ifb r78 (ifb (ieq a.2 d) (k (!a.1)) (k false)) (k false)) (Â Ó fun r79=>ifb r79 (ifb (ieq a.2 (0:Int)) (Â (ï b.1 c) fun r80=>k (a.1==r80)) (k false)) (k false)))))) (ifb (ieq g (0:Int)) (Â (ï f c) fun r81=>ifb (!(e.1==r81)) (k false) (ifb (ieq d (0:Int)) (Â (ĝ b) fun u=>ifb ((û b.2.1.1 (0:Int))&&((û b.2.1.2 (0:Int))&&true)) (Â (č b) fun v=>ifb (ine v (0:Int)) (Â Ó fun r84=>ifb r84 (ifb (ieq a.2 v) (k (!a.1)) (k false)) (k false)) (Â Ó fun r85=>ifb r85 (ifb (ieq a.2 (0:Int)) (Â (ï b.1 c) fun r86=>k (a.1==r86)) (k false)) (k false))) (ifb (ine u (0:Int)) (Â Ó fun r87=>ifb r87 (ifb (ieq a.2 u) (k (!a.1)) (k false)) (k false)) (Â Ó fun r88=>ifb r88 (ifb (ieq a.2 (0:Int)) (Â (ï b.1 c) fun r89=>k (a.1==r89)) (k false)) (k false)))) (ifb (ine d (0:Int)) (Â Ó fun r90=>ifb r90 (ifb (ieq a.2 d) (k (!a.1)) (k false)) (k false)) (Â Ó fun r91=>ifb r91 (ifb (ieq a.2 (0:Int)) (Â (ï b.1 c) fun r92=>k (a.1==r92)) (k false)) (k false))))) (ifb (ieq d (0:Int)) (Â (ĝ b) fun w=>ifb ((û b.2.1.1 (0:Int))&&((û b.2.1.2 (0:Int))&&true)) (Â (č b) fun x=>ifb (ine x (0:Int)) (Â Ó fun r95=>ifb r95 (ifb (ieq a.2 x) (k (!a.1)) (k false)) (k false)) (Â Ó fun r96=>ifb r96 (ifb (ieq a.2 (0:Int)) (Â (ï b.1 c) fun r97=>k (a.1==r97)) (k false)) (k false))) (ifb (ine w (0:Int)) (Â Ó fun r98=>ifb r98 (ifb (ieq a.2 w) (k (!a.1)) (k false)) (k false)) (Â Ó fun r99=>ifb r99 (ifb (ieq a.2 (0:Int)) (Â (ï b.1 c) fun r100=>k (a.1==r100)) (k false)) (k false)))) (ifb (ine d (0:Int)) (Â Ó fun r101=>ifb r101 (ifb (ieq a.2 d) (k (!a.1)) (k false)) (k false)) (Â Ó fun r102=>ifb r102 (ifb (ieq a.2 (0:Int)) (Â (ï b.1 c) fun r103=>k (a.1==r103)) (k false)) (k false)))))))))))
def aiv (a:Val Ä) (b:Val Ä) (c:Val ĉ):Option (Bool):=ah5 a b c some
end Go.Proofs.ZzM
end
