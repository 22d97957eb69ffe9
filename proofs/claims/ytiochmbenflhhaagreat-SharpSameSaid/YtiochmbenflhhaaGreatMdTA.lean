/- lemmas -/
import Derived.Test.YtiochmbenflhhaaGreatAmF
set_option linter.all false
set_option linter.unusedSectionVars false
set_option linter.unusedVariables false
set_option linter.unusedSimpArgs false
noncomputable section
variable {ρ:Type}
set_option maxRecDepth 100000
namespace Go.Proofs.ZzM
open Go Go.Am
abbrev tI:Ty:=.int .i64
abbrev Ã:Ty:=(.pair tI tI)
abbrev Ą:Ty:=(.pair tI Ã)
abbrev è:Ty:=(.pair Ã Ã)
abbrev ħ:Ty:=(.pair Ã tI)
abbrev Ń:Ty:=(.pair tI ħ)
abbrev sr:Ty:=(.pair è tI)
abbrev Ò:Ty:=(.pair tI (.slice Ą))
abbrev wh:Ty:=(.pair (.slice Ą) (.slice Ã))
abbrev Ŭ:Ty:=(.pair Ã (.pair Ą Ą))
abbrev Ð:Ty:=(.pair tI (.pair tI (.pair tI (.pair Ã ħ))))
abbrev Ì:Ty:=(.pair tI (.pair tI (.pair (.slice tI) (.pair (.slice tI) (.pair tI Ą)))))
abbrev Ä:Ty:=(.pair Ã (.pair (.slice Ð) (.pair (.slice Ã) (.pair (.slice Ń) (.pair (.slice Ì) (.slice Ã))))))
abbrev ι:Ty:=(.pair Ä (.pair Ã (.pair .bool (.pair tI (.slice tI)))))
abbrev amh:Ty:=(.pair Ä Ò)
abbrev amH:Ty:=(.pair Ä (.pair (.slice Ã) (.pair Ò (.slice Ã))))
abbrev aa:Ty:=(.slice Ã)
abbrev ab:Ty:=(.slice tI)
abbrev ac:Ty:=(.slice Ì)
abbrev ae:Ty:=(.slice Ð)
abbrev af:Ty:=(.slice Ń)
abbrev ah:Ty:=(.pair tI (.pair tI (.pair ae (.pair aa (.pair af (.pair ac aa))))))
abbrev ai:Ty:=(.pair tI (.pair tI (.pair ae (.pair aa (.pair af (.pair ac (.pair aa (.pair tI (.pair tI (.pair ae (.pair aa (.pair af (.pair ac (.pair aa (.pair tI (.pair tI (.pair ae (.pair aa (.pair af (.pair ac (.pair aa (.pair (.map tI .bool) (.pair (.map tI .bool) ae)))))))))))))))))))))))
abbrev aj:Ty:=(.slice Ą)
abbrev ak:Ty:=(.ptr amh)
abbrev am:Ty:=(.slice .bool)
abbrev ao:Ty:=(.map tI .bool)
abbrev aq:Ty:=(.pair ab (.pair tI (.pair tI (.pair tI (.pair ae (.pair aa (.pair af (.pair ac (.pair aa (.pair tI (.pair tI (.pair tI (.pair tI (.pair tI (.pair tI (.pair ab (.pair ab (.pair tI (.pair tI (.pair tI (.pair tI (.pair aa (.pair tI (.pair tI (.pair ae (.pair aa (.pair af (.pair ac (.pair aa (.pair tI (.pair aj (.pair tI (.pair tI (.pair tI (.pair tI (.pair tI (.pair tI (.pair tI (.pair tI (.pair (.slice ab) (.pair (.slice ab) (.slice ab))))))))))))))))))))))))))))))))))))))))))
abbrev ar:Ty:=(.slice ab)
abbrev au:Ty:=(.pair tI (.pair tI (.pair tI (.pair tI (.pair tI Ą)))))
abbrev aw:Ty:=(.map tI Ð)
abbrev ax:Ty:=(.pair ab (.pair tI (.pair ak (.pair ab (.pair ab am)))))
abbrev ay:Ty:=(.pair tI ab)
abbrev az:Ty:=(.pair tI (.pair tI (.pair tI (.pair ae (.pair aa (.pair af (.pair ac (.pair aa (.pair tI (.pair tI (.pair tI (.pair tI (.pair tI (.pair tI (.pair ab (.pair ab (.pair tI (.pair tI (.pair tI (.pair tI aa))))))))))))))))))))
abbrev aA:Ty:=(.pair tI (.pair tI (.pair ae (.pair aa (.pair af (.pair ac (.pair aa (.pair tI (.pair tI (.pair ab (.pair ab (.pair tI (.pair tI (.pair tI ay))))))))))))))
abbrev aB:Ty:=(.pair tI (.pair tI (.pair tI (.pair ae (.pair aa (.pair af (.pair ac (.pair aa au))))))))
abbrev aC:Ty:=(.pair tI (.pair tI (.pair ae (.pair aa (.pair af (.pair ac (.pair aa ah)))))))
abbrev aD:Ty:=(.pair tI (.pair tI am))
abbrev aE:Ty:=(.pair Ä Ì)
abbrev aF:Ty:=(.pair tI ah)
abbrev aG:Ty:=(.pair tI (.pair ab (.pair tI (.pair ak (.pair ab ab)))))
abbrev aH:Ty:=(.pair tI (.pair tI (.pair tI (.pair ae (.pair aa (.pair af (.pair ac (.pair aa (.pair tI Ą)))))))))
abbrev aI:Ty:=(.pair tI aa)
abbrev aJ:Ty:=(.pair Ä Ã)
abbrev aK:Ty:=(.pair ab tI)
abbrev aL:Ty:=(.pair ab ab)
abbrev aM:Ty:=(.pair Ä tI)
abbrev aO:Ty:=(.pair tI Ò)
abbrev aP:Ty:=(.pair tI (.pair tI ay))
abbrev aQ:Ty:=(.pair am ab)
abbrev aR:Ty:=(.pair tI wh)
abbrev aS:Ty:=(.pair .bool tI)
abbrev aT:Ty:=(.slice ar)
abbrev aU:Ty:=(.pair ak Ã)
abbrev aV:Ty:=(.pair tI aI)
abbrev aW:Ty:=(.ptr Ã)
abbrev aX:Ty:=(.ptr amH)
abbrev aY:Ty:=(.pair ab (.pair am aL))
abbrev aZ:Ty:=(.pair Ã Ì)
abbrev ba:Ty:=(.pair aa Ã)
abbrev bc:Ty:=(.pair Ò Ã)
abbrev bf:Ty:=(.pair Ń .bool)
abbrev bg:Ty:=(.pair (.int .u64) (.int .u64))
abbrev bh:Ty:=(.pair Ò ab)
abbrev bi:Ty:=(.pair tI (.pair tI Ą))
abbrev bj:Ty:=(.pair Ä (.pair aw tI))
def JK (a:Val Ã) (b:Int) (c:Int) (k:Bool→Option ρ):Option ρ :=
  ifb (ile b a.1) (ifb (ile a.1 a.2) (k (ile a.2 c)) (k false)) (k false)
def Μ (a:Val Ã) (b:Int) (c:Int):Option (Bool):=JK a b c some
def JE (a:Int) (b:Int) (c:Int) (k:Bool→Option ρ):Option ρ :=
  ifb (ile b a) (k (ile a c)) (k false)
def ĝ (a:Int) (b:Int) (c:Int):Option (Bool):=JE a b c some
def Qn (a:Int) (k:Bool→Option ρ):Option ρ :=
  Â (ĝ a (0:Int) (20000:Int)) fun b=>k b
def nj (a:Int):Option (Bool):=Qn a some
def Xh (a:Int) (k:Int→Option ρ):Option ρ :=
  ifb (ilt a 0) (k (IntKind.wrap .u64 (0-(IntKind.wrap .u64 a)))) (k (IntKind.wrap .u64 a))
def rB (a:Int):Option (Int):=Xh a some
def zR (b:Int) (a:Int) (c:Int→Int→Option ρ) (d:Int→Option ρ):Option ρ :=
  ifb (ine a 0) (ifb (Ħ a 0) (none) (c a (Int.tmod b a))) (d b)
def adg (b:Int) (c:Int) (k:Int→Option ρ):Option ρ :=
  Ï (fun(a:Val bg) d=>zR a.1 a.2 (fun e f=>d (e,f)) (fun g=>k g)) (b,c)
def QT (a:Int) (b:Int):Option (Int):=adg a b some
def P4 (a:Val Ã) (k:Bool→Option ρ):Option ρ :=
  ifb (ige a.2 1) (ifb (ile a.2 2147483647) (Â (rB a.1) fun b=>ifb (ile b 2147483647) (Â (rB a.1) fun c=>Â (rB a.2) fun d=>Â (QT c d) fun e=>k (ieq e 1)) (k false)) (k false)) (k false)
def ug (a:Val Ã):Option (Bool):=P4 a some
def DZ (a:Val Ð) (k:Bool→Option ρ):Option ρ :=
  Â (ug a.2.2.2.2.1) fun b=>ifb b (Â (ĝ a.2.2.2.2.1.1 (-1000:Int) (1000:Int)) fun c=>ifb c (Â (ĝ a.1 (1:Int) (1099511627776:Int)) fun d=>ifb d (Â (nj a.2.1) fun e=>ifb e (Â (ĝ a.2.2.1 (1:Int) (1125899906842624:Int)) fun f=>ifb f (Â (Μ a.2.2.2.1 (-1073741824:Int) (1073741824:Int)) fun g=>ifb g (ifb (ile a.2.2.2.2.1.2 100) (Â (ĝ a.2.2.2.2.2 (0:Int) (1048576:Int)) fun h=>k h) (k false)) (k false)) (k false)) (k false)) (k false)) (Â (ĝ a.1 (1:Int) (1099511627776:Int)) fun i=>ifb i (Â (nj a.2.1) fun j=>ifb j (Â (ĝ a.2.2.1 (1:Int) (1125899906842624:Int)) fun l=>ifb l (Â (Μ a.2.2.2.1 (-1073741824:Int) (1073741824:Int)) fun m=>ifb m (k false) (k false)) (k false)) (k false)) (k false))) (Â (ĝ a.1 (1:Int) (1099511627776:Int)) fun n=>ifb n (Â (nj a.2.1) fun o=>ifb o (Â (ĝ a.2.2.1 (1:Int) (1125899906842624:Int)) fun p=>ifb p (Â (Μ a.2.2.2.1 (-1073741824:Int) (1073741824:Int)) fun q=>ifb q (k false) (k false)) (k false)) (k false)) (k false))
def vV (a:Val Ð):Option (Bool):=DZ a some
def jc (e:Val ae) (f:Int) (g:Val ae) (a:Int) (b:Int→Option ρ) (c:Int→Option ρ) (h:Unit→Option ρ):Option ρ :=
  ifb (ilt a f) (ò e a fun d=>Â (vV d) fun i=>ifb (!i) (c (1:Int)) (ifb (igt a 0) (ck (a-(1:Int)) fun j=>ò g j fun k=>ifb (ile d.1 k.1) (c (6:Int)) (ck (a+(1:Int)) fun l=>b l)) (ck (a+(1:Int)) fun m=>b m))) (h ())
def pD (a:Val Ä) (k:Int→Option ρ):Option ρ :=
  Ï (fun(b:Int) c=>jc a.2.1 (Õ a.2.1) a.2.1 b (fun d=>c d) (fun e=>k e) (fun _=>k (0:Int))) (0:Int)
def ŵ (a:Val Ä):Option (Int):=pD a some
def mD (d:Val ae) (e:Int) (a:Int) (b:Val aw) (f:Int→Val aw→Option ρ) (g:Val aw→Option ρ):Option ρ :=
  ifb (ilt a e) (ò d a fun c=>ck (a+(1:Int)) fun h=>f h (Nl (k:=tI) (v:=Ð) c.1 c b)) (g b)
def DW (a:Val Ä) (k:Val aw→Option ρ):Option ρ :=
  Ï (fun(b:(Val (.pair tI aw))) c=>mD a.2.1 (Õ a.2.1) b.1 b.2 (fun d e=>c (d,e)) (fun f=>k f)) ((0:Int),[])
def θ (a:Val Ä):Option ((Val aw)):=DW a some
def gR (b:Val ab) (c:Int) (d:Int) (a:Int) (e:Int→Option ρ) (f:Int→Option ρ) (g:Unit→Option ρ):Option ρ :=
  ifb (ilt a d) (ò b a fun h=>ifb (ieq c h) (f a) (ck (a+(1:Int)) fun i=>e i)) (g ())
def lV (a:Val ab) (b:Int) (k:Int→Option ρ):Option ρ :=
  Ï (fun(c:Int) d=>gR a b (Õ a) c (fun e=>d e) (fun f=>k f) (fun _=>k (-1:Int))) (0:Int)
def jB (a:Val ab) (b:Int):Option (Int):=lV a b some
def jH (a:Val ab) (b:Int) (k:Bool→Option ρ):Option ρ :=
  Â (jB a b) fun c=>k (ige c 0)
def Ĕ (a:Val ab) (b:Int):Option (Bool):=jH a b some
def vA (f:Val ac) (g:Int) (d:Int) (a:Int) (b:Val ab) (e:Int→Val ab→Option ρ) (h:Val ab→Option ρ):Option ρ :=
  ifb (ilt a g) (ò f a fun c=>Â (Ĕ c.2.2.1 d) fun i=>Â (Ĕ c.2.2.2.1 d) fun j=>ifb (!(i==j)) (ë (ì ((List.length b)+(List.length ([c.2.1])))) (ck (a+(1:Int)) fun k=>e k (b++([c.2.1])))) (ck (a+(1:Int)) fun l=>e l b)) (h b)
def vz (e:Val aa) (f:Int) (g:Int) (a:Int) (b:Val ab) (d:Int→Val ab→Option ρ) (h:Val ab→Option ρ):Option ρ :=
  ifb (ilt a f) (ò e a fun c=>ifb (ieq c.1 g) (ë (ì ((List.length b)+(List.length ([c.2])))) (ck (a+(1:Int)) fun i=>d i (b++([c.2])))) (ck (a+(1:Int)) fun j=>d j b)) (h b)
def XE (a:Val Ä) (b:Val Ð) (k:Val ab→Option ρ):Option ρ :=
  Ï (fun(d:Val ay) f=>vA a.2.2.2.2.1 (Õ a.2.2.2.2.1) b.1 d.1 d.2 (fun g h=>f (g,h)) (fun i=>Ï (fun(e:Val ay) j=>vz a.2.2.2.2.2 (Õ a.2.2.2.2.2) b.1 e.1 e.2 (fun l m=>j (l,m)) (fun c=>ë (ì (List.length c)) (ë (ì (List.length (Eo c))) (k (Au (Eo c)))))) ((0:Int),i))) ((0:Int),[b.2.1])
def oj (a:Val Ä) (b:Val Ð):Option ((Val ab)):=XE a b some
def rl (e:Val ab) (f:Int) (c:Int) (a:Int) (b:Val aa) (g:Int→Val aa→Option ρ) (h:Val aa→Option ρ):Option ρ :=
  ifb (ilt a f) (ò e a fun d=>ë (ì ((List.length b)+(List.length ([(c,d)])))) (ck (a+(1:Int)) fun i=>g i (b++([(c,d)])))) (h b)
def rn (f:Val ae) (g:Int) (h:Int) (i:Int) (j:Val ae) (k:Val aa) (l:Val af) (m:Val ac) (n:Val aa) (a:Int) (b:Val aa) (o:Int→Val aa→Option ρ) (p:Val aa→Option ρ):Option ρ :=
  ifb (ilt a g) (ò f a fun c=>Â (oj ((h,i),j,k,l,m,n) c) fun d=>Ï (fun(e:Val aI) q=>rl d (Õ d) c.1 e.1 e.2 (fun r s=>q (r,s)) (fun t=>ck (a+(1:Int)) fun u=>o u t)) ((0:Int),b)) (p b)
def Qi (a:Val Ä) (k:Val aa→Option ρ):Option ρ :=
  Ï (fun(b:Val aI) c=>rn a.2.1 (Õ a.2.1) a.1.1 a.1.2 a.2.1 a.2.2.1 a.2.2.2.1 a.2.2.2.2.1 a.2.2.2.2.2 b.1 b.2 (fun d e=>c (d,e)) (fun f=>k f)) ((0:Int),[])
def pS (a:Val Ä):Option ((Val aa)):=Qi a some
def rZ (a:Val aw) (b:Int) (c:Int) (k:Int→Option ρ):Option ρ :=
  YD (k:=tI) (v:=Ð) b a (fun d=>ifb (ilt c d.2.1) (k (4:Int)) (k (0:Int))) (k (5:Int))
def iY (a:Val aw) (b:Int) (c:Int):Option (Int):=rZ a b c some
def DY (b:Int) (a:Int) (c:(Val (.ptr aw))) (k:Int→Option ρ):Option ρ :=
  Â (nj a) fun d=>ifb (!d) (k (1:Int)) (Â (iY c b a) fun e=>k e)
def ĺ (a:Int) (b:Int) (c:(Val (.ptr aw))):Option (Int):=DY a b c some
def j3 (d:Val af) (e:Int) (f:Int) (g:Int) (h:Int) (a:Int) (b:Int→Option ρ) (i:Int→Option ρ) (j:Unit→Option ρ):Option ρ :=
  ifb (ilt a e) (ò d a fun c=>ifb (ieq c.1 f) (ifb (ile c.2.1.1 h) (ifb (ile g c.2.1.2) (i a) (ck (a+(1:Int)) fun k=>b k)) (ck (a+(1:Int)) fun l=>b l)) (ck (a+(1:Int)) fun m=>b m)) (j ())
def Κ (d:Val aa) (e:Int) (f:Int) (g:Int) (h:Int) (a:Int) (b:Int→Option ρ) (i:Int→Option ρ) (j:Unit→Option ρ):Option ρ :=
  ifb (ilt a e) (ò d a fun c=>ifb (ieq c.1 f) (Â (ĝ c.2 g h) fun k=>ifb k (i a) (ck (a+(1:Int)) fun l=>b l)) (ck (a+(1:Int)) fun m=>b m)) (j ())
def vB (b:Val Ä) (e:Val aw) (c:Int) (k:Int→Option ρ):Option ρ :=
  ò b.2.2.2.1 c fun a=>Â (Μ a.2.1 (0:Int) (20000:Int)) fun f=>ifb (!f) (k (1:Int)) (Â (ĝ a.2.2 (0:Int) (1048576:Int)) fun g=>ifb (!g) (k (1:Int)) (Â (iY e a.1 a.2.1.1) fun d=>ifb (ine d 0) (k d) (ë ((ile 0 c)&&(ile c (ă b.2.2.2.1))) (Ï (fun(h:Int) i=>j3 (List.take (Int.toNat c) b.2.2.2.1) (Õ (List.take (Int.toNat c) b.2.2.2.1)) a.1 a.2.1.1 a.2.1.2 h (fun j=>i j) (fun l=>ifb (ige l 0) (k (9:Int)) (Ï (fun(m:Int) n=>Κ b.2.2.1 (Õ b.2.2.1) a.1 a.2.1.1 a.2.1.2 m (fun o=>n o) (fun p=>ifb (ige p 0) (k (9:Int)) (k (0:Int))) (fun _=>k (0:Int))) (0:Int))) (fun _=>Ï (fun(q:Int) r=>Κ b.2.2.1 (Õ b.2.2.1) a.1 a.2.1.1 a.2.1.2 q (fun s=>r s) (fun t=>ifb (ige t 0) (k (9:Int)) (k (0:Int))) (fun _=>k (0:Int))) (0:Int))) (0:Int)))))
def Υ (a:Val Ä) (b:Val aw) (c:Int):Option (Int):=vB a b c some
def Į (d:Val ar) (e:Int) (b:Int) (a:Int) (f:Int→Int→Option ρ) (g:Int→Option ρ):Option ρ :=
  ifb (ilt a e) (ò d a fun h=>ck (b+(Õ h)) fun c=>ifb (ilt c 0) (none) (ck (a+(1:Int)) fun i=>f c i)) (g b)
def ñ (d:Val ar) (e:Int) (a:Int) (b:Val ab) (f:Int→Val ab→Option ρ) (g:Val ab→Option ρ):Option ρ :=
  ifb (ilt a e) (ò d a fun c=>ë (ì ((List.length b)+(List.length c))) (ck (a+(1:Int)) fun h=>f h (b++c))) (g b)
def ja (a:Val ar) (k:Val ab→Option ρ):Option ρ :=
  Ï (fun(c:Val Ã) g=>Į a (Õ a) c.1 c.2 (fun h i=>g (h,i)) (fun d=>ifb (ilt d 0) (none) (ck (d-(0:Int)) fun b=>ifb (igt b 0) (ë ((ilt 0 b)&&(ì (Int.toNat b))) (ë (ile 0 (ă (List.replicate (Int.toNat b) (0:Int)))) (Ï (fun(e:Val ay) j=>ñ a (Õ a) e.1 e.2 (fun l m=>j (l,m)) (fun n=>k n)) ((0:Int),(List.take 0 (List.replicate (Int.toNat b) (0:Int))))))) (Ï (fun(f:Val ay) o=>ñ a (Õ a) f.1 f.2 (fun p q=>o (p,q)) (fun r=>k r)) ((0:Int),[]))))) ((0:Int),(0:Int))
def ï (a:Val ar):Option ((Val ab)):=ja a some
def ob (e:Val ab) (f:Val ab) (g:Int) (a:Int) (b:Int→Option ρ) (c:Bool→Option ρ) (h:Unit→Option ρ):Option ρ :=
  ifb (ilt a g) (ò f a fun d=>Â (ĝ d (1:Int) (1099511627776:Int)) fun i=>ifb (!i) (c false) (ifb (igt a 0) (ck (a-(1:Int)) fun j=>ò e j fun k=>ifb (ile d k) (c false) (ck (a+(1:Int)) fun l=>b l)) (ck (a+(1:Int)) fun m=>b m))) (h ())
def JJ (a:Val ab) (k:Bool→Option ρ):Option ρ :=
  Ï (fun(b:Int) c=>ob a a (Õ a) b (fun d=>c d) (fun e=>k e) (fun _=>k (ile (Õ a) 6))) (0:Int)
def ml (a:Val ab):Option (Bool):=JJ a some
def vy (c:Int) (d:Val ab) (b:Val ab) (a:Int) (e:Int→Option ρ) (f:Int→Option ρ) (g:Unit→Option ρ):Option ρ :=
  ifb (ilt a c) (ë ((ile 0 a)&&(ilt a (ă b))) (ĩ b (Int.toNat a) fun h=>Â (Ĕ d h) fun i=>ifb i (f a) (ck (a+(1:Int)) fun j=>e j))) (g ())
def kg (f:Val ab) (b:Int) (c:Int) (a:Val ab) (d:Int→Int→Val ab→Option ρ) (g:Val ay→Option ρ):Option ρ :=
  ifb (ilt c (Õ a)) (ë ((ile 0 c)&&(ilt c (ă a))) (ĩ a (Int.toNat c) fun e=>Â (Ĕ f e) fun h=>ifb (!h) (ë ((ile 0 b)&&(ilt b (ă a))) (ĩ a (Int.toNat b) fun l=>ck (b+(1:Int)) fun i=>ck (c+(1:Int)) fun j=>d i j (List.set a (Int.toNat b) e))) (ck (c+(1:Int)) fun k=>d b k a))) (g (b,a))
def Xx (b:Val ab) (e:Val ab) (k:Val ab→Option ρ):Option ρ :=
  ë (ì (List.length b)) (Ï (fun(f:Int) g=>vy (Õ b) e b f (fun h=>g h) (fun c=>ifb (ieq c (-1:Int)) (k b) (ck (c+(1:Int)) fun i=>Ï (fun(d:(Val (.pair tI ay))) j=>kg e d.1 d.2.1 d.2.2 (fun l m n=>j (l,m,n)) (fun a=>ë ((ile 0 a.1)&&(ile a.1 (ă a.2))) (ë ((ile 0 a.1)&&(ile a.1 (ă (List.take (Int.toNat a.1) a.2++List.replicate (List.length a.2-(Int.toNat a.1)) (0:Int)++List.drop ((Int.toNat a.1)+(List.length a.2-(Int.toNat a.1))) a.2)))) (k (List.take (Int.toNat a.1) (List.drop 0 (List.take (Int.toNat a.1) a.2++List.replicate (List.length a.2-(Int.toNat a.1)) (0:Int)++List.drop ((Int.toNat a.1)+(List.length a.2-(Int.toNat a.1))) a.2))))))) (c,i,b))) (fun _=>k b)) (0:Int))
def Ŧ (a:Val ab) (b:Val ab):Option ((Val ab)):=Xx a b some
def vC (d:Val af) (e:Int) (f:Int) (g:Int) (a:Int) (c:Int→Option ρ) (h:Int→Option ρ) (i:Unit→Option ρ):Option ρ :=
  ifb (ilt a e) (ò d a fun b=>ifb (ieq b.1 f) (Â (ĝ g b.2.1.1 b.2.1.2) fun j=>ifb j (h a) (ck (a+(1:Int)) fun k=>c k)) (ck (a+(1:Int)) fun l=>c l)) (i ())
def XF (a:Val Ä) (c:Int) (d:Int) (k:Val bf→Option ρ):Option ρ :=
  Ï (fun(e:Int) f=>vC a.2.2.2.1 (Õ a.2.2.2.1) c d e (fun g=>f g) (fun b=>ifb (ilt b 0) (k (((0:Int),((0:Int),(0:Int)),(0:Int)),false)) (ò a.2.2.2.1 b fun h=>k (h,true))) (fun _=>k (((0:Int),((0:Int),(0:Int)),(0:Int)),false))) (0:Int)
def Aq (a:Val Ä) (b:Int) (c:Int):Option ((Val bf)):=XF a b c some
def iB (b:Val ac) (c:Int) (d:Int) (a:Int) (e:Int→Option ρ) (f:Int→Option ρ) (g:Unit→Option ρ):Option ρ :=
  ifb (ilt a c) (ò b a fun h=>ifb (ieq h.1 d) (f a) (ck (a+(1:Int)) fun i=>e i)) (g ())
def iA (c:Val aw) (b:Int) (d:Val ab) (e:Int) (f:Int) (a:Int) (g:Int→Option ρ) (h:Int→Option ρ) (i:Unit→Option ρ):Option ρ :=
  ifb (ilt a e) (ò d a fun j=>Â (iY c j f) fun k=>ifb (ieq k b) (h b) (ck (a+(1:Int)) fun l=>g l)) (i ())
def ň (d:Val aw) (b:Val ab) (e:Int) (f:Int) (c:Val ab) (a:Int) (g:Int→Option ρ) (h:Int→Option ρ) (i:Unit→Option ρ):Option ρ :=
  ifb (ilt a e) (ë ((ile 0 a)&&(ilt a (ă c))) (ĩ c (Int.toNat a) fun j=>Ï (fun(k:Int) l=>iA d j b (Õ b) f k (fun m=>l m) (fun n=>h n) (fun _=>ck (a+(1:Int)) fun o=>g o)) (0:Int))) (i ())
def Ň (b:Val ab) (c:Int) (d:Int) (e:Int) (f:Val ae) (g:Val aa) (h:Val af) (i:Val ac) (j:Val aa) (k:Int) (a:Int) (l:Int→Option ρ) (m:Int→Option ρ) (n:Unit→Option ρ):Option ρ :=
  ifb (ilt a c) (ò b a fun o=>Â (Aq ((d,e),f,g,h,i,j) o k) fun p=>ifb p.2 (m (9:Int)) (ck (a+(1:Int)) fun q=>l q)) (n ())
def ny (b:Val Ä) (f:Val aw) (c:Int) (k:Int→Option ρ):Option ρ :=
  ò b.2.2.2.2.1 c fun a=>Â (ĝ a.1 (1:Int) (1099511627776:Int)) fun l=>ifb (!l) (k (1:Int)) (Â (nj a.2.1) fun m=>ifb (!m) (k (1:Int)) (Â (ĝ a.2.2.2.2.1 (-1125899906842624:Int) (1125899906842624:Int)) fun n=>ifb (!n) (k (1:Int)) (Â (ĝ a.2.2.2.2.2.1 (0:Int) (1073741824:Int)) fun o=>ifb (!o) (k (1:Int)) (Â (Μ a.2.2.2.2.2.2 (-10000:Int) (10000:Int)) fun p=>ifb (!p) (k (1:Int)) (Â (ml a.2.2.1) fun q=>ifb (!q) (k (1:Int)) (Â (ml a.2.2.2.1) fun r=>ifb (!r) (k (1:Int)) (ë ((ile 0 c)&&(ile c (ă b.2.2.2.2.1))) (Ï (fun(s:Int) t=>iB (List.take (Int.toNat c) b.2.2.2.2.1) (Õ (List.take (Int.toNat c) b.2.2.2.2.1)) a.1 s (fun u=>t u) (fun v=>ifb (ige v 0) (k (6:Int)) (Â (ï ([a.2.2.1,a.2.2.2.1])) fun d=>Ï (fun(w:Int) x=>ň f d (Õ ([(5:Int),(4:Int)])) a.2.1 ([(5:Int),(4:Int)]) w (fun y=>x y) (fun z=>k z) (fun _=>Ï (fun(A:Int) B=>Ň d (Õ d) b.1.1 b.1.2 b.2.1 b.2.2.1 b.2.2.2.1 b.2.2.2.2.1 b.2.2.2.2.2 a.2.1 A (fun C=>B C) (fun D=>k D) (fun _=>Â (Ŧ a.2.2.1 a.2.2.2.1) fun g=>Â (Ŧ a.2.2.2.1 a.2.2.1) fun h=>ifb (igt (Õ g) 1) (k (1:Int)) (ifb (igt (Õ h) 1) (k (1:Int)) (ck ((Õ g)+(Õ h)) fun E=>ifb (ieq E 0) (k (1:Int)) (k (0:Int)))))) (0:Int))) (0:Int))) (fun _=>Â (ï ([a.2.2.1,a.2.2.2.1])) fun e=>Ï (fun(F:Int) G=>ň f e (Õ ([(5:Int),(4:Int)])) a.2.1 ([(5:Int),(4:Int)]) F (fun H=>G H) (fun I=>k I) (fun _=>Ï (fun(J:Int) K=>Ň e (Õ e) b.1.1 b.1.2 b.2.1 b.2.2.1 b.2.2.2.1 b.2.2.2.2.1 b.2.2.2.2.2 a.2.1 J (fun L=>K L) (fun M=>k M) (fun _=>Â (Ŧ a.2.2.1 a.2.2.2.1) fun i=>Â (Ŧ a.2.2.2.1 a.2.2.1) fun j=>ifb (igt (Õ i) 1) (k (1:Int)) (ifb (igt (Õ j) 1) (k (1:Int)) (ck ((Õ i)+(Õ j)) fun N=>ifb (ieq N 0) (k (1:Int)) (k (0:Int)))))) (0:Int))) (0:Int))) (0:Int)))))))))
def ľ (a:Val Ä) (b:Val aw) (c:Int):Option (Int):=ny a b c some
def nc (b:Val Ä) (s:Val aw):Option (List Int) :=
  Â (Oo (fun u=>ĺ u.1 u.2 s) (b.2.2.1:List (Int×Int))) fun a=>Â (Oo (fun i=>Υ b s i) (xd (b.2.2.2.1:List (Val Ń)).length)) fun c =>
    Â (Oo (fun i=>ľ b s i) (xd (b.2.2.2.2.1:List (Val Ì)).length)) fun d=>Â (Oo (fun u=>ĺ u.1 u.2 s) (b.2.2.2.2.2:List (Int×Int))) fun e=>some (a++(c++(d++e)))
def Qt (a:Val Ä) (k:Int→Option ρ):Option ρ :=
  Â (Μ a.1 (0:Int) (1000000:Int)) fun d=>ifb (!d) (k (1:Int)) (ifb (igt (Õ a.2.1) 12) (k (2:Int)) (ifb (igt (Õ a.2.2.1) 40) (k (2:Int)) (ifb (igt (Õ a.2.2.2.1) 12) (k (2:Int)) (ifb (igt (Õ a.2.2.2.2.1) 40) (k (2:Int)) (ifb (igt (Õ a.2.2.2.2.2) 10) (k (2:Int)) (Â (ŵ a) fun b=>ifb (ine b 0) (k b) (Â (θ a) fun e=>Za (nc a e) (fun f=>k f) (Â (pS a) fun c=>ifb (igt (Õ c) 59) (k (2:Int)) (ck ((2:Int)*(Õ a.2.1)) fun g=>ck ((Õ c)-(Õ a.2.1)) fun h=>ck ((2:Int)*h) fun i=>ck (g+i) fun j=>ck ((2:Int)*(Õ a.2.2.2.2.1)) fun l=>ck (j+l) fun m=>ifb (igt m 300) (k (2:Int)) (k (0:Int)))))))))))
def ó (a:Val Ä):Option (Int):=Qt a some
def zW (l:List (Val Ð)) (m:List (Int×Bool)):Option (List (Val Ð)) :=
  ë (ì l.length) (some (l.filter fun g=>(sL (k:=tI) (v:=.bool) g.1 m).getD false))
def tp (c:Val ab) (d:Int) (a:Int) (b:Val ao) (e:Int→Val ao→Option ρ) (f:Val ao→Option ρ):Option ρ :=
  ifb (ilt a d) (ò c a fun g=>ck (a+(1:Int)) fun h=>e h (Nl (k:=tI) (v:=.bool) g true b)) (f b)
def zO (j:Val aa) (l:Int) (f:Val ae) (g:Val ac) (b:Int) (c:Val ao) (d:Val ao) (e:Int→Val ao→Val ao→Option ρ) (m:(Val (.pair ao ao))→Option ρ):Option ρ :=
  ifb (ilt b l) (ò j b fun a=>ifb (Ħ a.1 0) (none) (ifb (Ħ a.1 1) (ò f a.2 fun n=>ck (b+(1:Int)) fun o=>e o (Nl (k:=tI) (v:=.bool) n.1 true c) d) (ifb (Ħ a.1 2) (ò f a.2 fun p=>ck (b+(1:Int)) fun q=>e q (Nl (k:=tI) (v:=.bool) p.1 true c) d) (ë (Ħ a.1 3) (ò g a.2 fun r=>ò g a.2 fun s=>Â (ï ([r.2.2.1,s.2.2.2.1])) fun h=>Ï (fun(i:(Val (.pair tI ao))) t=>tp h (Õ h) i.1 i.2 (fun u w=>t (u,w)) (fun x=>ck (b+(1:Int)) fun y=>e y x (Nl (k:=tI) (v:=.bool) a.2 true d))) ((0:Int),c)))))) (m (c,d))
def tm (c:Val aa) (d:Int) (a:Int) (b:Val ao) (e:Int→Val ao→Option ρ) (f:Val ao→Option ρ):Option ρ :=
  ifb (ilt a d) (ò c a fun g=>ck (a+(1:Int)) fun h=>e h (Nl (k:=tI) (v:=.bool) g.1 true b)) (f b)
def tk (e:Val aa) (f:Int) (g:Val ao) (a:Int) (b:Val aa) (c:Int→Val aa→Option ρ) (h:Val aa→Option ρ):Option ρ :=
  ifb (ilt a f) (ò e a fun d=>YD (k:=tI) (v:=.bool) d.1 g (fun i=>ifb i (ë (ì ((List.length b)+(List.length ([d])))) (ck (a+(1:Int)) fun j=>c j (b++([d])))) (ck (a+(1:Int)) fun l=>c l b)) (ck (a+(1:Int)) fun m=>c m b)) (h b)
def tj (e:Val af) (f:Int) (g:Val ao) (a:Int) (b:Val af) (c:Int→Val af→Option ρ) (h:Val af→Option ρ):Option ρ :=
  ifb (ilt a f) (ò e a fun d=>YD (k:=tI) (v:=.bool) d.1 g (fun i=>ifb i (ë (ì ((List.length b)+(List.length ([d])))) (ck (a+(1:Int)) fun j=>c j (b++([d])))) (ck (a+(1:Int)) fun l=>c l b)) (ck (a+(1:Int)) fun m=>c m b)) (h b)
def tg (e:Val ac) (f:Int) (g:Val ao) (a:Int) (b:Val ac) (d:Int→Val ac→Option ρ) (h:Val ac→Option ρ):Option ρ :=
  ifb (ilt a f) (ò e a fun c=>YD (k:=tI) (v:=.bool) a g (fun i=>ifb i (ë (ì (List.length c.2.2.1)) (ë (ì (List.length c.2.2.2.1)) (ë (ì ((List.length b)+(List.length ([c])))) (ck (a+(1:Int)) fun j=>d j (b++([c])))))) (ck (a+(1:Int)) fun l=>d l b)) (ck (a+(1:Int)) fun m=>d m b)) (h b)
def mT (p:Val aV) (v:Val ai) (k:Val Ä→Option ρ):Option ρ :=
  Ï (fun(a:Val aI) d=>tk v.2.2.2.1 (Õ v.2.2.2.1) v.2.2.2.2.2.2.2.2.2.2.2.2.2.2.2.2.2.2.2.2.2.1 a.1 a.2 (fun e f=>d (e,f)) (fun g=>Ï (fun(b:(Val (.pair tI af))) h=>tj v.2.2.2.2.1 (Õ v.2.2.2.2.1) v.2.2.2.2.2.2.2.2.2.2.2.2.2.2.2.2.2.2.2.2.2.1 b.1 b.2 (fun i j=>h (i,j)) (fun l=>Ï (fun(c:(Val (.pair tI ac))) m=>tg v.2.2.2.2.2.1 (Õ v.2.2.2.2.2.1) v.2.2.2.2.2.2.2.2.2.2.2.2.2.2.2.2.2.2.2.2.2.2.1 c.1 c.2 (fun n o=>m (n,o)) (fun q=>k ((p.1,p.2.1),v.2.2.2.2.2.2.2.2.2.2.2.2.2.2.2.2.2.2.2.2.2.2.2,g,l,q,p.2.2))) ((0:Int),[]))) ((0:Int),[]))) ((0:Int),[])
def Ge (a:Val Ä) (d:Val aa) (b:Val aa) (kA:Val aV→Val ai→Option ρ):Option ρ :=
  Ï (fun(c:(Val (.pair tI (.pair ao ao)))) g=>zO d (Õ d) a.2.1 a.2.2.2.2.1 c.1 c.2.1 c.2.2 (fun h i j=>g (h,i,j)) (fun e=>Ï (fun(f:(Val (.pair tI ao))) k=>tm b (Õ b) f.1 f.2 (fun l m=>k (l,m)) (fun n=>kA (a.1.1,a.1.2,b) (a.1.1,a.1.2,a.2.1,a.2.2.1,a.2.2.2.1,a.2.2.2.2.1,a.2.2.2.2.2,(0:Int),(0:Int),[],[],[],[],[],a.1.1,a.1.2,a.2.1,a.2.2.1,a.2.2.2.1,a.2.2.2.2.1,a.2.2.2.2.2,n,e.2,[]))) ((0:Int),e.1))) ((0:Int),[],[])
def aiq (a:Val Ä) (b:Val aa) (c:Val aa) (k:Val Ä→Option ρ):Option ρ :=
  Ge a b c fun p v=>Â (zW v.2.2.2.2.2.2.2.2.2.2.2.2.2.2.2.2.1 v.2.2.2.2.2.2.2.2.2.2.2.2.2.2.2.2.2.2.2.2.2.1) fun z=>mT p (v.1,v.2.1,v.2.2.1,v.2.2.2.1,v.2.2.2.2.1,v.2.2.2.2.2.1,v.2.2.2.2.2.2.1,v.2.2.2.2.2.2.2.1,v.2.2.2.2.2.2.2.2.1,v.2.2.2.2.2.2.2.2.2.1,v.2.2.2.2.2.2.2.2.2.2.1,v.2.2.2.2.2.2.2.2.2.2.2.1,v.2.2.2.2.2.2.2.2.2.2.2.2.1,v.2.2.2.2.2.2.2.2.2.2.2.2.2.1,v.2.2.2.2.2.2.2.2.2.2.2.2.2.2.1,v.2.2.2.2.2.2.2.2.2.2.2.2.2.2.2.1,v.2.2.2.2.2.2.2.2.2.2.2.2.2.2.2.2.1,v.2.2.2.2.2.2.2.2.2.2.2.2.2.2.2.2.2.1,v.2.2.2.2.2.2.2.2.2.2.2.2.2.2.2.2.2.2.1,v.2.2.2.2.2.2.2.2.2.2.2.2.2.2.2.2.2.2.2.1,v.2.2.2.2.2.2.2.2.2.2.2.2.2.2.2.2.2.2.2.2.1,v.2.2.2.2.2.2.2.2.2.2.2.2.2.2.2.2.2.2.2.2.2.1,v.2.2.2.2.2.2.2.2.2.2.2.2.2.2.2.2.2.2.2.2.2.2.1,z) k
def QS (a:Val Ä) (b:Val aa) (c:Val aa):Option (Val Ä):=aiq a b c some
def IP (a:Val Ì) (k:Bool→Option ρ):Option ρ :=
  ifb (ile (Õ a.2.2.1) 10) (k (ile (Õ a.2.2.2.1) 10)) (k false)
def Aa (a:Val Ì):Option (Bool):=IP a some
def uH (b:Val ac) (a:Int) (d:Int→Option ρ) (e:Bool→Option ρ) (c:Unit→Option ρ):Option ρ :=
  ifb (ilt a (Õ b)) (ifb (ilt a 50) (ò b a fun f=>Â (Aa f) fun g=>ifb (!g) (e false) (ck (a+(1:Int)) fun h=>d h)) (c ())) (c ())
def V3 (a:Val Ä) (k:Bool→Option ρ):Option ρ :=
  Ï (fun(b:Int) c=>uH a.2.2.2.2.1 b (fun d=>c d) (fun e=>k e) (fun _=>ifb (ile (Õ a.2.1) 14) (ifb (ile (Õ a.2.2.1) 45) (ifb (ile (Õ a.2.2.2.1) 14) (ifb (ile (Õ a.2.2.2.2.1) 42) (k (ile (Õ a.2.2.2.2.2) 12)) (k false)) (k false)) (k false)) (k false))) (0:Int)
def Nv (a:Val Ä):Option (Bool):=V3 a some
def ģ (c:Val aa) (d:Int) (e:Int) (f:Int) (a:Int) (g:Int→Option ρ) (h:Int→Option ρ) (i:Unit→Option ρ):Option ρ :=
  ifb (ilt a d) (ò c a fun b=>ifb ((Ħ e b.1)&&((Ħ f b.2)&&true)) (h a) (ck (a+(1:Int)) fun j=>g j)) (i ())
def Ű (a:Val aa) (b:Val Ã) (k:Int→Option ρ):Option ρ :=
  Ï (fun(c:Int) d=>ģ a (Õ a) b.1 b.2 c (fun e=>d e) (fun f=>k f) (fun _=>k (-1:Int))) (0:Int)
def ý (a:Val aa) (b:Val Ã):Option (Int):=Ű a b some
def Qs (a:Val Ä) (d:Val Ã) (k:Val Ã→Option ρ):Option ρ :=
  Â (ó a) fun b=>ifb (ine b 0) (k ((0:Int),b)) (Â (pS a) fun e=>Â (ý e d) fun c=>ifb (ilt c 0) (k ((0:Int),(5:Int))) (ck (c+(1:Int)) fun f=>k (f,(0:Int))))
def Ģ (a:Val Ä) (b:Val Ã):Option (Val Ã):=Qs a b some
def DF (a:Val ak) (b:Val Ã) (k:Int→Option ρ):Option ρ :=
  Â (Ģ a.1 b) fun c=>k c.1
def Š (a:Val ak) (b:Val Ã):Option (Int):=DF a b some
def W8 (b:Val Ò) (a:Int) (k:Bool→Option ρ):Option ρ :=
  ifb (ige a 0) (k (ilt a b.1)) (k false)
def rA (a:Val Ò) (b:Int):Option (Bool):=W8 a b some
def qZ (f:Val aj) (g:Int) (d:Int) (e:Val aj) (a:Int) (h:Int→Option ρ) (c:Val Ã→Option ρ) (i:Unit→Option ρ):Option ρ :=
  ifb (ilt a g) (ò f a fun b=>Â (rA (d,e) b.1) fun j=>ifb (!j) (c ((1:Int),a)) (Â (rA (d,e) b.2.1) fun k=>ifb (!k) (c ((1:Int),a)) (ifb (ieq b.1 b.2.1) (c ((1:Int),a)) (ifb (ilt b.2.2 (-4503599627370496:Int)) (c ((1:Int),a)) (ifb (igt b.2.2 4503599627370496) (c ((1:Int),a)) (ck (a+(1:Int)) fun l=>h l)))))) (i ())
def PP (a:Val Ò) (k:Val Ã→Option ρ):Option ρ :=
  ifb (ilt a.1 1) (k ((1:Int),(-1:Int))) (ifb (igt a.1 60) (k ((1:Int),(-1:Int))) (ifb (igt (Õ a.2) 300) (k ((2:Int),(-1:Int))) (Ï (fun(c:Int) d=>qZ a.2 (Õ a.2) a.1 a.2 c (fun e=>d e) (fun b=>k (b.1,b.2)) (fun _=>k ((0:Int),(-1:Int)))) (0:Int))))
def ni (a:Val Ò):Option (Val Ã):=PP a some
def gY (c:Val aj) (d:Int) (b:Int) (a:Int) (e:Int→Int→Option ρ) (f:Int→Option ρ):Option ρ :=
  ifb (ilt a d) (ò c a fun g=>ck (b+(Ea g.2.2 (0:Int))) fun h=>ck (a+(1:Int)) fun i=>e h i) (f b)
def ő (f:Int) (d:Val ab) (a:Int) (b:Val am) (c:Val ab) (e:Int→Val am→Val ab→Option ρ) (g:Val aQ→Option ρ):Option ρ :=
  ifb (ilt a f) (ë ((ile 0 a)&&(ilt a (ă d))) (ĩ d (Int.toNat a) fun h=>ifb (ine h 1152921504606846976) (ë (ì ((List.length c)+(List.length ([a])))) (ë ((ile 0 a)&&(ilt a (ă b))) (ĩ b (Int.toNat a) fun k=>ck (a+(1:Int)) fun i=>e i (List.set b (Int.toNat a) true) (c++([a]))))) (ck (a+(1:Int)) fun j=>e j b c))) (g (b,c))
def jj (m:Val ao) (j:Int) (d:Int) (n:Val aj) (o:Int) (f:Int) (b:Val ab) (c:Val am) (e:Val ab) (g:Int→Val ab→Val am→Val ab→Option ρ) (l:(Val (.pair .bool (.pair ab aQ)))→Option ρ) (p:(Val (.pair ab aQ))→Option ρ):Option ρ :=
  ifb (ilt f o) (ò n f fun a=>ifb (ine a.1 d) (ck (f+(1:Int)) fun q=>g q b c e) (YD (k:=tI) (v:=.bool) f m (fun r=>ifb r (ck (f+(1:Int)) fun s=>g s b c e) (ë ((ile 0 d)&&(ilt d (ă b))) (ĩ b (Int.toNat d) fun t=>ck (t+a.2.2) fun u=>ë ((ile 0 a.2.1)&&(ilt a.2.1 (ă b))) (ĩ b (Int.toNat a.2.1) fun w=>ifb (ige u w) (ck (f+(1:Int)) fun x=>g x b c e) (ë ((ile 0 d)&&(ilt d (ă b))) (ĩ b (Int.toNat d) fun y=>ck (y+a.2.2) fun h=>ë ((ile 0 a.2.1)&&(ilt a.2.1 (ă b))) (ĩ b (Int.toNat a.2.1) fun M=>ë ((ile 0 a.2.1)&&(ilt a.2.1 (ă (List.set b (Int.toNat a.2.1) h)))) (ĩ (List.set b (Int.toNat a.2.1) h) (Int.toNat a.2.1) fun z=>ifb (ilt z j) (l (false,(List.set b (Int.toNat a.2.1) h),c,e)) (ë ((ile 0 a.2.1)&&(ilt a.2.1 (ă c))) (ĩ c (Int.toNat a.2.1) fun A=>ifb (!A) (ë (ì ((List.length e)+(List.length ([a.2.1])))) (ë ((ile 0 a.2.1)&&(ilt a.2.1 (ă c))) (ĩ c (Int.toNat a.2.1) fun N=>ck (f+(1:Int)) fun B=>g B (List.set b (Int.toNat a.2.1) h) (List.set c (Int.toNat a.2.1) true) (e++([a.2.1]))))) (ck (f+(1:Int)) fun C=>g C (List.set b (Int.toNat a.2.1) h) c e))))))))))) (ë ((ile 0 d)&&(ilt d (ă b))) (ĩ b (Int.toNat d) fun D=>ck (D+a.2.2) fun E=>ë ((ile 0 a.2.1)&&(ilt a.2.1 (ă b))) (ĩ b (Int.toNat a.2.1) fun F=>ifb (ige E F) (ck (f+(1:Int)) fun G=>g G b c e) (ë ((ile 0 d)&&(ilt d (ă b))) (ĩ b (Int.toNat d) fun H=>ck (H+a.2.2) fun i=>ë ((ile 0 a.2.1)&&(ilt a.2.1 (ă b))) (ĩ b (Int.toNat a.2.1) fun O=>ë ((ile 0 a.2.1)&&(ilt a.2.1 (ă (List.set b (Int.toNat a.2.1) i)))) (ĩ (List.set b (Int.toNat a.2.1) i) (Int.toNat a.2.1) fun I=>ifb (ilt I j) (l (false,(List.set b (Int.toNat a.2.1) i),c,e)) (ë ((ile 0 a.2.1)&&(ilt a.2.1 (ă c))) (ĩ c (Int.toNat a.2.1) fun J=>ifb (!J) (ë (ì ((List.length e)+(List.length ([a.2.1])))) (ë ((ile 0 a.2.1)&&(ilt a.2.1 (ă c))) (ĩ c (Int.toNat a.2.1) fun P=>ck (f+(1:Int)) fun K=>g K (List.set b (Int.toNat a.2.1) i) (List.set c (Int.toNat a.2.1) true) (e++([a.2.1]))))) (ck (f+(1:Int)) fun L=>g L (List.set b (Int.toNat a.2.1) i) c e)))))))))))) (p (b,c,e))
def ĥ (l:Val ao) (m:Int) (n:Int) (k:Val aj) (h:Val ab) (d:Val am) (b:Val ab) (c:Val ab) (o:Val ab→Val am→Val ab→Val ab→Option ρ) (i:(Val (.pair .bool aY))→Option ρ):Option ρ :=
  ifb (ieq (Õ c) 0) (i (true,h,d,b,c)) (ë (ilt 0 (ă c)) (ĩ c 0 fun a=>ë (ile 1 (ă c)) (ë (decide (1+(List.length c-1)=List.length c)) (ë ((ile 0 a)&&(ilt a (ă d))) (ĩ d (Int.toNat a) fun x=>ë ((ile 0 a)&&(ilt a (ă b))) (ĩ b (Int.toNat a) fun p=>ck (p+(1:Int)) fun e=>ë ((ile 0 a)&&(ilt a (ă b))) (ĩ b (Int.toNat a) fun y=>ë ((ile 0 a)&&(ilt a (ă (List.set b (Int.toNat a) e)))) (ĩ (List.set b (Int.toNat a) e) (Int.toNat a) fun q=>ck (n+(1:Int)) fun r=>ifb (igt q r) (i (false,h,(List.set d (Int.toNat a) false),(List.set b (Int.toNat a) e),(List.drop 1 c))) (Ï (fun(f:(Val (.pair tI (.pair ab aQ)))) s=>jj l m a k (Õ k) f.1 f.2.1 f.2.2.1 f.2.2.2 (fun t u v w=>s (t,u,v,w)) (fun g=>i (g.1,g.2.1,g.2.2.1,(List.set b (Int.toNat a) e),g.2.2.2)) (fun j=>o j.1 j.2.1 (List.set b (Int.toNat a) e) j.2.2)) ((0:Int),h,(List.set d (Int.toNat a) false),(List.drop 1 c)))))))))))
def ji (c:Int) (d:Int) (a:Int) (b:Val ab) (e:Int→Val ab→Option ρ) (f:Val ab→Option ρ):Option ρ :=
  ifb (ilt a d) (ë ((ile 0 a)&&(ilt a (ă b))) (ĩ b (Int.toNat a) fun g=>ck (g-c) fun h=>ë ((ile 0 a)&&(ilt a (ă b))) (ĩ b (Int.toNat a) fun j=>ck (a+(1:Int)) fun i=>e i (List.set b (Int.toNat a) h)))) (f b)
def yA (a:Val Ò) (h:Val ao) (k:(Val (.pair ab .bool))→Option ρ):Option ρ :=
  ë ((ile 0 a.1)&&(ì (Int.toNat a.1))) (ë ((ile 0 a.1)&&(ì (Int.toNat a.1))) (ë ((ile 0 a.1)&&(ì (Int.toNat a.1))) (Ï (fun(e:Val Ã) i=>gY a.2 (Õ a.2) e.1 e.2 (fun j l=>i (j,l)) (fun m=>Ï (fun(d:(Val (.pair tI aQ))) n=>ő a.1 (List.replicate (Int.toNat a.1) (0:Int)) d.1 d.2.1 d.2.2 (fun o p q=>n (o,p,q)) (fun f=>Ï (fun(c:Val aY) r=>ĥ h m a.1 a.2 c.1 c.2.1 c.2.2.1 c.2.2.2 (fun s t u v=>r (s,t,u,v)) (fun b=>ifb (!b.1) (k ([],false)) (ë (ilt 0 (ă b.2.1)) (ĩ b.2.1 0 fun w=>Ï (fun(g:Val ay) x=>ji w (Õ b.2.1) g.1 g.2 (fun y z=>x (y,z)) (fun A=>k (A,true))) ((0:Int),b.2.1))))) ((List.replicate (Int.toNat a.1) (0:Int)),f.1,(List.replicate (Int.toNat a.1) (0:Int)),f.2))) ((0:Int),(List.replicate (Int.toNat a.1) false),[]))) ((0:Int),(0:Int)))))
def kE (a:Val Ò) (b:Val ao):Option ((Val (.pair ab .bool))):=yA a b some
def qX (b:Val ab) (c:Int) (d:Int) (e:Val aj) (a:Int) (f:Int→Option ρ) (g:Int→Option ρ) (h:Unit→Option ρ):Option ρ :=
  ifb (ilt a c) (ò b a fun i=>Â (rA (d,e) i) fun j=>ifb (!j) (g (1:Int)) (ck (a+(1:Int)) fun k=>f k)) (h ())
def PH (a:Val Ò) (b:Val ab) (k:Int→Option ρ):Option ρ :=
  Â (ni a) fun c=>ifb (ine c.1 0) (k c.1) (Ï (fun(d:Int) e=>qX b (Õ b) a.1 a.2 d (fun f=>e f) (fun g=>k g) (fun _=>Â (kE a ([])) fun h=>ifb (!h.2) (k (9:Int)) (k (0:Int)))) (0:Int))
def HV (a:Val Ò) (b:Val ab):Option (Int):=PH a b some
def oa (c:Int) (a:Int) (b:Val ab) (d:Int→Val ab→Option ρ) (e:Val ab→Option ρ):Option ρ :=
  ifb (ilt a c) (ë ((ile 0 a)&&(ilt a (ă b))) (ĩ b (Int.toNat a) fun g=>ck (a+(1:Int)) fun f=>d f (List.set b (Int.toNat a) (1152921504606846976:Int)))) (e b)
def vl (c:Val aj) (d:Int) (b:Int) (a:Int) (e:Int→Int→Option ρ) (f:Int→Option ρ):Option ρ :=
  ifb (ilt a d) (ò c a fun g=>ck (b+(Ea g.2.2 (0:Int))) fun h=>ck (a+(1:Int)) fun i=>e h i) (f b)
def vk (f:Int) (d:Val ab) (a:Int) (b:Val am) (c:Val ab) (e:Int→Val am→Val ab→Option ρ) (g:Val aQ→Option ρ):Option ρ :=
  ifb (ilt a f) (ë ((ile 0 a)&&(ilt a (ă d))) (ĩ d (Int.toNat a) fun h=>ifb (ine h 1152921504606846976) (ë (ì ((List.length c)+(List.length ([a])))) (ë ((ile 0 a)&&(ilt a (ă b))) (ĩ b (Int.toNat a) fun k=>ck (a+(1:Int)) fun i=>e i (List.set b (Int.toNat a) true) (c++([a]))))) (ck (a+(1:Int)) fun j=>e j b c))) (g (b,c))
def GA (m:Val ao) (j:Int) (d:Int) (n:Val aj) (o:Int) (f:Int) (b:Val ab) (c:Val am) (e:Val ab) (g:Int→Val ab→Val am→Val ab→Option ρ) (l:(Val (.pair .bool (.pair ab aQ)))→Option ρ) (p:(Val (.pair ab aQ))→Option ρ):Option ρ :=
  ifb (ilt f o) (ò n f fun a=>ifb (ine a.1 d) (ck (f+(1:Int)) fun q=>g q b c e) (YD (k:=tI) (v:=.bool) f m (fun r=>ifb r (ck (f+(1:Int)) fun s=>g s b c e) (ë ((ile 0 d)&&(ilt d (ă b))) (ĩ b (Int.toNat d) fun t=>ck (t+a.2.2) fun u=>ë ((ile 0 a.2.1)&&(ilt a.2.1 (ă b))) (ĩ b (Int.toNat a.2.1) fun w=>ifb (ige u w) (ck (f+(1:Int)) fun x=>g x b c e) (ë ((ile 0 d)&&(ilt d (ă b))) (ĩ b (Int.toNat d) fun y=>ck (y+a.2.2) fun h=>ë ((ile 0 a.2.1)&&(ilt a.2.1 (ă b))) (ĩ b (Int.toNat a.2.1) fun M=>ë ((ile 0 a.2.1)&&(ilt a.2.1 (ă (List.set b (Int.toNat a.2.1) h)))) (ĩ (List.set b (Int.toNat a.2.1) h) (Int.toNat a.2.1) fun z=>ifb (ilt z j) (l (false,(List.set b (Int.toNat a.2.1) h),c,e)) (ë ((ile 0 a.2.1)&&(ilt a.2.1 (ă c))) (ĩ c (Int.toNat a.2.1) fun A=>ifb (!A) (ë (ì ((List.length e)+(List.length ([a.2.1])))) (ë ((ile 0 a.2.1)&&(ilt a.2.1 (ă c))) (ĩ c (Int.toNat a.2.1) fun N=>ck (f+(1:Int)) fun B=>g B (List.set b (Int.toNat a.2.1) h) (List.set c (Int.toNat a.2.1) true) (e++([a.2.1]))))) (ck (f+(1:Int)) fun C=>g C (List.set b (Int.toNat a.2.1) h) c e))))))))))) (ë ((ile 0 d)&&(ilt d (ă b))) (ĩ b (Int.toNat d) fun D=>ck (D+a.2.2) fun E=>ë ((ile 0 a.2.1)&&(ilt a.2.1 (ă b))) (ĩ b (Int.toNat a.2.1) fun F=>ifb (ige E F) (ck (f+(1:Int)) fun G=>g G b c e) (ë ((ile 0 d)&&(ilt d (ă b))) (ĩ b (Int.toNat d) fun H=>ck (H+a.2.2) fun i=>ë ((ile 0 a.2.1)&&(ilt a.2.1 (ă b))) (ĩ b (Int.toNat a.2.1) fun O=>ë ((ile 0 a.2.1)&&(ilt a.2.1 (ă (List.set b (Int.toNat a.2.1) i)))) (ĩ (List.set b (Int.toNat a.2.1) i) (Int.toNat a.2.1) fun I=>ifb (ilt I j) (l (false,(List.set b (Int.toNat a.2.1) i),c,e)) (ë ((ile 0 a.2.1)&&(ilt a.2.1 (ă c))) (ĩ c (Int.toNat a.2.1) fun J=>ifb (!J) (ë (ì ((List.length e)+(List.length ([a.2.1])))) (ë ((ile 0 a.2.1)&&(ilt a.2.1 (ă c))) (ĩ c (Int.toNat a.2.1) fun P=>ck (f+(1:Int)) fun K=>g K (List.set b (Int.toNat a.2.1) i) (List.set c (Int.toNat a.2.1) true) (e++([a.2.1]))))) (ck (f+(1:Int)) fun L=>g L (List.set b (Int.toNat a.2.1) i) c e)))))))))))) (p (b,c,e))
def vh (l:Val ao) (m:Int) (n:Int) (k:Val aj) (h:Val ab) (d:Val am) (b:Val ab) (c:Val ab) (o:Val ab→Val am→Val ab→Val ab→Option ρ) (i:(Val (.pair .bool aY))→Option ρ):Option ρ :=
  ifb (ieq (Õ c) 0) (i (true,h,d,b,c)) (ë (ilt 0 (ă c)) (ĩ c 0 fun a=>ë (ile 1 (ă c)) (ë (decide (1+(List.length c-1)=List.length c)) (ë ((ile 0 a)&&(ilt a (ă d))) (ĩ d (Int.toNat a) fun x=>ë ((ile 0 a)&&(ilt a (ă b))) (ĩ b (Int.toNat a) fun p=>ck (p+(1:Int)) fun e=>ë ((ile 0 a)&&(ilt a (ă b))) (ĩ b (Int.toNat a) fun y=>ë ((ile 0 a)&&(ilt a (ă (List.set b (Int.toNat a) e)))) (ĩ (List.set b (Int.toNat a) e) (Int.toNat a) fun q=>ck (n+(1:Int)) fun r=>ifb (igt q r) (i (false,h,(List.set d (Int.toNat a) false),(List.set b (Int.toNat a) e),(List.drop 1 c))) (Ï (fun(f:(Val (.pair tI (.pair ab aQ)))) s=>GA l m a k (Õ k) f.1 f.2.1 f.2.2.1 f.2.2.2 (fun t u v w=>s (t,u,v,w)) (fun g=>i (g.1,g.2.1,g.2.2.1,(List.set b (Int.toNat a) e),g.2.2.2)) (fun j=>o j.1 j.2.1 (List.set b (Int.toNat a) e) j.2.2)) ((0:Int),h,(List.set d (Int.toNat a) false),(List.drop 1 c)))))))))))
def Jz (a:Val Ò) (i:Val ao) (b:Int) (k:Val ab→Option ρ):Option ρ :=
  ë ((ile 0 a.1)&&(ì (Int.toNat a.1))) (Ï (fun(f:Val ay) j=>oa (Õ (List.replicate (Int.toNat a.1) (0:Int))) f.1 f.2 (fun l m=>j (l,m)) (fun c=>ë ((ile 0 b)&&(ilt b (ă c))) (ĩ c (Int.toNat b) fun B=>ë ((ile 0 a.1)&&(ì (Int.toNat a.1))) (ë ((ile 0 a.1)&&(ì (Int.toNat a.1))) (Ï (fun(g:Val Ã) n=>vl a.2 (Õ a.2) g.1 g.2 (fun o p=>n (o,p)) (fun q=>Ï (fun(e:(Val (.pair tI aQ))) r=>vk a.1 (List.set c (Int.toNat b) (0:Int)) e.1 e.2.1 e.2.2 (fun s t u=>r (s,t,u)) (fun h=>Ï (fun(d:Val aY) v=>vh i q a.1 a.2 d.1 d.2.1 d.2.2.1 d.2.2.2 (fun w x y z=>v (w,x,y,z)) (fun A=>k A.2.1)) ((List.set c (Int.toNat b) (0:Int)),h.1,(List.replicate (Int.toNat a.1) (0:Int)),h.2))) ((0:Int),(List.replicate (Int.toNat a.1) false),[]))) ((0:Int),(0:Int))))))) ((0:Int),(List.replicate (Int.toNat a.1) (0:Int))))
def Ao (a:Val Ò) (b:Val ao) (c:Int):Option ((Val ab)):=Jz a b c some
def PV (a:Val Ò) (b:Int) (c:Int) (k:Val Ã→Option ρ):Option ρ :=
  Â (HV a ([b,c])) fun d=>ifb (ine d 0) (k ((0:Int),d)) (Â (Ao a ([]) b) fun f=>ò f c fun e=>ifb (ieq e 1152921504606846976) (k ((0:Int),(5:Int))) (k (e,(0:Int))))
def pQ (a:Val Ò) (b:Int) (c:Int):Option (Val Ã):=PV a b c some
def rM (a:Val ak) (b:Int) (c:Int) (k:Int→Option ρ):Option ρ :=
  Â (pQ a.2 c b) fun d=>k d.1
def Ë (a:Val ak) (b:Int) (c:Int):Option (Int):=rM a b c some
def rL (a:Val ak) (b:Val Ã) (k:Int→Option ρ):Option ρ :=
  Â (Š a b) fun c=>Â (Ë a (0:Int) c) fun d=>ck (0-d) fun e=>k e
def η (a:Val ak) (b:Val Ã):Option (Int):=rL a b some
def l8 (a:Val ak) (b:Val Ã) (k:Int→Option ρ):Option ρ :=
  Â (Š a b) fun c=>Â (Ë a c (0:Int)) fun d=>k d
def hO (a:Val ak) (b:Val Ã):Option (Int):=l8 a b some
def l7 (a:Val ak) (b:Val Ã) (k:Val Ã→Option ρ):Option ρ :=
  Â (η a b) fun c=>Â (hO a b) fun d=>k (c,d)
def ū (a:Val ak) (b:Val Ã):Option (Val Ã):=l7 a b some
def vE (f:Int) (a:Int) (c:Val ac) (g:Int→Val ac→Option ρ) (h:Val ac→Option ρ):Option ρ :=
  ifb (ilt a f) (ë ((ile 0 a)&&(ilt a (ă c))) (ĩ c (Int.toNat a) fun d=>ë (ì (List.length d.2.2.1)) (ë (ì (List.length d.2.2.2.1)) (ë ((ile 0 a)&&(ilt a (ă c))) (ĩ c (Int.toNat a) fun b=>ë ((ile 0 a)&&(ilt a (ă (List.set c (Int.toNat a) (b.1,b.2.1,d.2.2.1,b.2.2.2))))) (ĩ (List.set c (Int.toNat a) (b.1,b.2.1,d.2.2.1,b.2.2.2)) (Int.toNat a) fun e=>ck (a+(1:Int)) fun i=>g i (List.set (List.set c (Int.toNat a) (b.1,b.2.1,d.2.2.1,b.2.2.2)) (Int.toNat a) (e.1,e.2.1,e.2.2.1,d.2.2.2.1,e.2.2.2.2)))))))) (h c)
def XJ (a:Val Ä) (b:Val Ã) (k:Val aM→Option ρ):Option ρ :=
  Â (ó a) fun c=>ifb (ine c 0) (k ((((0:Int),(0:Int)),[],[],[],[],[]),c)) (ë (ì (List.length a.2.1)) (ë (ì (List.length a.2.2.1)) (ë (ì (List.length a.2.2.2.1)) (ë (ì (List.length a.2.2.2.2.2)) (ë (ì (List.length a.2.2.2.2.1)) (Ï (fun(d:(Val (.pair tI ac))) g=>vE (Õ a.2.2.2.2.1) d.1 d.2 (fun h i=>g (h,i)) (fun e=>ë (ì ((List.length a.2.2.2.2.2)+(List.length ([b])))) (Â (ó (a.1,a.2.1,a.2.2.1,a.2.2.2.1,e,(a.2.2.2.2.2++([b])))) fun f=>ifb (ine f 0) (k ((((0:Int),(0:Int)),[],[],[],[],[]),f)) (k ((a.1,a.2.1,a.2.2.1,a.2.2.2.1,e,(a.2.2.2.2.2++([b]))),(0:Int)))))) ((0:Int),a.2.2.2.2.1)))))))
def Ÿ (a:Val Ä) (b:Val Ã):Option ((Val aM)):=XJ a b some
def yR (b:Val aX) (a:Val ab) (c:Int) (k:Int→Option ρ):Option ρ :=
  ifb (ieq (Õ a) 0) (k (0:Int)) (ò a (0:Int) fun d=>Â (ý b.2.1 (d,c)) fun e=>ck (e+(1:Int)) fun f=>k f)
def iq (a:Val aX) (b:Val ab) (c:Int):Option (Int):=yR a b c some
def vx (f:Int) (g:Int) (h:Val af) (i:Int) (j:Int) (b:Int) (a:Int) (d:Int→Int→Option ρ) (k:Int→Option ρ):Option ρ :=
  ifb (ilt a i) (ò h a fun c=>ck (g-(1:Int)) fun l=>ck ((Ea c.2.1.2 l)-(Ek c.2.1.1 f)) fun m=>ck (m+1) fun e=>ifb (ieq c.1 j) (ifb (igt e 0) (ck (e*c.2.2) fun n=>ck (b+n) fun o=>ck (a+(1:Int)) fun p=>d o p) (ck (a+(1:Int)) fun q=>d b q)) (ck (a+(1:Int)) fun r=>d b r)) (k b)
def vw (e:Int) (f:Int) (g:Val aa) (h:Int) (i:Int) (a:Int) (b:Val ab) (d:Int→Val ab→Option ρ) (j:Val ab→Option ρ):Option ρ :=
  ifb (ilt a h) (ò g a fun c=>ifb (ieq c.1 i) (ck (f-(1:Int)) fun k=>Â (ĝ c.2 e k) fun l=>ifb l (ë (ì ((List.length b)+(List.length ([c.2])))) (ck (a+(1:Int)) fun m=>d m (b++([c.2])))) (ck (a+(1:Int)) fun n=>d n b)) (ck (a+(1:Int)) fun o=>d o b)) (j b)
def Xu (a:Val Ä) (b:Val Ð) (d:Int) (e:Int) (k:Int→Option ρ):Option ρ :=
  Ï (fun(f:Val Ã) h=>vx d e a.2.2.2.1 (Õ a.2.2.2.1) b.1 f.1 f.2 (fun i j=>h (i,j)) (fun l=>Ï (fun(g:Val ay) m=>vw d e a.2.2.1 (Õ a.2.2.1) b.1 g.1 g.2 (fun n o=>m (n,o)) (fun c=>ë (ì (List.length c)) (ë (ì (List.length (Eo c))) (ck ((Õ (Au (Eo c)))*b.2.2.2.2.2) fun p=>ck (l+p) fun q=>k q)))) ((0:Int),[]))) ((0:Int),(0:Int))
def Ap (a:Val Ä) (b:Val Ð) (c:Int) (d:Int):Option (Int):=Xu a b c d some
def nw (b:Val aw) (a:Val ab) (k:Val Ã→Option ρ):Option ρ :=
  ifb (ieq (Õ a) 0) (k ((0:Int),(1:Int))) (ò a (0:Int) fun c=>YD (k:=tI) (v:=Ð) c b (fun d=>k d.2.2.2.2.1) (k ((0:Int),(0:Int))))
def iT (a:Val aw) (b:Val ab):Option (Val Ã):=nw a b some
def rh (b:Val aa) (c:Int) (a:Int) (d:Int→Option ρ) (e:Int→Option ρ) (f:Unit→Option ρ):Option ρ :=
  ifb (ilt a c) (ò b a fun g=>Â (ug g) fun h=>ifb (!h) (e (1:Int)) (ck (a+(1:Int)) fun i=>d i)) (f ())
def PX (a:Val aa) (k:Int→Option ρ):Option ρ :=
  Ï (fun(b:Int) c=>rh a (Õ a) b (fun d=>c d) (fun e=>k e) (fun _=>k (0:Int))) (0:Int)
def jU (a:Val aa):Option (Int):=PX a some
def DT (d:Int) (e:Int) (k:Val ħ→Option ρ):Option ρ :=
  Â (rB d) fun b=>Â (rB e) fun c=>Â (QT b c) fun a=>ifb (Ħ a 0) (none) (ifb (Ħ a 0) (none) (ifb (igt (IntKind.wrap .u64 (Int.tdiv b a)) 2147483647) (k (((0:Int),(0:Int)),(3:Int))) (ifb (igt (IntKind.wrap .u64 (Int.tdiv c a)) 2147483647) (k (((0:Int),(0:Int)),(3:Int))) (ifb (!((ilt d 0)==(ilt e 0))) (ck (0-(IntKind.wrap .i64 (IntKind.wrap .u64 (Int.tdiv b a)))) fun f=>k ((f,(IntKind.wrap .i64 (IntKind.wrap .u64 (Int.tdiv c a)))),(0:Int))) (k (((IntKind.wrap .i64 (IntKind.wrap .u64 (Int.tdiv b a))),(IntKind.wrap .i64 (IntKind.wrap .u64 (Int.tdiv c a)))),(0:Int)))))))
def pR (a:Int) (b:Int):Option (Val ħ):=DT a b some
def adk (a:Val Ã) (b:Val Ã) (k:Val ħ→Option ρ):Option ρ :=
  Â (jU ([a,b])) fun c=>ifb (ine c 0) (k (((0:Int),(0:Int)),c)) (ck (a.1*b.2) fun e=>ck (b.1*a.2) fun f=>ck (e-f) fun g=>ck (a.2*b.2) fun h=>Â (pR g h) fun d=>k (d.1,d.2))
def X3 (a:Val Ã) (b:Val Ã):Option (Val ħ):=adk a b some
def vq (a:Val Ã) (b:Val Ã) (k:Val Ã→Option ρ):Option ρ :=
  Â (X3 a b) fun c=>k c.1
def vU (a:Val Ã) (b:Val Ã):Option (Val Ã):=vq a b some
def adi (a:Val Ã) (b:Val Ã) (k:Int→Option ρ):Option ρ :=
  ck (a.1*b.2) fun c=>ck (b.1*a.2) fun d=>ifb ((Ħ a.1 b.1)&&((Ħ a.2 b.2)&&true)) (k (0:Int)) (ifb (ilt c d) (k (-1:Int)) (ifb (igt c d) (k (1:Int)) (k (0:Int))))
def QU (a:Val Ã) (b:Val Ã):Option (Int):=adi a b some
def rY (a:Val è) (k:Bool→Option ρ):Option ρ :=
  Â (jU ([a.1,a.2])) fun b=>ifb (ieq b 0) (Â (QU a.1 a.2) fun c=>k (ile c 0)) (k false)
def sh (a:Val è):Option (Bool):=rY a some
def adm (a:Val Ã) (b:Val Ã) (k:Val ħ→Option ρ):Option ρ :=
  Â (jU ([a,b])) fun c=>ifb (ine c 0) (k (((0:Int),(0:Int)),c)) (ck (a.1*b.1) fun e=>ck (a.2*b.2) fun f=>Â (pR e f) fun d=>k (d.1,d.2))
def QW (a:Val Ã) (b:Val Ã):Option (Val ħ):=adm a b some
def P6 (c:Val è) (d:Val Ã) (k:Val sr→Option ρ):Option ρ :=
  Â (sh c) fun e=>ifb (!e) (k ((((0:Int),(0:Int)),(0:Int),(0:Int)),(1:Int))) (Â (ug d) fun f=>ifb (!f) (k ((((0:Int),(0:Int)),(0:Int),(0:Int)),(1:Int))) (Â (QW d c.1) fun a=>ifb (ine a.2 0) (k ((((0:Int),(0:Int)),(0:Int),(0:Int)),a.2)) (Â (QW d c.2) fun b=>ifb (ine b.2 0) (k ((((0:Int),(0:Int)),(0:Int),(0:Int)),b.2)) (Â (QU a.1 b.1) fun g=>ifb (igt g 0) (k ((b.1,a.1),(0:Int))) (k ((a.1,b.1),(0:Int)))))))
def QV (a:Val è) (b:Val Ã):Option (Val sr):=P6 a b some
def vp (b:Val Ã) (a:Val Ã) (k:Val è→Option ρ):Option ρ :=
  Â (QV ((a.1,(1:Int)),a.2,(1:Int)) b) fun c=>k c.1
def oi (a:Val Ã) (b:Val Ã):Option (Val è):=vp a b some
def JL (c:Val Ä) (a:Val Ì) (k:Val è→Option ρ):Option ρ :=
  Â (θ c) fun b=>Â (Ŧ a.2.2.1 a.2.2.2.1) fun d=>Â (iT b d) fun e=>Â (Ŧ a.2.2.2.1 a.2.2.1) fun f=>Â (iT b f) fun g=>Â (vU e g) fun h=>Â (oi h a.2.2.2.2.2.2) fun i=>k i
def oH (a:Val Ä) (b:Val Ì):Option (Val è):=JL a b some
def Qp (a:Val Ä) (b:Val Ì) (k:Val Ã→Option ρ):Option ρ :=
  ck ((Õ b.2.2.1)-(1:Int)) fun c=>ck ((Õ b.2.2.2.1)-(1:Int)) fun d=>ck ((Ek (0:Int) c)*a.1.1) fun e=>ck ((Ek (0:Int) d)*a.1.2) fun f=>ck (e-f) fun g=>ck ((Ek (0:Int) c)*a.1.2) fun h=>ck ((Ek (0:Int) d)*a.1.1) fun i=>ck (h-i) fun j=>k (g,j)
def uj (a:Val Ä) (b:Val Ì):Option (Val Ã):=Qp a b some
def GO (b:Int) (a:Int) (k:Int→Option ρ):Option ρ :=
  ifb (Ħ a 0) (none) (ck (Int.tdiv b a) fun c=>ifb (Ħ a 0) (none) (ifb (ilt (Int.tmod b a) 0) (ck (c-1) fun d=>k d) (k c)))
def uf (a:Int) (b:Int):Option (Int):=GO a b some
def P9 (a:Val Ã) (k:Val Ã→Option ρ):Option ρ :=
  Â (jU ([a])) fun b=>ifb (ine b 0) (k ((0:Int),b)) (Â (uf a.1 a.2) fun c=>k (c,(0:Int)))
def zn (a:Val Ã):Option (Val Ã):=P9 a some
def Xn (a:Val Ã) (k:Val Ã→Option ρ):Option ρ :=
  Â (jU ([a])) fun b=>ifb (ine b 0) (k ((0:Int),b)) (ck (0-a.1) fun c=>Â (uf c a.2) fun d=>ck (0-d) fun e=>k (e,(0:Int)))
def HW (a:Val Ã):Option (Val Ã):=Xn a some
def Xr (b:Val Ä) (a:Val Ì) (k:Val Ã→Option ρ):Option ρ :=
  Â (oH b a) fun c=>Â (uj b a) fun d=>Â (zn c.2) fun e=>Â (HW c.1) fun f=>ck (a.2.2.2.2.1-a.2.2.2.2.2.1) fun g=>ck (g-d.2) fun h=>ck (h-e.1) fun i=>ck (a.2.2.2.2.1+a.2.2.2.2.2.1) fun j=>ck (j-d.1) fun l=>ck (l-f.1) fun m=>k (i,m)
def vT (a:Val Ä) (b:Val Ì):Option (Val Ã):=Xr a b some
def vu (b:Int) (e:Val ab) (h:Int) (j:Int) (k:Int) (l:Val ae) (m:Val aa) (n:Val af) (o:Val ac) (p:Val aa) (q:Int) (r:Int) (s:Int) (t:Int) (u:Int) (v:Int) (w:Int) (x:Int) (a:Int) (f:Val aj) (g:Val aa) (y:Int→Val aj→Val aa→Option ρ) (z:Val wh→Option ρ):Option ρ :=
  ifb (ilt a (Õ e)) (ck (h+a) fun A=>ck (A-1) fun c=>ck (h+a) fun d=>ck (a-(1:Int)) fun B=>ò e B fun C=>ò e a fun D=>Â (Ap ((j,k),l,m,n,o,p) (q,r,s,(t,u),(v,w),x) C D) fun E=>ck (0-E) fun F=>ck (0-F) fun i=>ë (ì ((List.length f)+(List.length ([(c,d,(0:Int)),(d,c,i)])))) (ë (ì ((List.length g)+(List.length ([((2:Int),b),((2:Int),b)])))) (ck (a+(1:Int)) fun G=>y G (f++([(c,d,(0:Int)),(d,c,i)])) (g++([((2:Int),b),((2:Int),b)]))))) (z (f,g))
def vv (q:Val ae) (r:Int) (f:Int) (g:Int) (h:Val ae) (i:Val aa) (j:Val af) (k:Val ac) (l:Val aa) (s:Val aa) (t:Int) (b:Int) (d:Val aj) (e:Val aa) (u:Int→Val aj→Val aa→Option ρ) (v:Val wh→Option ρ):Option ρ :=
  ifb (ilt b r) (ò q b fun a=>Â (oj ((f,g),h,i,j,k,l) a) fun w=>Â (iq (((f,g),h,i,j,k,l),s,(t,d),e) ([a.1]) a.2.1) fun c=>ck (a.2.2.1+a.2.2.2.1.1) fun x=>ck (a.2.2.1+a.2.2.2.1.2) fun n=>ck (0-x) fun o=>ë (ì ((List.length d)+(List.length ([((0:Int),c,n),(c,(0:Int),o)])))) (ë (ì ((List.length e)+(List.length ([((1:Int),b),((1:Int),b)])))) (Ï (fun(m:Val aR) y=>vu b w c f g h i j k l a.1 a.2.1 a.2.2.1 a.2.2.2.1.1 a.2.2.2.1.2 a.2.2.2.2.1.1 a.2.2.2.2.1.2 a.2.2.2.2.2 m.1 m.2.1 m.2.2 (fun z A B=>y (z,A,B)) (fun p=>ck (b+(1:Int)) fun C=>u C p.1 p.2)) ((1:Int),(d++([((0:Int),c,n),(c,(0:Int),o)])),(e++([((1:Int),b),((1:Int),b)])))))) (v (d,e))
def vt (r:Val ac) (s:Int) (g:Int) (h:Int) (i:Val ae) (j:Val aa) (k:Val af) (l:Val ac) (m:Val aa) (o:Val aa) (p:Int) (a:Int) (c:Val aj) (d:Val aa) (t:Int→Val aj→Val aa→Option ρ) (u:Val wh→Option ρ):Option ρ :=
  ifb (ilt a s) (ò r a fun b=>Â (Ŧ b.2.2.2.1 b.2.2.1) fun v=>Â (iq (((g,h),i,j,k,l,m),o,(p,c),d) v b.2.1) fun e=>Â (Ŧ b.2.2.1 b.2.2.2.1) fun w=>Â (iq (((g,h),i,j,k,l,m),o,(p,c),d) w b.2.1) fun f=>Â (vT ((g,h),i,j,k,l,m) b) fun n=>ck (0-n.1) fun q=>ë (ì ((List.length c)+(List.length ([(e,f,n.2),(f,e,q)])))) (ë (ì ((List.length d)+(List.length ([((3:Int),a),((3:Int),a)])))) (ck (a+(1:Int)) fun x=>t x (c++([(e,f,n.2),(f,e,q)])) (d++([((3:Int),a),((3:Int),a)]))))) (u (c,d))
def Xt (a:Val Ä) (k:Val aX→Option ρ):Option ρ :=
  Â (pS a) fun b=>ck ((Õ b)+(1:Int)) fun c=>Ï (fun(d:Val aR) h=>vv a.2.1 (Õ a.2.1) a.1.1 a.1.2 a.2.1 a.2.2.1 a.2.2.2.1 a.2.2.2.2.1 a.2.2.2.2.2 b c d.1 d.2.1 d.2.2 (fun i j l=>h (i,j,l)) (fun f=>Ï (fun(e:Val aR) m=>vt a.2.2.2.2.1 (Õ a.2.2.2.2.1) a.1.1 a.1.2 a.2.1 a.2.2.1 a.2.2.2.1 a.2.2.2.2.1 a.2.2.2.2.2 b c e.1 e.2.1 e.2.2 (fun n o p=>m (n,o,p)) (fun g=>k (a,b,(c,g.1),g.2))) ((0:Int),f.1,f.2))) ((0:Int),[],[])
def HY (a:Val Ä):Option ((Val aX)):=Xt a some
def JP (a:Val Ä) (k:(Val (.pair Ò (.pair aa tI)))→Option ρ):Option ρ :=
  Â (ó a) fun b=>ifb (ine b 0) (k (((0:Int),[]),[],b)) (Â (HY a) fun c=>k (c.2.2.1,c.2.2.2,(0:Int)))
def ē (a:Val Ä):Option ((Val (.pair Ò (.pair aa tI)))):=JP a some
def rV (a:Val Ò) (k:Val aS→Option ρ):Option ρ :=
  Â (ni a) fun b=>ifb (ine b.1 0) (k (false,b.1)) (Â (kE a ([])) fun c=>k (c.2,(0:Int)))
def ā (a:Val Ò):Option ((Val aS)):=rV a some
def Ĉ (m:Int) (j:Val aa) (b:Int) (c:Int) (d:Int) (e:Val ae) (f:Val aa) (g:Val af) (h:Val ac) (i:Val aa) (k:Int→Int→Int→Val ae→Val aa→Val af→Val ac→Val aa→Option ρ) (n:Val aF→Option ρ) (o:Val ah→Option ρ):Option ρ :=
  ifb (ilt b m) (ë ((ile 0 b)&&(ilt b (ă j))) (ĩ j (Int.toNat b) fun l=>Â (Ģ ((c,d),e,f,g,h,i) l) fun p=>ifb (ieq p.2 0) (ck (b+(1:Int)) fun q=>k q c d e f g h i) (Â (Ÿ ((c,d),e,f,g,h,i) l) fun a=>ifb (ine a.2 0) (n (a.2,c,d,e,f,g,h,i)) (ck (b+(1:Int)) fun r=>k r a.1.1.1 a.1.1.2 a.1.2.1 a.1.2.2.1 a.1.2.2.2.1 a.1.2.2.2.2.1 a.1.2.2.2.2.2)))) (o (c,d,e,f,g,h,i))
def yl (a:Val Ä) (e:Val Ã) (k:Val ħ→Option ρ):Option ρ :=
  Â (ó a) fun f=>ifb (ine f 0) (ë (ine f 0) (k (((0:Int),(0:Int)),f))) (Ï (fun(b:Val aF) h=>Ĉ (Õ ([e])) ([e]) b.1 b.2.1 b.2.2.1 b.2.2.2.1 b.2.2.2.2.1 b.2.2.2.2.2.1 b.2.2.2.2.2.2.1 b.2.2.2.2.2.2.2 (fun i j l m n o p q=>h (i,j,l,m,n,o,p,q)) (fun g=>ë (ine g.1 0) (k (((0:Int),(0:Int)),g.1))) (fun c=>Â (ē ((c.1,c.2.1),c.2.2)) fun d=>ifb (ine d.2.2 0) (ë (ine d.2.2 0) (k (((0:Int),(0:Int)),d.2.2))) (Â (ā d.1) fun r=>ifb (!r.1) (k (((0:Int),(0:Int)),(9:Int))) (Â (ū (((c.1,c.2.1),c.2.2),d.1) e) fun s=>k (s,(0:Int)))))) ((0:Int),a.1.1,a.1.2,a.2.1,a.2.2.1,a.2.2.2.1,a.2.2.2.2.1,a.2.2.2.2.2))
def kD (a:Val Ä) (b:Val Ã):Option (Val ħ):=yl a b some
def JR (a:Val ab) (b:Val ab) (k:(Val (.pair ab aK))→Option ρ):Option ρ :=
  Â (ml a) fun c=>ifb (!c) (k ([],[],(1:Int))) (Â (ml b) fun d=>ifb (!d) (k ([],[],(1:Int))) (Â (Ŧ a b) fun e=>Â (Ŧ b a) fun f=>k (e,f,(0:Int))))
def uk (a:Val ab) (b:Val ab):Option ((Val (.pair ab aK))):=JR a b some
def WK (a:Val ab) (b:Int) (k:Bool→Option ρ):Option ρ :=
  Â (uk a ([])) fun c=>ifb (ieq c.2.2 0) (k (ile (Õ a) b)) (k false)
def rz (a:Val ab) (b:Int):Option (Bool):=WK a b some
def Pn (a:Int) (k:Bool→Option ρ):Option ρ :=
  ifb (ige a 0) (k (ile a 20000)) (k false)
def ud (a:Int):Option (Bool):=Pn a some
def qP (c:Int) (e:Val ab) (f:Int) (a:Int) (b:Val aa) (g:Int→Val aa→Option ρ) (h:Val aa→Option ρ):Option ρ :=
  ifb (ilt a f) (ò e a fun d=>ë (ì ((List.length b)+(List.length ([(d,c)])))) (ck (a+(1:Int)) fun i=>g i (b++([(d,c)])))) (h b)
def Pj (c:Int) (d:Val ar) (k:Val aa→Option ρ):Option ρ :=
  Â (ï d) fun a=>Ï (fun(b:Val aI) e=>qP c a (Õ a) b.1 b.2 (fun f g=>e (f,g)) (fun h=>k h)) ((0:Int),[])
def š (a:Int) (b:Val ar):Option ((Val aa)):=Pj a b some
def pA (l:Val aa) (m:Int) (i:Int) (b:Int) (c:Int) (d:Val ae) (e:Val aa) (f:Val af) (g:Val ac) (h:Val aa) (j:Int→Int→Int→Val ae→Val aa→Val af→Val ac→Val aa→Option ρ) (n:Val aF→Option ρ) (o:Val ah→Option ρ):Option ρ :=
  ifb (ilt i m) (ò l i fun k=>Â (Ģ ((b,c),d,e,f,g,h) k) fun p=>ifb (ieq p.2 0) (ck (i+(1:Int)) fun q=>j q b c d e f g h) (Â (Ÿ ((b,c),d,e,f,g,h) k) fun a=>ifb (ine a.2 0) (n (a.2,b,c,d,e,f,g,h)) (ck (i+(1:Int)) fun r=>j r a.1.1.1 a.1.1.2 a.1.2.1 a.1.2.2.1 a.1.2.2.2.1 a.1.2.2.2.2.1 a.1.2.2.2.2.2))) (o (b,c,d,e,f,g,h))
def uZ (e:Val ak) (f:Val aa) (g:Int) (a:Int) (b:Int) (c:Int) (h:Int→Int→Int→Option ρ) (i:Val Ã→Option ρ):Option ρ :=
  ifb (ilt a g) (ò f a fun j=>Â (ū e j) fun d=>ck (b+d.1) fun k=>ck (c+d.2) fun l=>ck (a+(1:Int)) fun m=>h m k l) (i (b,c))
def WY (a:Val Ä) (i:Int) (c:Val ab) (k:Val ħ→Option ρ):Option ρ :=
  Â (ó a) fun j=>ifb (ine j 0) (k (((0:Int),(0:Int)),j)) (ifb (ieq (Õ c) 0) (k (((0:Int),(0:Int)),(1:Int))) (Â (rz c (6:Int)) fun q=>ifb (!q) (k (((0:Int),(0:Int)),(1:Int))) (Â (ud i) fun r=>ifb (!r) (k (((0:Int),(0:Int)),(1:Int))) (Â (š i ([c])) fun f=>Â (ó a) fun g=>ifb (ine g 0) (ifb (ine g 0) (k (((0:Int),(0:Int)),g)) (ck ((Õ c)-(1:Int)) fun l=>ck (l*a.1.1) fun J=>ck (l*a.1.2) fun K=>none)) (Ï (fun(b:Val aF) s=>pA f (Õ f) b.1 b.2.1 b.2.2.1 b.2.2.2.1 b.2.2.2.2.1 b.2.2.2.2.2.1 b.2.2.2.2.2.2.1 b.2.2.2.2.2.2.2 (fun t u v w x y z A=>s (t,u,v,w,x,y,z,A)) (fun m=>ifb (ine m.1 0) (k (((0:Int),(0:Int)),m.1)) (ck ((Õ c)-(1:Int)) fun n=>ck (n*a.1.1) fun L=>ck (n*a.1.2) fun M=>none)) (fun d=>Â (ē ((d.1,d.2.1),d.2.2)) fun e=>ifb (ine e.2.2 0) (ifb (ine e.2.2 0) (k (((0:Int),(0:Int)),e.2.2)) (ck ((Õ c)-(1:Int)) fun o=>ck (o*a.1.1) fun N=>ck (o*a.1.2) fun O=>none)) (Â (ā e.1) fun B=>ifb (!B.1) (k (((0:Int),(0:Int)),(9:Int))) (ck ((Õ c)-(1:Int)) fun p=>ck (p*a.1.1) fun C=>ck (p*a.1.2) fun D=>Ï (fun(h:Val Ą) E=>uZ (((d.1,d.2.1),d.2.2),e.1) f (Õ f) h.1 h.2.1 h.2.2 (fun F G H=>E (F,G,H)) (fun I=>k (I,(0:Int)))) ((0:Int),C,D))))) ((0:Int),a.1.1,a.1.2,a.2.1,a.2.2.1,a.2.2.2.1,a.2.2.2.2.1,a.2.2.2.2.2))))))
def HQ (a:Val Ä) (b:Int) (c:Val ab):Option (Val ħ):=WY a b c some
def rU (m:Int) (j:Val aa) (b:Int) (c:Int) (d:Int) (e:Val ae) (f:Val aa) (g:Val af) (h:Val ac) (i:Val aa) (k:Int→Int→Int→Val ae→Val aa→Val af→Val ac→Val aa→Option ρ) (n:Val aF→Option ρ) (o:Val ah→Option ρ):Option ρ :=
  ifb (ilt b m) (ë ((ile 0 b)&&(ilt b (ă j))) (ĩ j (Int.toNat b) fun l=>Â (Ģ ((c,d),e,f,g,h,i) l) fun p=>ifb (ieq p.2 0) (ck (b+(1:Int)) fun q=>k q c d e f g h i) (Â (Ÿ ((c,d),e,f,g,h,i) l) fun a=>ifb (ine a.2 0) (n (a.2,c,d,e,f,g,h,i)) (ck (b+(1:Int)) fun r=>k r a.1.1.1 a.1.1.2 a.1.2.1 a.1.2.2.1 a.1.2.2.2.1 a.1.2.2.2.2.1 a.1.2.2.2.2.2)))) (o (c,d,e,f,g,h,i))
def DN (b:Val Ä) (e:Val Ã) (f:Val Ã) (k:Val ħ→Option ρ):Option ρ :=
  Â (ó b) fun g=>ifb (ine g 0) (ë (ine g 0) (k (((0:Int),(0:Int)),g))) (Ï (fun(c:Val aF) l=>rU (Õ ([e,f])) ([e,f]) c.1 c.2.1 c.2.2.1 c.2.2.2.1 c.2.2.2.2.1 c.2.2.2.2.2.1 c.2.2.2.2.2.2.1 c.2.2.2.2.2.2.2 (fun m n o p q r s t=>l (m,n,o,p,q,r,s,t)) (fun h=>ë (ine h.1 0) (k (((0:Int),(0:Int)),h.1))) (fun a=>Â (ē ((a.1,a.2.1),a.2.2)) fun d=>ifb (ine d.2.2 0) (ë (ine d.2.2 0) (k (((0:Int),(0:Int)),d.2.2))) (Â (ā d.1) fun u=>ifb (!u.1) (k (((0:Int),(0:Int)),(9:Int))) (Â (Š (((a.1,a.2.1),a.2.2),d.1) e) fun i=>Â (Š (((a.1,a.2.1),a.2.2),d.1) f) fun j=>Â (Ë (((a.1,a.2.1),a.2.2),d.1) j i) fun v=>ck (0-v) fun w=>Â (Ë (((a.1,a.2.1),a.2.2),d.1) i j) fun x=>k ((w,x),(0:Int)))))) ((0:Int),b.1.1,b.1.2,b.2.1,b.2.2.1,b.2.2.2.1,b.2.2.2.2.1,b.2.2.2.2.2))
def mj (a:Val Ä) (b:Val Ã) (c:Val Ã):Option (Val ħ):=DN a b c some
def zQ (c:Int) (a:Int) (b:Val ab) (d:Int→Val ab→Option ρ) (e:Val ab→Option ρ):Option ρ :=
  ifb (ilt a c) (ë ((ile 0 a)&&(ilt a (ă b))) (ĩ b (Int.toNat a) fun g=>ck (a+(1:Int)) fun f=>d f (List.set b (Int.toNat a) (1152921504606846976:Int)))) (e b)
def W9 (c:Int) (a:Int) (b:Val ab) (d:Int→Val ab→Option ρ) (e:Val ab→Option ρ):Option ρ :=
  ifb (ilt a c) (ë ((ile 0 a)&&(ilt a (ă b))) (ĩ b (Int.toNat a) fun g=>ck (a+(1:Int)) fun f=>d f (List.set b (Int.toNat a) (1152921504606846976:Int)))) (e b)
def Gz (d:Val ab) (f:Val aj) (g:Int) (c:Int) (b:Val ab) (e:Int→Val ab→Option ρ) (h:Val ab→Option ρ):Option ρ :=
  ifb (ilt c g) (ò f c fun a=>ò d a.2.1 fun i=>ifb (ine i 1152921504606846976) (ë ((ile 0 a.1)&&(ilt a.1 (ă b))) (ĩ b (Int.toNat a.1) fun j=>ò d a.2.1 fun k=>ck (a.2.2+k) fun l=>ë ((ile 0 a.1)&&(ilt a.1 (ă b))) (ĩ b (Int.toNat a.1) fun o=>ck (c+(1:Int)) fun m=>e m (List.set b (Int.toNat a.1) (Ea j l))))) (ck (c+(1:Int)) fun n=>e n b)) (h b)
def Np (i:Int) (b:Int) (d:Val aj) (e:Int) (a:Val ar) (j:Int→Val ar→Option ρ) (k:Val ar→Option ρ):Option ρ :=
  ifb (ilt e i) (ck ((Õ a)-(1:Int)) fun c=>ë ((ile 0 c)&&(ilt c (ă a))) (ĩ a (Int.toNat c) fun l=>ë ((ile 0 b)&&(ì (Int.toNat b))) (Ï (fun(f:Val ay) m=>W9 (Õ (List.replicate (Int.toNat b) (0:Int))) f.1 f.2 (fun n o=>m (n,o)) (fun p=>Ï (fun(g:Val ay) q=>Gz l d (Õ d) g.1 g.2 (fun r s=>q (r,s)) (fun h=>ë (ì ((List.length a)+(List.length ([h])))) (ck (e+(1:Int)) fun t=>j t (a++([h]))))) ((0:Int),p))) ((0:Int),(List.replicate (Int.toNat b) (0:Int)))))) (k a)
def PF (a:Val Ò) (b:Int) (f:Int) (k:Val ar→Option ρ):Option ρ :=
  ë ((ile 0 a.1)&&(ì (Int.toNat a.1))) (Ï (fun(d:Val ay) g=>zQ (Õ (List.replicate (Int.toNat a.1) (0:Int))) d.1 d.2 (fun h i=>g (h,i)) (fun c=>ë ((ile 0 b)&&(ilt b (ă c))) (ĩ c (Int.toNat b) fun o=>Ï (fun(e:(Val (.pair tI ar))) j=>Np f a.1 a.2 e.1 e.2 (fun l m=>j (l,m)) (fun n=>k n)) ((0:Int),[(List.set c (Int.toNat b) (0:Int))])))) ((0:Int),(List.replicate (Int.toNat a.1) (0:Int))))
def zk (a:Val Ò) (b:Int) (c:Int):Option ((Val ar)):=PF a b c some
def Li (d:Int) (c:Int) (e:Val aj) (a:Int) (b:Val aT) (f:Int→Val aT→Option ρ) (g:Val aT→Option ρ):Option ρ :=
  ifb (ilt a d) (Â (zk (c,e) a c) fun h=>ë ((ile 0 a)&&(ilt a (ă b))) (ĩ b (Int.toNat a) fun j=>ck (a+(1:Int)) fun i=>f i (List.set b (Int.toNat a) h))) (g b)
def Le (g:Int) (h:Val ar) (j:Val aj) (k:Int) (e:Int) (b:Int) (a:Int) (c:Val ab) (f:Int→Int→Int→Val ab→Option ρ) (i:(Val (.pair tI ay))→Option ρ):Option ρ :=
  ifb (ilt a k) (ò j a fun d=>ifb (ieq d.1 e) (ck (g-(1:Int)) fun l=>ò h l fun m=>ò m d.2.1 fun n=>ifb (ine n 1152921504606846976) (ck (b+d.2.2) fun o=>ck (g-(1:Int)) fun p=>ò h p fun q=>ò q d.2.1 fun r=>ck (o+r) fun s=>ifb (ilt s 0) (ë (ì ((List.length c)+(List.length ([a])))) (ck (b+d.2.2) fun t=>i (d.2.1,t,(c++([a]))))) (ck (a+(1:Int)) fun u=>f e b u c)) (ck (a+(1:Int)) fun v=>f e b v c)) (ck (a+(1:Int)) fun w=>f e b w c)) (i (e,b,c))
def Lf (f:Val ar) (d:Val aj) (g:Int) (b:Int) (h:Int) (e:Val ab) (i:Int→Int→Int→Val ab→Option ρ) (j:Val ab→Option ρ):Option ρ :=
  ifb (igt b 0) (Ï (fun(a:Val aP) k=>Le b f d (Õ d) a.1 a.2.1 a.2.2.1 a.2.2.2 (fun l m n o=>k (l,m,n,o)) (fun c=>ck (b-(1:Int)) fun p=>i c.1 p c.2.1 c.2.2)) (g,h,(0:Int),e)) (j e)
def Lg (e:Int) (h:Val aj) (i:Int) (j:Int) (k:Val aj) (b:Val aT) (c:Int) (f:Int→Option ρ) (l:Unit→Option ρ) (m:Val ay→Option ρ) (n:Unit→Option ρ):Option ρ :=
  ifb (ilt c i) (ò h c fun a=>ë ((ile 0 a.1)&&(ilt a.1 (ă b))) (ĩ b (Int.toNat a.1) fun o=>ck (e-(1:Int)) fun p=>ò o p fun q=>ò q a.2.1 fun g=>ifb (ieq g 1152921504606846976) (ck (c+(1:Int)) fun r=>f r) (ck (a.2.2+g) fun s=>ifb (ige s 0) (ck (c+(1:Int)) fun t=>f t) (ifb (igt e j) (l ()) (ë ((ile 0 a.1)&&(ilt a.1 (ă b))) (ĩ b (Int.toNat a.1) fun u=>Ï (fun(d:Val aP) v=>Lf u k d.1 d.2.1 d.2.2.1 d.2.2.2 (fun w x y z=>v (w,x,y,z)) (fun A=>m ((0:Int),A))) (a.1,e,(0:Int),[]))))))) (n ())
def Lh (d:Int) (a:Val aj) (e:Val aT) (b:Int) (f:Int→Option ρ) (g:Unit→Option ρ) (h:Val ay→Option ρ):Option ρ :=
  Ï (fun(i:Int) j=>Lg b a (Õ a) d a e i (fun k=>j k) (fun _=>g ()) (fun c=>h (c.1,c.2)) (fun _=>ck (b+(1:Int)) fun l=>f l)) (0:Int)
def PN (a:Val Ò) (k:Val aK→Option ρ):Option ρ :=
  Â (ni a) fun b=>ifb (ine b.1 0) (k ([],b.1)) (Â (kE a ([])) fun e=>ifb e.2 (k ([],(5:Int))) (ë ((ile 0 a.1)&&(ì (Int.toNat a.1))) (Ï (fun(c:(Val (.pair tI aT))) f=>Li (Õ (List.replicate (Int.toNat a.1) ([]:Val ar))) a.1 a.2 c.1 c.2 (fun g h=>f (g,h)) (fun i=>Ï (fun(j:Int) l=>Lh a.1 a.2 i j (fun m=>l m) (fun _=>k ([],(5:Int))) (fun d=>k (d.2,d.1))) (1:Int))) ((0:Int),(List.replicate (Int.toNat a.1) ([]:Val ar))))))
def zl (a:Val Ò):Option ((Val aK)):=PN a some
def mA (d:Val aa) (e:Val ab) (f:Int) (a:Int) (b:Val aa) (g:Int→Val aa→Option ρ) (h:Val aa→Option ρ):Option ρ :=
  ifb (ilt a f) (ò e a fun i=>ò d i fun c=>ë (ì ((List.length b)+(List.length ([c])))) (ck (a+(1:Int)) fun j=>g j (b++([c])))) (h b)
def Dh (c:Val Ä) (a:Val ab) (k:Val aa→Option ρ):Option ρ :=
  Â (ē c) fun d=>Ï (fun(b:Val aI) e=>mA d.2.1 a (Õ a) b.1 b.2 (fun f g=>e (f,g)) (fun h=>k h)) ((0:Int),[])
def pN (a:Val Ä) (b:Val ab):Option ((Val aa)):=Dh a b some
def PA (a:Val Ä) (k:(Val (.pair ι tI))→Option ρ):Option ρ :=
  Â (ē a) fun b=>ifb (ine b.2.2 0) (k (((((0:Int),(0:Int)),[],[],[],[],[]),((0:Int),(0:Int)),false,(0:Int),[]),b.2.2)) (Â (zl b.1) fun c=>ifb (ine c.2 0) (k (((((0:Int),(0:Int)),[],[],[],[],[]),((0:Int),(0:Int)),false,(0:Int),[]),c.2)) (Â (pN a c.1) fun f=>Â (QS a f ([])) fun e=>Â (ē e) fun g=>Â (zl g.1) fun d=>ifb (ine d.2 0) (k (((((0:Int),(0:Int)),[],[],[],[],[]),((0:Int),(0:Int)),false,(0:Int),[]),d.2)) (k ((e,((0:Int),(0:Int)),false,(0:Int),d.1),(0:Int)))))
def HT (a:Val Ä):Option ((Val (.pair ι tI))):=PA a some
def xx (k:Val Ä→Option ρ):Option ρ :=
  k (((0:Int),(2:Int)),[((1:Int),(0:Int),(1000:Int),((-5:Int),(5:Int)),((1:Int),(10:Int)),(1:Int)),((2:Int),(0:Int),(1000:Int),((-50:Int),(50:Int)),((1:Int),(4:Int)),(0:Int))],[((1:Int),(10:Int))],[((1:Int),((20:Int),(29:Int)),(3:Int))],[((7:Int),(10:Int),[(1:Int)],[(2:Int)],(-20:Int),(1:Int),(100:Int),(200:Int))],[])
def zf:Option (Val Ä):=xx some
def Dg (a:Val Ã) (b:Val Ã) (k:Int→Option ρ):Option ρ :=
  ifb (ile b.1 a.1) (ifb (ile a.2 b.2) (k (1:Int)) (ifb (ilt a.2 b.1) (k (2:Int)) (ifb (ilt b.2 a.1) (k (2:Int)) (k (3:Int))))) (ifb (ilt a.2 b.1) (k (2:Int)) (ifb (ilt b.2 a.1) (k (2:Int)) (k (3:Int))))
def pM (a:Val Ã) (b:Val Ã):Option (Int):=Dg a b some
def yk (m:Int) (j:Val aa) (b:Int) (c:Int) (d:Int) (e:Val ae) (f:Val aa) (g:Val af) (h:Val ac) (i:Val aa) (k:Int→Int→Int→Val ae→Val aa→Val af→Val ac→Val aa→Option ρ) (n:Val aF→Option ρ) (o:Val ah→Option ρ):Option ρ :=
  ifb (ilt b m) (ë ((ile 0 b)&&(ilt b (ă j))) (ĩ j (Int.toNat b) fun l=>Â (Ģ ((c,d),e,f,g,h,i) l) fun p=>ifb (ieq p.2 0) (ck (b+(1:Int)) fun q=>k q c d e f g h i) (Â (Ÿ ((c,d),e,f,g,h,i) l) fun a=>ifb (ine a.2 0) (n (a.2,c,d,e,f,g,h,i)) (ck (b+(1:Int)) fun r=>k r a.1.1.1 a.1.1.2 a.1.2.1 a.1.2.2.1 a.1.2.2.2.1 a.1.2.2.2.2.1 a.1.2.2.2.2.2)))) (o (c,d,e,f,g,h,i))
def Px (b:Val Ä) (f:Val Ã) (a:Val Ã) (k:Val Ã→Option ρ):Option ρ :=
  Â (ó b) fun g=>ifb (ine g 0) (ifb (ine g 0) (k ((0:Int),g)) (ë (igt a.1 a.2) (k ((0:Int),(1:Int))))) (Ï (fun(c:Val aF) i=>yk (Õ ([f])) ([f]) c.1 c.2.1 c.2.2.1 c.2.2.2.1 c.2.2.2.2.1 c.2.2.2.2.2.1 c.2.2.2.2.2.2.1 c.2.2.2.2.2.2.2 (fun j l m n o p q r=>i (j,l,m,n,o,p,q,r)) (fun h=>ifb (ine h.1 0) (k ((0:Int),h.1)) (ë (igt a.1 a.2) (k ((0:Int),(1:Int))))) (fun d=>Â (ē ((d.1,d.2.1),d.2.2)) fun e=>ifb (ine e.2.2 0) (ifb (ine e.2.2 0) (k ((0:Int),e.2.2)) (ë (igt a.1 a.2) (k ((0:Int),(1:Int))))) (Â (ā e.1) fun s=>ifb (!s.1) (k ((0:Int),(9:Int))) (ifb (igt a.1 a.2) (k ((0:Int),(1:Int))) (Â (ū (((d.1,d.2.1),d.2.2),e.1) f) fun t=>Â (pM t a) fun u=>k (u,(0:Int))))))) ((0:Int),b.1.1,b.1.2,b.2.1,b.2.2.1,b.2.2.2.1,b.2.2.2.2.1,b.2.2.2.2.2))
def HS (a:Val Ä) (b:Val Ã) (c:Val Ã):Option (Val Ã):=Px a b c some
def rg (b:Val ar) (c:Int) (d:Int) (e:Int) (a:Int) (f:Int→Option ρ) (g:Int→Option ρ) (h:Unit→Option ρ):Option ρ :=
  ifb (ilt a c) (ò b a fun i=>ò i d fun j=>ifb (ieq j e) (g a) (ck (a+(1:Int)) fun k=>f k)) (h ())
def Lj (g:Int) (h:Val ar) (j:Val aj) (k:Int) (l:Int) (e:Int) (b:Int) (a:Int) (c:Val ab) (f:Int→Int→Int→Val ab→Option ρ) (i:(Val (.pair tI ay))→Option ρ):Option ρ :=
  ifb (ilt a k) (ò j a fun d=>ifb (ieq d.1 e) (ck (g-(1:Int)) fun m=>ò h m fun n=>ò n d.2.1 fun o=>ifb (ine o 1152921504606846976) (ck (b+d.2.2) fun p=>ck (g-(1:Int)) fun q=>ò h q fun r=>ò r d.2.1 fun s=>ck (p+s) fun t=>ifb (ieq t l) (ë (ì ((List.length c)+(List.length ([a])))) (ck (b+d.2.2) fun u=>i (d.2.1,u,(c++([a]))))) (ck (a+(1:Int)) fun v=>f e b v c)) (ck (a+(1:Int)) fun w=>f e b w c)) (ck (a+(1:Int)) fun x=>f e b x c)) (i (e,b,c))
def rf (f:Val ar) (g:Int) (d:Val aj) (h:Int) (b:Int) (i:Int) (e:Val ab) (j:Int→Int→Int→Val ab→Option ρ) (k:Val ab→Option ρ):Option ρ :=
  ifb (igt b 0) (Ï (fun(a:Val aP) l=>Lj b f d (Õ d) g a.1 a.2.1 a.2.2.1 a.2.2.2 (fun m n o p=>l (m,n,o,p)) (fun c=>ck (b-(1:Int)) fun q=>j c.1 q c.2.1 c.2.2)) (h,i,(0:Int),e)) (k e)
def PT (a:Val Ò) (c:Int) (g:Int) (k:Val aK→Option ρ):Option ρ :=
  Â (pQ a c g) fun b=>ifb (ine b.2 0) (k ([],b.2)) (Â (zk a g a.1) fun d=>Ï (fun(h:Int) i=>rg d (Õ d) c b.1 h (fun j=>i j) (fun l=>Ï (fun(e:Val aP) m=>rf d b.1 a.2 e.1 e.2.1 e.2.2.1 e.2.2.2 (fun n o p q=>m (n,o,p,q)) (fun r=>k (r,(0:Int)))) (c,l,(0:Int),[])) (fun _=>Ï (fun(f:Val aP) s=>rf d b.1 a.2 f.1 f.2.1 f.2.2.1 f.2.2.2 (fun t u v w=>s (t,u,v,w)) (fun x=>k (x,(0:Int)))) (c,(-1:Int),(0:Int),[]))) (0:Int))
def zm (a:Val Ò) (b:Int) (c:Int):Option ((Val aK)):=PT a b c some
def vd (a:Val ak) (c:Val aW) (d:(Val (.ptr .bool))) (k:Val ab→Option ρ):Option ρ :=
  Â (Š a c) fun b=>ifb d (Â (zm a.2 (0:Int) b) fun e=>k e.1) (Â (zm a.2 b (0:Int)) fun f=>k f.1)
def lr (a:Val ak) (b:Val aW) (c:(Val (.ptr .bool))):Option ((Val ab)):=vd a b c some
def rS (m:Int) (j:Val aa) (b:Int) (c:Int) (d:Int) (e:Val ae) (f:Val aa) (g:Val af) (h:Val ac) (i:Val aa) (k:Int→Int→Int→Val ae→Val aa→Val af→Val ac→Val aa→Option ρ) (n:Val aF→Option ρ) (o:Val ah→Option ρ):Option ρ :=
  ifb (ilt b m) (ë ((ile 0 b)&&(ilt b (ă j))) (ĩ j (Int.toNat b) fun l=>Â (Ģ ((c,d),e,f,g,h,i) l) fun p=>ifb (ieq p.2 0) (ck (b+(1:Int)) fun q=>k q c d e f g h i) (Â (Ÿ ((c,d),e,f,g,h,i) l) fun a=>ifb (ine a.2 0) (n (a.2,c,d,e,f,g,h,i)) (ck (b+(1:Int)) fun r=>k r a.1.1.1 a.1.1.2 a.1.2.1 a.1.2.2.1 a.1.2.2.2.1 a.1.2.2.2.2.1 a.1.2.2.2.2.2)))) (o (c,d,e,f,g,h,i))
def rR (a:Int) (b:Int) (d:Int→Option ρ) (c:Unit→Option ρ):Option ρ :=
  ifb (ilt b a) (none) (c ())
def DM (d:Val Ä) (b:Val Ã) (f:Bool) (k:(Val (.pair ι tI))→Option ρ):Option ρ :=
  Â (ó d) fun i=>ifb (ine i 0) (ë (ine i 0) (k (((((0:Int),(0:Int)),[],[],[],[],[]),((0:Int),(0:Int)),false,(0:Int),[]),i))) (Ï (fun(e:Val aF) n=>rS (Õ ([b])) ([b]) e.1 e.2.1 e.2.2.1 e.2.2.2.1 e.2.2.2.2.1 e.2.2.2.2.2.1 e.2.2.2.2.2.2.1 e.2.2.2.2.2.2.2 (fun o p q r s t u v=>n (o,p,q,r,s,t,u,v)) (fun l=>ë (ine l.1 0) (k (((((0:Int),(0:Int)),[],[],[],[],[]),((0:Int),(0:Int)),false,(0:Int),[]),l.1))) (fun a=>Â (ē ((a.1,a.2.1),a.2.2)) fun c=>ifb (ine c.2.2 0) (ë (ine c.2.2 0) (k (((((0:Int),(0:Int)),[],[],[],[],[]),((0:Int),(0:Int)),false,(0:Int),[]),c.2.2))) (Â (ā c.1) fun w=>ifb (!w.1) (k (((((0:Int),(0:Int)),[],[],[],[],[]),((0:Int),(0:Int)),false,(0:Int),[]),(9:Int))) (Â (lr (((a.1,a.2.1),a.2.2),c.1) b f) fun x=>Â (pN ((a.1,a.2.1),a.2.2) x) fun y=>Â (QS ((a.1,a.2.1),a.2.2) y ([b])) fun g=>Â (ó g) fun j=>ifb (ine j 0) (ifb (ine j 0) (k (((((0:Int),(0:Int)),[],[],[],[],[]),((0:Int),(0:Int)),false,(0:Int),[]),j)) (Â (η (((a.1,a.2.1),a.2.2),c.1) b) fun F=>none)) (Ï (fun(z:Int) A=>rR (0:Int) z (fun B=>A B) (fun _=>Â (ē g) fun h=>ifb (ine h.2.2 0) (ifb (ine h.2.2 0) (k (((((0:Int),(0:Int)),[],[],[],[],[]),((0:Int),(0:Int)),false,(0:Int),[]),h.2.2)) (Â (η (((a.1,a.2.1),a.2.2),c.1) b) fun G=>none)) (Â (ā h.1) fun C=>ifb (!C.1) (k (((((0:Int),(0:Int)),[],[],[],[],[]),((0:Int),(0:Int)),false,(0:Int),[]),(9:Int))) (Â (η (((a.1,a.2.1),a.2.2),c.1) b) fun D=>Â (lr (g,h.1) b f) fun m=>ifb f (Â (hO (((a.1,a.2.1),a.2.2),c.1) b) fun E=>k ((g,b,f,E,m),(0:Int))) (k ((g,b,f,D,m),(0:Int))))))) (0:Int)))))) ((0:Int),d.1.1,d.1.2,d.2.1,d.2.2.1,d.2.2.2.1,d.2.2.2.2.1,d.2.2.2.2.2))
def vS (a:Val Ä) (b:Val Ã) (c:Bool):Option ((Val (.pair ι tI))):=DM a b c some
def vD (f:Int) (a:Int) (c:Val ac) (g:Int→Val ac→Option ρ) (h:Val ac→Option ρ):Option ρ :=
  ifb (ilt a f) (ë ((ile 0 a)&&(ilt a (ă c))) (ĩ c (Int.toNat a) fun d=>ë (ì (List.length d.2.2.1)) (ë (ì (List.length d.2.2.2.1)) (ë ((ile 0 a)&&(ilt a (ă c))) (ĩ c (Int.toNat a) fun b=>ë ((ile 0 a)&&(ilt a (ă (List.set c (Int.toNat a) (b.1,b.2.1,d.2.2.1,b.2.2.2))))) (ĩ (List.set c (Int.toNat a) (b.1,b.2.1,d.2.2.1,b.2.2.2)) (Int.toNat a) fun e=>ck (a+(1:Int)) fun i=>g i (List.set (List.set c (Int.toNat a) (b.1,b.2.1,d.2.2.1,b.2.2.2)) (Int.toNat a) (e.1,e.2.1,e.2.2.1,d.2.2.2.1,e.2.2.2.2)))))))) (h c)
def XG (a:Val Ä) (b:Val Ì) (k:Val aM→Option ρ):Option ρ :=
  ë (ì (List.length b.2.2.1)) (ë (ì (List.length b.2.2.2.1)) (Â (ó a) fun d=>ifb (ine d 0) (k ((((0:Int),(0:Int)),[],[],[],[],[]),d)) (ë (ì (List.length a.2.1)) (ë (ì (List.length a.2.2.1)) (ë (ì (List.length a.2.2.2.1)) (ë (ì (List.length a.2.2.2.2.2)) (ë (ì (List.length a.2.2.2.2.1)) (Ï (fun(e:(Val (.pair tI ac))) g=>vD (Õ a.2.2.2.2.1) e.1 e.2 (fun h i=>g (h,i)) (fun c=>ë (ì ((List.length c)+(List.length ([b])))) (Â (ó (a.1,a.2.1,a.2.2.1,a.2.2.2.1,(c++([b])),a.2.2.2.2.2)) fun f=>ifb (ine f 0) (k ((((0:Int),(0:Int)),[],[],[],[],[]),f)) (k ((a.1,a.2.1,a.2.2.1,a.2.2.2.1,(c++([b])),a.2.2.2.2.2),(0:Int)))))) ((0:Int),a.2.2.2.2.1)))))))))
def ol (a:Val Ä) (b:Val Ì):Option ((Val aM)):=XG a b some
def Qd (b:Val Ä) (a:Val Ì) (c:Val Ã) (k:Val ħ→Option ρ):Option ρ :=
  Â (oH b a) fun d=>Â (uj b a) fun e=>Â (HW d.1) fun h=>Â (zn d.2) fun i=>ck (h.1+e.1) fun j=>ck (j-a.2.2.2.2.2.1) fun f=>ck (i.1+e.2) fun l=>ck (l+a.2.2.2.2.2.1) fun g=>ifb (igt f g) (k (((0:Int),(0:Int)),(5:Int))) (ck (c.1+f) fun m=>ck (c.2+g) fun n=>k ((m,n),(0:Int)))
def uh (a:Val Ä) (b:Val Ì) (c:Val Ã):Option (Val ħ):=Qd a b c some
def D4 (g:Val Ä) (a:Val Ì) (k:Val ħ→Option ρ):Option ρ :=
  Â (ol g (a.1,a.2.1,a.2.2.1,a.2.2.2.1,(0:Int),a.2.2.2.2.2)) fun d=>ifb (ine d.2 0) (k (((0:Int),(0:Int)),d.2)) (Â (HY d.1) fun b=>ck ((Õ b.2.2.1.2)-(2:Int)) fun c=>ë ((ile 0 c)&&(ile c (ă b.2.2.1.2))) (Â (Ŧ a.2.2.1 a.2.2.2.1) fun l=>Â (iq b l a.2.1) fun h=>Â (Ŧ a.2.2.2.1 a.2.2.1) fun m=>Â (iq b m a.2.1) fun i=>Â (pQ (b.2.2.1.1,(List.take (Int.toNat c) b.2.2.1.2)) i h) fun e=>ifb (ine e.2 0) (k (((0:Int),(0:Int)),e.2)) (Â (pQ (b.2.2.1.1,(List.take (Int.toNat c) b.2.2.1.2)) h i) fun f=>ifb (ine f.2 0) (k (((0:Int),(0:Int)),f.2)) (ck (0-f.1) fun n=>Â (uh g (a.1,a.2.1,a.2.2.1,a.2.2.2.1,(0:Int),a.2.2.2.2.2) (n,e.1)) fun j=>k (j.1,j.2)))))
def vW (a:Val Ä) (b:Val Ì):Option (Val ħ):=D4 a b some
def Qb (a:Val Ä) (b:Int) (k:(Val (.pair Ì tI))→Option ρ):Option ρ :=
  Â (ó a) fun c=>ifb (ine c 0) (k (((0:Int),(0:Int),[],[],(0:Int),(0:Int),(0:Int),(0:Int)),c)) (ifb (ilt b 0) (k (((0:Int),(0:Int),[],[],(0:Int),(0:Int),(0:Int),(0:Int)),(1:Int))) (ifb (ige b (Õ a.2.2.2.2.1)) (k (((0:Int),(0:Int),[],[],(0:Int),(0:Int),(0:Int),(0:Int)),(1:Int))) (ò a.2.2.2.2.1 b fun d=>k (d,(0:Int)))))
def HX (a:Val Ä) (b:Int):Option ((Val (.pair Ì tI))):=Qb a b some
def XI (b:Val Ä) (c:Int) (k:Val ħ→Option ρ):Option ρ :=
  Â (HX b c) fun a=>ifb (ine a.2 0) (k (((0:Int),(0:Int)),a.2)) (Â (vT b a.1) fun d=>k (d,(0:Int)))
def Ny (a:Val Ä) (b:Int):Option (Val ħ):=XI a b some
def ye (a:Val ab) (b:Val ak) (c:(Val (.ptr Ì))) (k:Int→Option ρ):Option ρ :=
  ifb (ieq (Õ a) 0) (k (0:Int)) (ò a (0:Int) fun d=>Â (Š b (d,c.2.1)) fun e=>k e)
def nh (a:Val ab) (b:Val ak) (c:(Val (.ptr Ì))):Option (Int):=ye a b c some
def yd (b:Int) (c:Int) (a:Val ak) (d:(Val (.ptr tI))) (e:Val aW) (f:(Val (.ptr tI))) (k:Val Ą→Option ρ):Option ρ :=
  Â (Ë a b c) fun g=>Â (Ë a d c) fun h=>ck (h+e.2) fun i=>Â (Ë a b f) fun j=>ck (i+j) fun l=>Â (Ë a f c) fun m=>ck (m-e.1) fun n=>Â (Ë a b d) fun o=>ck (n+o) fun p=>k (g,l,p)
def ng (a:Int) (b:Int) (c:Val ak) (d:(Val (.ptr tI))) (e:Val aW) (f:(Val (.ptr tI))):Option (Val Ą):=yd a b c d e f some
def kY (f:Int) (g:Val aa) (h:Val aj) (i:Int) (a:Int) (b:Val aj) (c:Int→Val aj→Option ρ) (j:Val aj→Option ρ):Option ρ :=
  ifb (ilt a i) (ò h a fun d=>ò g a fun e=>ifb (!((Ħ e.1 (3:Int))&&((Ħ e.2 f)&&true))) (ë (ì ((List.length b)+(List.length ([d])))) (ck (a+(1:Int)) fun k=>c k (b++([d])))) (ck (a+(1:Int)) fun l=>c l b)) (j b)
def Jd (f:Val ak) (o:Val Ã) (a:Val Ì) (k:(Val (.pair Ŭ tI))→Option ρ):Option ρ :=
  Â (vW f.1 a) fun e=>ifb (ine e.2 0) (k ((((0:Int),(0:Int)),((0:Int),(0:Int),(0:Int)),(0:Int),(0:Int),(0:Int)),e.2)) (Â (ol f.1 (a.1,a.2.1,a.2.2.1,a.2.2.2.1,(0:Int),a.2.2.2.2.2)) fun b=>ifb (ine b.2 0) (k ((((0:Int),(0:Int)),((0:Int),(0:Int),(0:Int)),(0:Int),(0:Int),(0:Int)),b.2)) (ck ((Õ b.1.2.2.2.2.1)-(1:Int)) fun g=>Â (Ny b.1 g) fun h=>Â (uk a.2.2.1 a.2.2.2.1) fun i=>Â (ē b.1) fun c=>Ï (fun(j:Val Ò) p=>kY g c.2.1 c.1.2 (Õ c.1.2) j.1 j.2 (fun q r=>p (q,r)) (fun d=>Â (nh i.1 (b.1,c.1.1,d) (a.1,a.2.1,a.2.2.1,a.2.2.2.1,(0:Int),a.2.2.2.2.2)) fun l=>Â (nh i.2.1 (b.1,c.1.1,d) (a.1,a.2.1,a.2.2.1,a.2.2.2.1,(0:Int),a.2.2.2.2.2)) fun m=>Â (Š (b.1,c.1.1,d) o) fun n=>Â (ng n (0:Int) (b.1,c.1.1,d) m h.1 l) fun s=>Â (ng (0:Int) n (b.1,c.1.1,d) m h.1 l) fun t=>k ((e.1,s,t),(0:Int)))) ((0:Int),[])))
def t8 (a:Val ak) (b:Val Ã) (c:Val Ì):Option ((Val (.pair Ŭ tI))):=Jd a b c some
def uU (a:Val Ą) (k:Val ab→Option ρ):Option ρ :=
  ck (a.2.2-a.2.1) fun c=>ck (Int.tdiv c (2:Int)) fun b=>ck (a.1-a.2.1) fun d=>ck (a.2.2-a.1) fun e=>ck (b-1) fun f=>ck (b+1) fun g=>k ([d,e,b,f,g])
def iF (a:Val Ą):Option ((Val ab)):=uU a some
def Jg (a:Val Ą) (b:Int) (k:Int→Option ρ):Option ρ :=
  ck (a.2.1+b) fun c=>ck (a.2.2-b) fun d=>k (Ea (Ea a.1 c) d)
def ue (a:Val Ą) (b:Int):Option (Int):=Jg a b some
def rJ (a:Val Ŭ) (b:Int) (k:Val Ã→Option ρ):Option ρ :=
  Â (ue a.2.2 b) fun c=>ck (0-c) fun d=>Â (ue a.2.1 b) fun e=>k (d,e)
def ō (a:Val Ŭ) (b:Int):Option (Val Ã):=rJ a b some
def gX (d:Int) (e:Int) (f:Int) (a:Int) (b:Val ab) (c:Int→Val ab→Option ρ) (g:Val ab→Option ρ):Option ρ :=
  ck (d+(2:Int)) fun h=>ifb (ile a h) (ifb (igt a e) (ifb (ilt a f) (ë (ì ((List.length b)+(List.length ([a])))) (ck (a+(1:Int)) fun i=>c i (b++([a])))) (ck (a+(1:Int)) fun j=>c j b)) (ck (a+(1:Int)) fun k=>c k b)) (g b)
def jx (e:Val ab) (f:Int) (g:Int) (h:Int) (a:Int) (b:Val ab) (i:Int→Val ab→Option ρ) (j:Val ab→Option ρ):Option ρ :=
  ifb (ilt a f) (ò e a fun c=>ck (c-(2:Int)) fun k=>Ï (fun(d:Val ay) l=>gX c g h d.1 d.2 (fun m n=>l (m,n)) (fun o=>ck (a+(1:Int)) fun p=>i p o)) (k,b)) (j b)
def rK (a:Val Ŭ) (b:Val ab) (k:Val ab→Option ρ):Option ρ :=
  Ï (fun(c:Val ay) d=>jx b (Õ b) a.1.1 a.1.2 c.1 c.2 (fun e f=>d (e,f)) (fun g=>k g)) ((0:Int),[a.1.1,a.1.2])
def jS (a:Val Ŭ) (b:Val ab):Option ((Val ab)):=rK a b some
def jb (d:Val ab) (e:Int) (f:Int) (g:Int) (h:Int) (i:Int) (j:Int) (k:Int) (l:Int) (m:Int) (b:Int) (a:Int) (n:Int→Int→Option ρ) (o:Int→Option ρ):Option ρ :=
  ifb (ilt a e) (ò d a fun p=>Â (ō ((f,g),(h,i,j),k,l,m) p) fun c=>ck (c.2-c.1) fun q=>ck (a+(1:Int)) fun r=>n (Ek b q) r) (o b)
def oW (a:Val Ŭ) (k:Int→Option ρ):Option ρ :=
  Â (iF a.2.1) fun d=>Â (iF a.2.2) fun e=>Â (ï ([d,e])) fun f=>Â (jS a f) fun b=>Ï (fun(c:Val Ã) g=>jb b (Õ b) a.1.1 a.1.2 a.2.1.1 a.2.1.2.1 a.2.1.2.2 a.2.2.1 a.2.2.2.1 a.2.2.2.2 c.1 c.2 (fun h i=>g (h,i)) (fun j=>k j)) ((-1:Int),(0:Int))
def ln (a:Val Ŭ):Option (Int):=oW a some
def yh (m:Int) (j:Val aa) (b:Int) (c:Int) (d:Int) (e:Val ae) (f:Val aa) (g:Val af) (h:Val ac) (i:Val aa) (k:Int→Int→Int→Val ae→Val aa→Val af→Val ac→Val aa→Option ρ) (n:Val aF→Option ρ) (o:Val ah→Option ρ):Option ρ :=
  ifb (ilt b m) (ë ((ile 0 b)&&(ilt b (ă j))) (ĩ j (Int.toNat b) fun l=>Â (Ģ ((c,d),e,f,g,h,i) l) fun p=>ifb (ieq p.2 0) (ck (b+(1:Int)) fun q=>k q c d e f g h i) (Â (Ÿ ((c,d),e,f,g,h,i) l) fun a=>ifb (ine a.2 0) (n (a.2,c,d,e,f,g,h,i)) (ck (b+(1:Int)) fun r=>k r a.1.1.1 a.1.1.2 a.1.2.1 a.1.2.2.1 a.1.2.2.2.1 a.1.2.2.2.2.1 a.1.2.2.2.2.2)))) (o (c,d,e,f,g,h,i))
def Pr (a:Val Ä) (e:Val Ã) (i:Val Ì) (k:Val Ã→Option ρ):Option ρ :=
  Â (ó a) fun f=>ifb (ine f 0) (ë (ine f 0) (k ((0:Int),f))) (Ï (fun(b:Val aF) j=>yh (Õ ([e])) ([e]) b.1 b.2.1 b.2.2.1 b.2.2.2.1 b.2.2.2.2.1 b.2.2.2.2.2.1 b.2.2.2.2.2.2.1 b.2.2.2.2.2.2.2 (fun l m n o p q r s=>j (l,m,n,o,p,q,r,s)) (fun h=>ë (ine h.1 0) (k ((0:Int),h.1))) (fun c=>Â (ē ((c.1,c.2.1),c.2.2)) fun d=>ifb (ine d.2.2 0) (ë (ine d.2.2 0) (k ((0:Int),d.2.2))) (Â (ā d.1) fun t=>ifb (!t.1) (k ((0:Int),(9:Int))) (Â (t8 (((c.1,c.2.1),c.2.2),d.1) e i) fun g=>ifb (ine g.2 0) (k ((0:Int),g.2)) (Â (ln g.1) fun u=>k (u,(0:Int))))))) ((0:Int),a.1.1,a.1.2,a.2.1,a.2.2.1,a.2.2.2.1,a.2.2.2.2.1,a.2.2.2.2.2))
def zj (a:Val Ä) (b:Val Ã) (c:Val Ì):Option (Val Ã):=Pr a b c some
def uY (a:Int) (k:Int→Option ρ):Option ρ :=
  k (Ek (-288230376151711744:Int) (Ea a (288230376151711744:Int)))
def lp (a:Int):Option (Int):=uY a some
def uV (a:Val Ą) (b:Int) (k:Val ab→Option ρ):Option ρ :=
  ck (b-a.2.1) fun c=>ck (a.2.2-b) fun d=>k ([c,d])
def iG (a:Val Ą) (b:Int):Option ((Val ab)):=uV a b some
def rO (m:Int) (j:Val aa) (b:Int) (c:Int) (d:Int) (e:Val ae) (f:Val aa) (g:Val af) (h:Val ac) (i:Val aa) (k:Int→Int→Int→Val ae→Val aa→Val af→Val ac→Val aa→Option ρ) (n:Val aF→Option ρ) (o:Val ah→Option ρ):Option ρ :=
  ifb (ilt b m) (ë ((ile 0 b)&&(ilt b (ă j))) (ĩ j (Int.toNat b) fun l=>Â (Ģ ((c,d),e,f,g,h,i) l) fun p=>ifb (ieq p.2 0) (ck (b+(1:Int)) fun q=>k q c d e f g h i) (Â (Ÿ ((c,d),e,f,g,h,i) l) fun a=>ifb (ine a.2 0) (n (a.2,c,d,e,f,g,h,i)) (ck (b+(1:Int)) fun r=>k r a.1.1.1 a.1.1.2 a.1.2.1 a.1.2.2.1 a.1.2.2.2.1 a.1.2.2.2.2.1 a.1.2.2.2.2.2)))) (o (c,d,e,f,g,h,i))
def mB (b:Val ab) (c:Int) (d:Int) (e:Int) (f:Int) (g:Int) (h:Int) (i:Int) (j:Int) (k:Int) (l:Int) (m:Int) (a:Int) (n:Int→Option ρ) (o:Int→Option ρ) (p:Unit→Option ρ):Option ρ :=
  ifb (ilt a c) (ò b a fun q=>Â (ō ((f,g),(h,i,j),k,l,m) q) fun r=>Â (pM r (d,e)) fun s=>ifb (ieq s 3) (o a) (ck (a+(1:Int)) fun t=>n t)) (p ())
def DK (c:Val Ä) (g:Val Ã) (b:Val Ã) (n:Val Ì) (k:Val aS→Option ρ):Option ρ :=
  Â (ó c) fun h=>ifb (ine h 0) (ifb (ine h 0) (k (false,h)) (ë (igt b.1 b.2) (k (false,(1:Int))))) (Ï (fun(d:Val aF) o=>rO (Õ ([g])) ([g]) d.1 d.2.1 d.2.2.1 d.2.2.2.1 d.2.2.2.2.1 d.2.2.2.2.2.1 d.2.2.2.2.2.2.1 d.2.2.2.2.2.2.2 (fun p q r s t u v w=>o (p,q,r,s,t,u,v,w)) (fun l=>ifb (ine l.1 0) (k (false,l.1)) (ë (igt b.1 b.2) (k (false,(1:Int))))) (fun e=>Â (ē ((e.1,e.2.1),e.2.2)) fun f=>ifb (ine f.2.2 0) (ifb (ine f.2.2 0) (k (false,f.2.2)) (ë (igt b.1 b.2) (k (false,(1:Int))))) (Â (ā f.1) fun x=>ifb (!x.1) (k (false,(9:Int))) (ifb (igt b.1 b.2) (k (false,(1:Int))) (Â (t8 (((e.1,e.2.1),e.2.2),f.1) g n) fun a=>ifb (ine a.2 0) (k (false,a.2)) (Â (iF a.1.2.1) fun y=>Â (iF a.1.2.2) fun z=>Â (ï ([y,z])) fun A=>Â (lp b.1) fun i=>Â (lp b.2) fun j=>Â (iG a.1.2.1 i) fun B=>ck (0-i) fun C=>Â (iG a.1.2.2 C) fun D=>Â (ï ([A,B,D])) fun E=>Â (iG a.1.2.1 j) fun F=>ck (0-j) fun G=>Â (iG a.1.2.2 G) fun H=>Â (ï ([E,F,H])) fun I=>Â (jS a.1 I) fun m=>Ï (fun(J:Int) K=>mB m (Õ m) i j a.1.1.1 a.1.1.2 a.1.2.1.1 a.1.2.1.2.1 a.1.2.1.2.2 a.1.2.2.1 a.1.2.2.2.1 a.1.2.2.2.2 J (fun L=>K L) (fun M=>k ((!(ige M 0)),(0:Int))) (fun _=>k (true,(0:Int)))) (0:Int))))))) ((0:Int),c.1.1,c.1.2,c.2.1,c.2.2.1,c.2.2.2.1,c.2.2.2.2.1,c.2.2.2.2.2))
def pO (a:Val Ä) (b:Val Ã) (c:Val Ã) (d:Val Ì):Option ((Val aS)):=DK a b c d some
def mC (d:Val ab) (e:Int) (f:Val aj) (a:Int) (g:Int→Option ρ) (b:Int→Option ρ) (h:Unit→Option ρ):Option ρ :=
  ifb (ilt a e) (ò d a fun c=>ifb (ilt c 0) (b a) (ifb (ige c (Õ f)) (b a) (ck (a+(1:Int)) fun i=>g i))) (h ())
def DP (b:Val Ò) (a:Val ab) (k:Int→Option ρ):Option ρ :=
  ifb (igt (Õ a) 80) (k (2:Int)) (Ï (fun(c:Int) d=>mC a (Õ a) b.2 c (fun e=>d e) (fun f=>ifb (ige f 0) (k (1:Int)) (k (0:Int))) (fun _=>k (0:Int))) (0:Int))
def pP (a:Val Ò) (b:Val ab):Option (Int):=DP a b some
def vf (e:Val ab) (f:Int) (g:Val aj) (c:Int) (d:Int) (a:Int) (h:Int→Int→Int→Option ρ) (i:(Val (.pair tI (.pair tI .bool)))→Option ρ) (j:Val Ã→Option ρ):Option ρ :=
  ifb (ilt a f) (ò e a fun k=>ò g k fun b=>ifb (ine b.1 c) (i ((0:Int),(0:Int),false)) (ck (d+b.2.2) fun l=>ck (a+(1:Int)) fun m=>h b.2.1 l m)) (j (c,d))
def W7 (e:Val Ò) (f:Int) (c:Val ab) (k:(Val (.pair tI (.pair tI .bool)))→Option ρ):Option ρ :=
  Ï (fun(a:Val Ą) g=>vf c (Õ c) e.2 a.1 a.2.1 a.2.2 (fun h i j=>g (h,i,j)) (fun b=>k (b.1,b.2.1,b.2.2)) (fun d=>k (d.1,d.2,true))) (f,(0:Int),(0:Int))
def HU (a:Val Ò) (b:Int) (c:Val ab):Option ((Val (.pair tI (.pair tI .bool)))):=W7 a b c some
def rW (a:Val Ò) (b:Val ab) (k:Int→Option ρ):Option ρ :=
  Â (ni a) fun d=>ifb (ine d.1 0) (k d.1) (Â (pP a b) fun e=>ifb (ine e 0) (k e) (ifb (ieq (Õ b) 0) (k (8:Int)) (ò b (0:Int) fun g=>ò a.2 g fun f=>Â (HU a f.1 b) fun c=>ifb (!c.2.2) (k (8:Int)) (ifb (ine c.1 f.1) (k (8:Int)) (ifb (ige c.2.1 0) (k (8:Int)) (k (0:Int)))))))
def mF (a:Val Ò) (b:Val ab):Option (Int):=rW a b some
def rQ (a:Val ι) (k:Int→Option ρ):Option ρ :=
  Â (ó a.1) fun b=>ifb (ine b 0) (k b) (ifb (!((Ħ a.2.1.1 (0:Int))&&((Ħ a.2.1.2 (0:Int))&&true))) (k (1:Int)) (ifb a.2.2.1 (k (1:Int)) (ifb (ine a.2.2.2.1 0) (k (1:Int)) (Â (ē a.1) fun c=>Â (mF c.1 a.2.2.2.2) fun d=>ifb (ine d 0) (k (8:Int)) (k (0:Int))))))
def mE (a:Val ι):Option (Int):=rQ a some
def rX (a:Val Ò) (c:Int) (d:Int) (e:Val ab) (k:Val Ã→Option ρ):Option ρ :=
  Â (ni a) fun f=>ifb (ine f.1 0) (k ((0:Int),f.1)) (Â (rA a c) fun h=>ifb (!h) (k ((0:Int),(1:Int))) (Â (rA a d) fun i=>ifb (!i) (k ((0:Int),(1:Int))) (Â (pP a e) fun g=>ifb (ine g 0) (k ((0:Int),g)) (Â (HU a c e) fun b=>ifb (!b.2.2) (k ((0:Int),(8:Int))) (ifb (ine b.1 d) (k ((0:Int),(8:Int))) (k (b.2.1,(0:Int))))))))
def jT (a:Val Ò) (b:Int) (c:Int) (d:Val ab):Option (Val Ã):=rX a b c d some
def vc (a:Val ι) (k:Int→Option ρ):Option ρ :=
  Â (ó a.1) fun c=>ifb (ine c 0) (k c) (Â (Ģ a.1 a.2.1) fun b=>ifb (ine b.2 0) (k (5:Int)) (Â (ē a.1) fun d=>ck (0-a.2.2.2.1) fun g=>ifb a.2.2.1 (Â (jT d.1 (0:Int) b.1 a.2.2.2.2) fun e=>ifb (ine e.2 0) (k (8:Int)) (ifb (ine e.1 a.2.2.2.1) (k (8:Int)) (k (0:Int)))) (Â (jT d.1 b.1 (0:Int) a.2.2.2.2) fun f=>ifb (ine f.2 0) (k (8:Int)) (ifb (ine f.1 g) (k (8:Int)) (k (0:Int))))))
def lq (a:Val ι):Option (Int):=vc a some
def Ă (c:Val ae) (d:Int) (e:Int) (f:Int) (g:Int) (h:Int) (i:Int) (j:Int) (k:Int) (l:Int) (b:Int) (m:Int→Option ρ) (n:Int→Option ρ) (o:Unit→Option ρ):Option ρ :=
  ifb (ilt b d) (ò c b fun a=>ifb ((Ħ e a.1)&&((Ħ f a.2.1)&&((Ħ g a.2.2.1)&&((Ħ h a.2.2.2.1.1)&&((Ħ i a.2.2.2.1.2)&&((Ħ j a.2.2.2.2.1.1)&&((Ħ k a.2.2.2.2.1.2)&&((Ħ l a.2.2.2.2.2)&&true)))))))) (n b) (ck (b+(1:Int)) fun p=>m p)) (o ())
def Ş (b:Val ae) (a:Val Ð) (k:Int→Option ρ):Option ρ :=
  Ï (fun(c:Int) d=>Ă b (Õ b) a.1 a.2.1 a.2.2.1 a.2.2.2.1.1 a.2.2.2.1.2 a.2.2.2.2.1.1 a.2.2.2.2.1.2 a.2.2.2.2.2 c (fun e=>d e) (fun f=>k f) (fun _=>k (-1:Int))) (0:Int)
def ş (a:Val ae) (b:Val Ð):Option (Int):=Ş a b some
def Ł (a:Val ae) (b:Val Ð) (k:Bool→Option ρ):Option ρ :=
  Â (ş a b) fun c=>k (ige c 0)
def Ğ (a:Val ae) (b:Val Ð):Option (Bool):=Ł a b some
def Ę (c:Val aa) (d:Int) (e:Int) (f:Int) (a:Int) (g:Int→Option ρ) (h:Int→Option ρ) (i:Unit→Option ρ):Option ρ :=
  ifb (ilt a d) (ò c a fun b=>ifb ((Ħ e b.1)&&((Ħ f b.2)&&true)) (h a) (ck (a+(1:Int)) fun j=>g j)) (i ())
def Ω (a:Val aa) (b:Val Ã) (k:Int→Option ρ):Option ρ :=
  Ï (fun(c:Int) d=>Ę a (Õ a) b.1 b.2 c (fun e=>d e) (fun f=>k f) (fun _=>k (-1:Int))) (0:Int)
def ζ (a:Val aa) (b:Val Ã):Option (Int):=Ω a b some
def Ť (a:Val aa) (b:Val Ã) (k:Bool→Option ρ):Option ρ :=
  Â (ζ a b) fun c=>k (ige c 0)
def Ě (a:Val aa) (b:Val Ã):Option (Bool):=Ť a b some
def č (c:Val af) (d:Int) (e:Int) (f:Int) (g:Int) (h:Int) (a:Int) (i:Int→Option ρ) (j:Int→Option ρ) (k:Unit→Option ρ):Option ρ :=
  ifb (ilt a d) (ò c a fun b=>ifb ((Ħ e b.1)&&((Ħ f b.2.1.1)&&((Ħ g b.2.1.2)&&((Ħ h b.2.2)&&true)))) (j a) (ck (a+(1:Int)) fun l=>i l)) (k ())
def ű (b:Val af) (a:Val Ń) (k:Int→Option ρ):Option ρ :=
  Ï (fun(c:Int) d=>č b (Õ b) a.1 a.2.1.1 a.2.1.2 a.2.2 c (fun e=>d e) (fun f=>k f) (fun _=>k (-1:Int))) (0:Int)
def Ŵ (a:Val af) (b:Val Ń):Option (Int):=ű a b some
def Ő (a:Val af) (b:Val Ń) (k:Bool→Option ρ):Option ρ :=
  Â (Ŵ a b) fun c=>k (ige c 0)
def Ď (a:Val af) (b:Val Ń):Option (Bool):=Ő a b some
def uT (c:Val ae) (d:Int) (a:Int) (b:Val ao) (e:Int→Val ao→Option ρ) (f:Val ao→Option ρ):Option ρ :=
  ifb (ilt a d) (ò c a fun g=>ck (a+(1:Int)) fun h=>e h (Nl (k:=tI) (v:=.bool) g.1 true b)) (f b)
def mc (b:Val ab) (c:Val ab) (d:Int) (a:Int) (e:Int→Option ρ) (f:Bool→Option ρ) (g:Unit→Option ρ):Option ρ :=
  ifb (ilt a d) (ò b a fun h=>ò c a fun i=>ifb (ine h i) (f false) (ck (a+(1:Int)) fun j=>e j)) (g ())
def uS (b:Val ab) (c:Val ab) (d:Int) (a:Int) (e:Int→Option ρ) (f:Bool→Option ρ) (g:Unit→Option ρ):Option ρ :=
  ifb (ilt a d) (ò b a fun h=>ò c a fun i=>ifb (ine h i) (f false) (ck (a+(1:Int)) fun j=>e j)) (g ())
def pu (g:Val ac) (h:Int) (i:Int) (j:Int) (f:Val ab) (d:Val ab) (k:Int) (l:Int) (m:Int) (n:Int) (a:Int) (c:Int→Option ρ) (e:Int→Option ρ) (o:Unit→Option ρ):Option ρ :=
  ifb (ilt a h) (ò g a fun b=>ifb (ieq i b.1) (ifb (ieq j b.2.1) (ifb (ieq k b.2.2.2.2.1) (ifb (ieq l b.2.2.2.2.2.1) (ifb ((Ħ m b.2.2.2.2.2.2.1)&&((Ħ n b.2.2.2.2.2.2.2)&&true)) (ifb (ine (Õ f) (Õ b.2.2.1)) (ck (a+(1:Int)) fun p=>c p) (Ï (fun(q:Int) r=>mc f b.2.2.1 (Õ f) q (fun s=>r s) (fun t=>ifb t (ifb (ine (Õ d) (Õ b.2.2.2.1)) (ck (a+(1:Int)) fun u=>c u) (Ï (fun(v:Int) w=>uS d b.2.2.2.1 (Õ d) v (fun x=>w x) (fun y=>ifb y (e a) (ck (a+(1:Int)) fun z=>c z)) (fun _=>e a)) (0:Int))) (ck (a+(1:Int)) fun A=>c A)) (fun _=>ifb (ine (Õ d) (Õ b.2.2.2.1)) (ck (a+(1:Int)) fun B=>c B) (Ï (fun(C:Int) D=>uS d b.2.2.2.1 (Õ d) C (fun E=>D E) (fun F=>ifb F (e a) (ck (a+(1:Int)) fun G=>c G)) (fun _=>e a)) (0:Int)))) (0:Int))) (ck (a+(1:Int)) fun H=>c H)) (ck (a+(1:Int)) fun I=>c I)) (ck (a+(1:Int)) fun J=>c J)) (ck (a+(1:Int)) fun K=>c K)) (ck (a+(1:Int)) fun L=>c L)) (o ())
def pv (e:Val ac) (f:Int) (c:Val ac) (b:Int) (g:Int→Option ρ) (d:Bool→Option ρ) (h:Unit→Option ρ):Option ρ :=
  ifb (ilt b f) (ò e b fun a=>Ï (fun(i:Int) j=>pu c (Õ c) a.1 a.2.1 a.2.2.1 a.2.2.2.1 a.2.2.2.2.1 a.2.2.2.2.2.1 a.2.2.2.2.2.2.1 a.2.2.2.2.2.2.2 i (fun k=>j k) (fun l=>ifb (!(ige l 0)) (d false) (ck (b+(1:Int)) fun m=>g m)) (fun _=>d false)) (0:Int)) (h ())
def pr (b:Val ae) (c:Int) (d:Val ae) (a:Int) (e:Int→Option ρ) (f:Int→Option ρ) (g:Unit→Option ρ):Option ρ :=
  ifb (ilt a c) (ò b a fun h=>Â (Ğ d h) fun i=>ifb (!i) (f a) (ck (a+(1:Int)) fun j=>e j)) (g ())
def ke (d:Val aa) (e:Int) (f:Val ao) (g:Val aa) (a:Int) (b:Int→Option ρ) (h:Int→Option ρ) (i:Unit→Option ρ):Option ρ :=
  ifb (ilt a e) (ò d a fun c=>YD (k:=tI) (v:=.bool) c.1 f (fun j=>ifb j (Â (Ě g c) fun l=>ifb (!l) (h a) (ck (a+(1:Int)) fun m=>b m)) (ck (a+(1:Int)) fun n=>b n)) (ck (a+(1:Int)) fun o=>b o)) (i ())
def l9 (d:Val aa) (e:Int) (f:Val ao) (g:Val aa) (a:Int) (b:Int→Option ρ) (h:Int→Option ρ) (i:Unit→Option ρ):Option ρ :=
  ifb (ilt a e) (ò d a fun c=>YD (k:=tI) (v:=.bool) c.1 f (fun j=>ifb j (Â (Ě g c) fun l=>ifb (!l) (h a) (ck (a+(1:Int)) fun m=>b m)) (ck (a+(1:Int)) fun n=>b n)) (ck (a+(1:Int)) fun o=>b o)) (i ())
def Ķ (d:Val af) (e:Int) (f:Val ao) (g:Val af) (a:Int) (b:Int→Option ρ) (h:Int→Option ρ) (i:Unit→Option ρ):Option ρ :=
  ifb (ilt a e) (ò d a fun c=>YD (k:=tI) (v:=.bool) c.1 f (fun j=>ifb j (Â (Ď g c) fun l=>ifb (!l) (h a) (ck (a+(1:Int)) fun m=>b m)) (ck (a+(1:Int)) fun n=>b n)) (ck (a+(1:Int)) fun o=>b o)) (i ())
def ĕ (d:Val af) (e:Int) (f:Val ao) (g:Val af) (a:Int) (b:Int→Option ρ) (h:Int→Option ρ) (i:Unit→Option ρ):Option ρ :=
  ifb (ilt a e) (ò d a fun c=>YD (k:=tI) (v:=.bool) c.1 f (fun j=>ifb j (Â (Ď g c) fun l=>ifb (!l) (h a) (ck (a+(1:Int)) fun m=>b m)) (ck (a+(1:Int)) fun n=>b n)) (ck (a+(1:Int)) fun o=>b o)) (i ())
def WL (b:Val Ä) (a:Val Ä) (k:Bool→Option ρ):Option ρ :=
  Ï (fun(d:(Val (.pair tI ao))) e=>uT b.2.1 (Õ b.2.1) d.1 d.2 (fun f g=>e (f,g)) (fun c=>Ï (fun(h:Int) i=>pv b.2.2.2.2.1 (Õ b.2.2.2.2.1) a.2.2.2.2.1 h (fun j=>i j) (fun l=>k l) (fun _=>ifb ((Ħ b.1.1 a.1.1)&&((Ħ b.1.2 a.1.2)&&true)) (Ï (fun(m:Int) n=>pr b.2.1 (Õ b.2.1) a.2.1 m (fun o=>n o) (fun p=>ifb (!(ige p 0)) (Ï (fun(q:Int) r=>ke b.2.2.1 (Õ b.2.2.1) c a.2.2.1 q (fun s=>r s) (fun t=>ifb (!(ige t 0)) (Ï (fun(u:Int) v=>l9 a.2.2.1 (Õ a.2.2.1) c b.2.2.1 u (fun w=>v w) (fun x=>ifb (!(ige x 0)) (Ï (fun(y:Int) z=>Ķ b.2.2.2.1 (Õ b.2.2.2.1) c a.2.2.2.1 y (fun A=>z A) (fun B=>ifb (!(ige B 0)) (Ï (fun(C:Int) D=>ĕ a.2.2.2.1 (Õ a.2.2.2.1) c b.2.2.2.1 C (fun E=>D E) (fun F=>k (!(ige F 0))) (fun _=>k true)) (0:Int)) (k false)) (fun _=>Ï (fun(G:Int) H=>ĕ a.2.2.2.1 (Õ a.2.2.2.1) c b.2.2.2.1 G (fun I=>H I) (fun J=>k (!(ige J 0))) (fun _=>k true)) (0:Int))) (0:Int)) (k false)) (fun _=>Ï (fun(K:Int) L=>Ķ b.2.2.2.1 (Õ b.2.2.2.1) c a.2.2.2.1 K (fun M=>L M) (fun N=>ifb (!(ige N 0)) (Ï (fun(O:Int) P=>ĕ a.2.2.2.1 (Õ a.2.2.2.1) c b.2.2.2.1 O (fun Q=>P Q) (fun R=>k (!(ige R 0))) (fun _=>k true)) (0:Int)) (k false)) (fun _=>Ï (fun(S:Int) T=>ĕ a.2.2.2.1 (Õ a.2.2.2.1) c b.2.2.2.1 S (fun U=>T U) (fun V=>k (!(ige V 0))) (fun _=>k true)) (0:Int))) (0:Int))) (0:Int)) (k false)) (fun _=>Ï (fun(W:Int) X=>l9 a.2.2.1 (Õ a.2.2.1) c b.2.2.1 W (fun Y=>X Y) (fun Z=>ifb (!(ige Z 0)) (Ï (fun(dc:Int) df=>Ķ b.2.2.2.1 (Õ b.2.2.2.1) c a.2.2.2.1 dc (fun dg=>df dg) (fun dh=>ifb (!(ige dh 0)) (Ï (fun(di:Int) dj=>ĕ a.2.2.2.1 (Õ a.2.2.2.1) c b.2.2.2.1 di (fun dk=>dj dk) (fun dl=>k (!(ige dl 0))) (fun _=>k true)) (0:Int)) (k false)) (fun _=>Ï (fun(dm:Int) dn=>ĕ a.2.2.2.1 (Õ a.2.2.2.1) c b.2.2.2.1 dm (fun dt=>dn dt) (fun du=>k (!(ige du 0))) (fun _=>k true)) (0:Int))) (0:Int)) (k false)) (fun _=>Ï (fun(dv:Int) dw=>Ķ b.2.2.2.1 (Õ b.2.2.2.1) c a.2.2.2.1 dv (fun dz=>dw dz) (fun d8=>ifb (!(ige d8 0)) (Ï (fun(d9:Int) ee=>ĕ a.2.2.2.1 (Õ a.2.2.2.1) c b.2.2.2.1 d9 (fun eh=>ee eh) (fun ej=>k (!(ige ej 0))) (fun _=>k true)) (0:Int)) (k false)) (fun _=>Ï (fun(eo:Int) er=>ĕ a.2.2.2.1 (Õ a.2.2.2.1) c b.2.2.2.1 eo (fun ez=>er ez) (fun fc=>k (!(ige fc 0))) (fun _=>k true)) (0:Int))) (0:Int))) (0:Int))) (0:Int)) (k false)) (fun _=>Ï (fun(fe:Int) ff=>ke b.2.2.1 (Õ b.2.2.1) c a.2.2.1 fe (fun fg=>ff fg) (fun fh=>ifb (!(ige fh 0)) (Ï (fun(fi:Int) fj=>l9 a.2.2.1 (Õ a.2.2.1) c b.2.2.1 fi (fun fk=>fj fk) (fun fm=>ifb (!(ige fm 0)) (Ï (fun(fo:Int) fp=>Ķ b.2.2.2.1 (Õ b.2.2.2.1) c a.2.2.2.1 fo (fun fq=>fp fq) (fun ft=>ifb (!(ige ft 0)) (Ï (fun(fu:Int) fw=>ĕ a.2.2.2.1 (Õ a.2.2.2.1) c b.2.2.2.1 fu (fun f0=>fw f0) (fun f5=>k (!(ige f5 0))) (fun _=>k true)) (0:Int)) (k false)) (fun _=>Ï (fun(f6:Int) f7=>ĕ a.2.2.2.1 (Õ a.2.2.2.1) c b.2.2.2.1 f6 (fun f8=>f7 f8) (fun f9=>k (!(ige f9 0))) (fun _=>k true)) (0:Int))) (0:Int)) (k false)) (fun _=>Ï (fun(gc:Int) gd=>Ķ b.2.2.2.1 (Õ b.2.2.2.1) c a.2.2.2.1 gc (fun gg=>gd gg) (fun gh=>ifb (!(ige gh 0)) (Ï (fun(gi:Int) gj=>ĕ a.2.2.2.1 (Õ a.2.2.2.1) c b.2.2.2.1 gi (fun gk=>gj gk) (fun gn=>k (!(ige gn 0))) (fun _=>k true)) (0:Int)) (k false)) (fun _=>Ï (fun(gp:Int) gq=>ĕ a.2.2.2.1 (Õ a.2.2.2.1) c b.2.2.2.1 gp (fun gr=>gq gr) (fun gu=>k (!(ige gu 0))) (fun _=>k true)) (0:Int))) (0:Int))) (0:Int)) (k false)) (fun _=>Ï (fun(gw:Int) gx=>l9 a.2.2.1 (Õ a.2.2.1) c b.2.2.1 gw (fun gy=>gx gy) (fun g8=>ifb (!(ige g8 0)) (Ï (fun(g9:Int) ic=>Ķ b.2.2.2.1 (Õ b.2.2.2.1) c a.2.2.2.1 g9 (fun ig=>ic ig) (fun ii=>ifb (!(ige ii 0)) (Ï (fun(ij:Int) ik=>ĕ a.2.2.2.1 (Õ a.2.2.2.1) c b.2.2.2.1 ij (fun il=>ik il) (fun ip=>k (!(ige ip 0))) (fun _=>k true)) (0:Int)) (k false)) (fun _=>Ï (fun(iq:Int) ir=>ĕ a.2.2.2.1 (Õ a.2.2.2.1) c b.2.2.2.1 iq (fun iu=>ir iu) (fun iv=>k (!(ige iv 0))) (fun _=>k true)) (0:Int))) (0:Int)) (k false)) (fun _=>Ï (fun(iw:Int) ix=>Ķ b.2.2.2.1 (Õ b.2.2.2.1) c a.2.2.2.1 iw (fun iy=>ix iy) (fun iz=>ifb (!(ige iz 0)) (Ï (fun(i5:Int) i6=>ĕ a.2.2.2.1 (Õ a.2.2.2.1) c b.2.2.2.1 i5 (fun i7=>i6 i7) (fun i8=>k (!(ige i8 0))) (fun _=>k true)) (0:Int)) (k false)) (fun _=>Ï (fun(i9:Int) ja=>ĕ a.2.2.2.1 (Õ a.2.2.2.1) c b.2.2.2.1 i9 (fun jb=>ja jb) (fun jc=>k (!(ige jc 0))) (fun _=>k true)) (0:Int))) (0:Int))) (0:Int))) (0:Int))) (0:Int)) (k false))) (0:Int))) ((0:Int),[])
def Ak (a:Val Ä) (b:Val Ä):Option (Bool):=WL a b some
def Ji (b:Val Ä) (a:Val ι) (k:Val aS→Option ρ):Option ρ :=
  Â (ó b) fun c=>ifb (ine c 0) (k (false,c)) (ifb ((Ħ a.2.1.1 (0:Int))&&((Ħ a.2.1.2 (0:Int))&&true)) (Â (mE a) fun d=>ifb (ine d 0) (k (false,d)) (Â (Ak a.1 b) fun f=>k (f,(0:Int)))) (Â (lq a) fun e=>ifb (ine e 0) (k (false,e)) (Â (Ak a.1 b) fun g=>k (g,(0:Int)))))
def Al (a:Val Ä) (b:Val ι):Option ((Val aS)):=Ji a b some
def C1 (k:Bool→Option ρ):Option ρ :=
  Â zf fun a=>Â (kD a ((2:Int),(10:Int))) fun c=>Â (kD a ((1:Int),(30:Int))) fun d=>Â (mj a ((1:Int),(10:Int)) ((2:Int),(10:Int))) fun e=>Â (HQ a (10:Int) ([(1:Int),(2:Int)])) fun f=>Â (HS a ((2:Int),(0:Int)) ((990:Int),(1010:Int))) fun g=>Â (vS a ((2:Int),(10:Int)) true) fun b=>ifb (ine c.2 0) (k false) (ifb (ine d.2 0) (k false) (ifb (ine e.2 0) (k false) (ifb (ine f.2 0) (k false) (ifb (ine g.2 0) (k false) (ifb (ine b.2 0) (k false) (ifb (!((Ħ c.1.1 (984:Int))&&((Ħ c.1.2 (1011:Int))&&true))) (k false) (ifb (!((Ħ d.1.1 (964:Int))&&((Ħ d.1.2 (1005:Int))&&true))) (k false) (ifb (!((Ħ e.1.1 (-6:Int))&&((Ħ e.1.2 (11:Int))&&true))) (k false) (ifb (!((Ħ f.1.1 (1979:Int))&&((Ħ f.1.2 (2018:Int))&&true))) (k false) (ifb (ine g.1 3) (k false) (ifb (ine b.1.2.2.2.1 1011) (k false) (Â (zj a ((2:Int),(10:Int)) ((8:Int),(10:Int),[(1:Int)],[(2:Int)],(0:Int),(0:Int),(0:Int),(0:Int))) fun h=>Â (pO a ((2:Int),(10:Int)) ((900:Int),(1100:Int)) ((8:Int),(10:Int),[(1:Int)],[(2:Int)],(0:Int),(0:Int),(0:Int),(0:Int))) fun i=>Â (Al a b.1) fun j=>Â (HT a) fun l=>ifb (ieq h.2 0) (ifb (ieq i.2 0) (ifb (ieq j.2 0) (ifb (ieq l.2 5) (ifb (ieq h.1 10) (ifb i.1 (ifb j.1 (Â (lq b.1) fun m=>k (ieq m 0)) (k false)) (k false)) (k false)) (k false)) (k false)) (k false)) (k false)))))))))))))
def þ:Option (Bool):=C1 some
def iR (e:Val ab) (f:Int) (g:Val ak) (c:Val am) (b:Int) (a:Int) (d:Int→Int→Option ρ) (h:Int→Option ρ):Option ρ :=
  ifb (ilt a f) (ò e a fun i=>ë ((ile 0 a)&&(ilt a (ă c))) (ĩ c (Int.toNat a) fun j=>ifb (!j) (Â (Ë g (0:Int) i) fun k=>ck (b+k) fun l=>ck (a+(1:Int)) fun m=>d l m) (ck (a+(1:Int)) fun n=>d b n))) (h b)
def wy (e:Val ab) (f:Int) (g:Val ak) (c:Val am) (b:Int) (a:Int) (d:Int→Int→Option ρ) (h:Int→Option ρ):Option ρ :=
  ifb (ilt a f) (ò e a fun i=>ë ((ile 0 a)&&(ilt a (ă c))) (ĩ c (Int.toNat a) fun j=>ifb (!j) (Â (Ë g (0:Int) i) fun k=>ck (b+k) fun l=>ck (a+(1:Int)) fun m=>d l m) (ck (a+(1:Int)) fun n=>d b n))) (h b)
def wx (e:Val ab) (f:Int) (g:Val ak) (c:Val am) (b:Int) (a:Int) (d:Int→Int→Option ρ) (h:Int→Option ρ):Option ρ :=
  ifb (ilt a f) (ò e a fun i=>ë ((ile 0 a)&&(ilt a (ă c))) (ĩ c (Int.toNat a) fun j=>ifb (!j) (Â (Ë g (0:Int) i) fun k=>ck (b+k) fun l=>ck (a+(1:Int)) fun m=>d l m) (ck (a+(1:Int)) fun n=>d b n))) (h b)
def ww (e:Val ab) (f:Int) (g:Val ak) (c:Val am) (b:Int) (a:Int) (d:Int→Int→Option ρ) (h:Int→Option ρ):Option ρ :=
  ifb (ilt a f) (ò e a fun i=>ë ((ile 0 a)&&(ilt a (ă c))) (ĩ c (Int.toNat a) fun j=>ifb (!j) (Â (Ë g (0:Int) i) fun k=>ck (b+k) fun l=>ck (a+(1:Int)) fun m=>d l m) (ck (a+(1:Int)) fun n=>d b n))) (h b)
def wu (e:Val ab) (f:Int) (g:Val ak) (c:Val am) (b:Int) (a:Int) (d:Int→Int→Option ρ) (h:Int→Option ρ):Option ρ :=
  ifb (ilt a f) (ò e a fun i=>ë ((ile 0 a)&&(ilt a (ă c))) (ĩ c (Int.toNat a) fun j=>ifb (!j) (Â (Ë g (0:Int) i) fun k=>ck (b+k) fun l=>ck (a+(1:Int)) fun m=>d l m) (ck (a+(1:Int)) fun n=>d b n))) (h b)
def wt (e:Val ab) (f:Int) (g:Val ak) (c:Val am) (b:Int) (a:Int) (d:Int→Int→Option ρ) (h:Int→Option ρ):Option ρ :=
  ifb (ilt a f) (ò e a fun i=>ë ((ile 0 a)&&(ilt a (ă c))) (ĩ c (Int.toNat a) fun j=>ifb (!j) (Â (Ë g (0:Int) i) fun k=>ck (b+k) fun l=>ck (a+(1:Int)) fun m=>d l m) (ck (a+(1:Int)) fun n=>d b n))) (h b)
def wp (e:Val ab) (f:Int) (g:Val ak) (c:Val am) (b:Int) (a:Int) (d:Int→Int→Option ρ) (h:Int→Option ρ):Option ρ :=
  ifb (ilt a f) (ò e a fun i=>ë ((ile 0 a)&&(ilt a (ă c))) (ĩ c (Int.toNat a) fun j=>ifb (!j) (Â (Ë g (0:Int) i) fun k=>ck (b+k) fun l=>ck (a+(1:Int)) fun m=>d l m) (ck (a+(1:Int)) fun n=>d b n))) (h b)
def wq (g:Int) (k:Val ab) (l:Int) (c:Val ak) (d:Val ab) (h:Val ab) (e:Int) (a:Int) (b:Val am) (i:Int→Int→Val am→Option ρ) (m:(Val (.pair tI am))→Option ρ):Option ρ :=
  ifb (ilt a l) (ò k a fun n=>ë ((ile 0 a)&&(ilt a (ă b))) (ĩ b (Int.toNat a) fun o=>ifb o (ck (a+(1:Int)) fun p=>i e p b) (ë ((ile 0 a)&&(ilt a (ă b))) (ĩ b (Int.toNat a) fun z=>ò d g fun q=>Â (Ë c q n) fun r=>ck (g+(1:Int)) fun f=>ifb (ieq f (Õ d)) (Ï (fun(j:Val Ã) s=>wp h (Õ h) c (List.set b (Int.toNat a) true) j.1 j.2 (fun t u=>s (t,u)) (fun v=>ck (r+v) fun w=>ë ((ile 0 a)&&(ilt a (ă (List.set b (Int.toNat a) true)))) (ĩ (List.set b (Int.toNat a) true) (Int.toNat a) fun A=>ck (a+(1:Int)) fun x=>i (Ea e w) x (List.set (List.set b (Int.toNat a) true) (Int.toNat a) false)))) ((0:Int),(0:Int))) (ò d f fun y=>Â (Ë c y (0:Int)) fun B=>ck (f+1) fun C=>none))))) (m (e,b))
def nt (l:Int) (p:Val ab) (q:Int) (d:Val ak) (e:Val ab) (c:Val ab) (f:Int) (a:Int) (b:Val am) (i:Int→Int→Val am→Option ρ) (r:(Val (.pair tI am))→Option ρ):Option ρ :=
  ifb (ilt a q) (ò p a fun s=>ë ((ile 0 a)&&(ilt a (ă b))) (ĩ b (Int.toNat a) fun t=>ifb t (ck (a+(1:Int)) fun u=>i f u b) (ë ((ile 0 a)&&(ilt a (ă b))) (ĩ b (Int.toNat a) fun Q=>ò e l fun v=>Â (Ë d v s) fun m=>ck (l+(1:Int)) fun g=>ifb (ieq g (Õ e)) (Ï (fun(n:Val Ã) w=>wu c (Õ c) d (List.set b (Int.toNat a) true) n.1 n.2 (fun x y=>w (x,y)) (fun z=>ck (m+z) fun A=>ë ((ile 0 a)&&(ilt a (ă (List.set b (Int.toNat a) true)))) (ĩ (List.set b (Int.toNat a) true) (Int.toNat a) fun R=>ck (a+(1:Int)) fun B=>i (Ea f A) B (List.set (List.set b (Int.toNat a) true) (Int.toNat a) false)))) ((0:Int),(0:Int))) (ò e g fun C=>Â (Ë d C (0:Int)) fun D=>ck (g+1) fun j=>ifb (ieq j (Õ e)) (Ï (fun(o:Val Ã) E=>wt c (Õ c) d (List.set b (Int.toNat a) true) o.1 o.2 (fun F G=>E (F,G)) (fun H=>ck (D+H) fun I=>Ï (fun(k:Val aD) J=>wq g c (Õ c) d e c k.1 k.2.1 k.2.2 (fun K L M=>J (K,L,M)) (fun h=>ck (m+h.1) fun N=>ë ((ile 0 a)&&(ilt a (ă h.2))) (ĩ h.2 (Int.toNat a) fun S=>ck (a+(1:Int)) fun O=>i (Ea f N) O (List.set h.2 (Int.toNat a) false)))) (I,(0:Int),(List.set b (Int.toNat a) true)))) ((0:Int),(0:Int))) (ò e j fun P=>Â (Ë d P (0:Int)) fun T=>ck (j+1) fun U=>none)))))) (r (f,b))
def ta (e:Val ab) (f:Int) (g:Val ak) (c:Val am) (b:Int) (a:Int) (d:Int→Int→Option ρ) (h:Int→Option ρ):Option ρ :=
  ifb (ilt a f) (ò e a fun i=>ë ((ile 0 a)&&(ilt a (ă c))) (ĩ c (Int.toNat a) fun j=>ifb (!j) (Â (Ë g (0:Int) i) fun k=>ck (b+k) fun l=>ck (a+(1:Int)) fun m=>d l m) (ck (a+(1:Int)) fun n=>d b n))) (h b)
def s8 (e:Val ab) (f:Int) (g:Val ak) (c:Val am) (b:Int) (a:Int) (d:Int→Int→Option ρ) (h:Int→Option ρ):Option ρ :=
  ifb (ilt a f) (ò e a fun i=>ë ((ile 0 a)&&(ilt a (ă c))) (ĩ c (Int.toNat a) fun j=>ifb (!j) (Â (Ë g (0:Int) i) fun k=>ck (b+k) fun l=>ck (a+(1:Int)) fun m=>d l m) (ck (a+(1:Int)) fun n=>d b n))) (h b)
def s9 (g:Int) (k:Val ab) (l:Int) (c:Val ak) (d:Val ab) (h:Val ab) (e:Int) (a:Int) (b:Val am) (i:Int→Int→Val am→Option ρ) (m:(Val (.pair tI am))→Option ρ):Option ρ :=
  ifb (ilt a l) (ò k a fun n=>ë ((ile 0 a)&&(ilt a (ă b))) (ĩ b (Int.toNat a) fun o=>ifb o (ck (a+(1:Int)) fun p=>i e p b) (ë ((ile 0 a)&&(ilt a (ă b))) (ĩ b (Int.toNat a) fun z=>ò d g fun q=>Â (Ë c q n) fun r=>ck (g+(1:Int)) fun f=>ifb (ieq f (Õ d)) (Ï (fun(j:Val Ã) s=>s8 h (Õ h) c (List.set b (Int.toNat a) true) j.1 j.2 (fun t u=>s (t,u)) (fun v=>ck (r+v) fun w=>ë ((ile 0 a)&&(ilt a (ă (List.set b (Int.toNat a) true)))) (ĩ (List.set b (Int.toNat a) true) (Int.toNat a) fun A=>ck (a+(1:Int)) fun x=>i (Ea e w) x (List.set (List.set b (Int.toNat a) true) (Int.toNat a) false)))) ((0:Int),(0:Int))) (ò d f fun y=>Â (Ë c y (0:Int)) fun B=>ck (f+1) fun C=>none))))) (m (e,b))
def j2 (q:Int) (w:Val ab) (x:Int) (d:Val ak) (e:Val ab) (b:Val ab) (f:Int) (a:Int) (c:Val am) (h:Int→Int→Val am→Option ρ) (y:(Val (.pair tI am))→Option ρ):Option ρ :=
  ifb (ilt a x) (ò w a fun z=>ë ((ile 0 a)&&(ilt a (ă c))) (ĩ c (Int.toNat a) fun A=>ifb A (ck (a+(1:Int)) fun B=>h f B c) (ë ((ile 0 a)&&(ilt a (ă c))) (ĩ c (Int.toNat a) fun dz=>ò e q fun C=>Â (Ë d C z) fun l=>ck (q+(1:Int)) fun g=>ifb (ieq g (Õ e)) (Ï (fun(r:Val Ã) D=>wx b (Õ b) d (List.set c (Int.toNat a) true) r.1 r.2 (fun E F=>D (E,F)) (fun G=>ck (l+G) fun H=>ë ((ile 0 a)&&(ilt a (ă (List.set c (Int.toNat a) true)))) (ĩ (List.set c (Int.toNat a) true) (Int.toNat a) fun d8=>ck (a+(1:Int)) fun I=>h (Ea f H) I (List.set (List.set c (Int.toNat a) true) (Int.toNat a) false)))) ((0:Int),(0:Int))) (ò e g fun J=>Â (Ë d J (0:Int)) fun s=>ck (g+1) fun i=>ifb (ieq i (Õ e)) (Ï (fun(t:Val Ã) K=>ww b (Õ b) d (List.set c (Int.toNat a) true) t.1 t.2 (fun L M=>K (L,M)) (fun N=>ck (s+N) fun O=>Ï (fun(m:Val aD) P=>nt g b (Õ b) d e b m.1 m.2.1 m.2.2 (fun Q R S=>P (Q,R,S)) (fun j=>ck (l+j.1) fun T=>ë ((ile 0 a)&&(ilt a (ă j.2))) (ĩ j.2 (Int.toNat a) fun d9=>ck (a+(1:Int)) fun U=>h (Ea f T) U (List.set j.2 (Int.toNat a) false)))) (O,(0:Int),(List.set c (Int.toNat a) true)))) ((0:Int),(0:Int))) (ò e i fun V=>Â (Ë d V (0:Int)) fun W=>ck (i+1) fun n=>ifb (ieq n (Õ e)) (Ï (fun(u:Val Ã) X=>ta b (Õ b) d (List.set c (Int.toNat a) true) u.1 u.2 (fun Y Z=>X (Y,Z)) (fun dc=>ck (W+dc) fun df=>Ï (fun(o:Val aD) dg=>s9 i b (Õ b) d e b o.1 o.2.1 o.2.2 (fun dh di dj=>dg (dh,di,dj)) (fun v=>ck (s+v.1) fun dk=>Ï (fun(p:Val aD) dl=>nt g b (Õ b) d e b p.1 p.2.1 p.2.2 (fun dm dn dt=>dl (dm,dn,dt)) (fun k=>ck (l+k.1) fun du=>ë ((ile 0 a)&&(ilt a (ă k.2))) (ĩ k.2 (Int.toNat a) fun ee=>ck (a+(1:Int)) fun dv=>h (Ea f du) dv (List.set k.2 (Int.toNat a) false)))) (dk,(0:Int),v.2))) (df,(0:Int),(List.set c (Int.toNat a) true)))) ((0:Int),(0:Int))) (ò e n fun dw=>Â (Ë d dw (0:Int)) fun eh=>ck (n+1) fun ej=>none))))))) (y (f,c))
def s7 (e:Val ab) (f:Int) (g:Val ak) (c:Val am) (b:Int) (a:Int) (d:Int→Int→Option ρ) (h:Int→Option ρ):Option ρ :=
  ifb (ilt a f) (ò e a fun i=>ë ((ile 0 a)&&(ilt a (ă c))) (ĩ c (Int.toNat a) fun j=>ifb (!j) (Â (Ë g (0:Int) i) fun k=>ck (b+k) fun l=>ck (a+(1:Int)) fun m=>d l m) (ck (a+(1:Int)) fun n=>d b n))) (h b)
def sZ (e:Val ab) (f:Int) (g:Val ak) (c:Val am) (b:Int) (a:Int) (d:Int→Int→Option ρ) (h:Int→Option ρ):Option ρ :=
  ifb (ilt a f) (ò e a fun i=>ë ((ile 0 a)&&(ilt a (ă c))) (ĩ c (Int.toNat a) fun j=>ifb (!j) (Â (Ë g (0:Int) i) fun k=>ck (b+k) fun l=>ck (a+(1:Int)) fun m=>d l m) (ck (a+(1:Int)) fun n=>d b n))) (h b)
def sY (e:Val ab) (f:Int) (g:Val ak) (c:Val am) (b:Int) (a:Int) (d:Int→Int→Option ρ) (h:Int→Option ρ):Option ρ :=
  ifb (ilt a f) (ò e a fun i=>ë ((ile 0 a)&&(ilt a (ă c))) (ĩ c (Int.toNat a) fun j=>ifb (!j) (Â (Ë g (0:Int) i) fun k=>ck (b+k) fun l=>ck (a+(1:Int)) fun m=>d l m) (ck (a+(1:Int)) fun n=>d b n))) (h b)
def sW (e:Val ab) (f:Int) (g:Val ak) (c:Val am) (b:Int) (a:Int) (d:Int→Int→Option ρ) (h:Int→Option ρ):Option ρ :=
  ifb (ilt a f) (ò e a fun i=>ë ((ile 0 a)&&(ilt a (ă c))) (ĩ c (Int.toNat a) fun j=>ifb (!j) (Â (Ë g (0:Int) i) fun k=>ck (b+k) fun l=>ck (a+(1:Int)) fun m=>d l m) (ck (a+(1:Int)) fun n=>d b n))) (h b)
def sX (g:Int) (k:Val ab) (l:Int) (c:Val ak) (d:Val ab) (h:Val ab) (e:Int) (a:Int) (b:Val am) (i:Int→Int→Val am→Option ρ) (m:(Val (.pair tI am))→Option ρ):Option ρ :=
  ifb (ilt a l) (ò k a fun n=>ë ((ile 0 a)&&(ilt a (ă b))) (ĩ b (Int.toNat a) fun o=>ifb o (ck (a+(1:Int)) fun p=>i e p b) (ë ((ile 0 a)&&(ilt a (ă b))) (ĩ b (Int.toNat a) fun z=>ò d g fun q=>Â (Ë c q n) fun r=>ck (g+(1:Int)) fun f=>ifb (ieq f (Õ d)) (Ï (fun(j:Val Ã) s=>sW h (Õ h) c (List.set b (Int.toNat a) true) j.1 j.2 (fun t u=>s (t,u)) (fun v=>ck (r+v) fun w=>ë ((ile 0 a)&&(ilt a (ă (List.set b (Int.toNat a) true)))) (ĩ (List.set b (Int.toNat a) true) (Int.toNat a) fun A=>ck (a+(1:Int)) fun x=>i (Ea e w) x (List.set (List.set b (Int.toNat a) true) (Int.toNat a) false)))) ((0:Int),(0:Int))) (ò d f fun y=>Â (Ë c y (0:Int)) fun B=>ck (f+1) fun C=>none))))) (m (e,b))
def l6 (l:Int) (p:Val ab) (q:Int) (d:Val ak) (e:Val ab) (c:Val ab) (f:Int) (a:Int) (b:Val am) (i:Int→Int→Val am→Option ρ) (r:(Val (.pair tI am))→Option ρ):Option ρ :=
  ifb (ilt a q) (ò p a fun s=>ë ((ile 0 a)&&(ilt a (ă b))) (ĩ b (Int.toNat a) fun t=>ifb t (ck (a+(1:Int)) fun u=>i f u b) (ë ((ile 0 a)&&(ilt a (ă b))) (ĩ b (Int.toNat a) fun Q=>ò e l fun v=>Â (Ë d v s) fun m=>ck (l+(1:Int)) fun g=>ifb (ieq g (Õ e)) (Ï (fun(n:Val Ã) w=>sZ c (Õ c) d (List.set b (Int.toNat a) true) n.1 n.2 (fun x y=>w (x,y)) (fun z=>ck (m+z) fun A=>ë ((ile 0 a)&&(ilt a (ă (List.set b (Int.toNat a) true)))) (ĩ (List.set b (Int.toNat a) true) (Int.toNat a) fun R=>ck (a+(1:Int)) fun B=>i (Ea f A) B (List.set (List.set b (Int.toNat a) true) (Int.toNat a) false)))) ((0:Int),(0:Int))) (ò e g fun C=>Â (Ë d C (0:Int)) fun D=>ck (g+1) fun j=>ifb (ieq j (Õ e)) (Ï (fun(o:Val Ã) E=>sY c (Õ c) d (List.set b (Int.toNat a) true) o.1 o.2 (fun F G=>E (F,G)) (fun H=>ck (D+H) fun I=>Ï (fun(k:Val aD) J=>sX g c (Õ c) d e c k.1 k.2.1 k.2.2 (fun K L M=>J (K,L,M)) (fun h=>ck (m+h.1) fun N=>ë ((ile 0 a)&&(ilt a (ă h.2))) (ĩ h.2 (Int.toNat a) fun S=>ck (a+(1:Int)) fun O=>i (Ea f N) O (List.set h.2 (Int.toNat a) false)))) (I,(0:Int),(List.set b (Int.toNat a) true)))) ((0:Int),(0:Int))) (ò e j fun P=>Â (Ë d P (0:Int)) fun T=>ck (j+1) fun U=>none)))))) (r (f,b))
def sV (e:Val ab) (f:Int) (g:Val ak) (c:Val am) (b:Int) (a:Int) (d:Int→Int→Option ρ) (h:Int→Option ρ):Option ρ :=
  ifb (ilt a f) (ò e a fun i=>ë ((ile 0 a)&&(ilt a (ă c))) (ĩ c (Int.toNat a) fun j=>ifb (!j) (Â (Ë g (0:Int) i) fun k=>ck (b+k) fun l=>ck (a+(1:Int)) fun m=>d l m) (ck (a+(1:Int)) fun n=>d b n))) (h b)
def sT (e:Val ab) (f:Int) (g:Val ak) (c:Val am) (b:Int) (a:Int) (d:Int→Int→Option ρ) (h:Int→Option ρ):Option ρ :=
  ifb (ilt a f) (ò e a fun i=>ë ((ile 0 a)&&(ilt a (ă c))) (ĩ c (Int.toNat a) fun j=>ifb (!j) (Â (Ë g (0:Int) i) fun k=>ck (b+k) fun l=>ck (a+(1:Int)) fun m=>d l m) (ck (a+(1:Int)) fun n=>d b n))) (h b)
def sU (g:Int) (k:Val ab) (l:Int) (c:Val ak) (d:Val ab) (h:Val ab) (e:Int) (a:Int) (b:Val am) (i:Int→Int→Val am→Option ρ) (m:(Val (.pair tI am))→Option ρ):Option ρ :=
  ifb (ilt a l) (ò k a fun n=>ë ((ile 0 a)&&(ilt a (ă b))) (ĩ b (Int.toNat a) fun o=>ifb o (ck (a+(1:Int)) fun p=>i e p b) (ë ((ile 0 a)&&(ilt a (ă b))) (ĩ b (Int.toNat a) fun z=>ò d g fun q=>Â (Ë c q n) fun r=>ck (g+(1:Int)) fun f=>ifb (ieq f (Õ d)) (Ï (fun(j:Val Ã) s=>sT h (Õ h) c (List.set b (Int.toNat a) true) j.1 j.2 (fun t u=>s (t,u)) (fun v=>ck (r+v) fun w=>ë ((ile 0 a)&&(ilt a (ă (List.set b (Int.toNat a) true)))) (ĩ (List.set b (Int.toNat a) true) (Int.toNat a) fun A=>ck (a+(1:Int)) fun x=>i (Ea e w) x (List.set (List.set b (Int.toNat a) true) (Int.toNat a) false)))) ((0:Int),(0:Int))) (ò d f fun y=>Â (Ë c y (0:Int)) fun B=>ck (f+1) fun C=>none))))) (m (e,b))
def FN (b:Val ak) (c:Val ab) (a:Val ab) (k:Int→Option ρ):Option ρ :=
  ë ((ile 0 (Õ a))&&(ì (Int.toNat (Õ a)))) (ifb (ieq 0 (Õ c)) (Ï (fun(l:Val Ã) t=>iR a (Õ a) b (List.replicate (Int.toNat (Õ a)) false) l.1 l.2 (fun u v=>t (u,v)) (fun w=>k w)) ((0:Int),(0:Int))) (ò c (0:Int) fun x=>Â (Ë b x (0:Int)) fun d=>ifb (ieq 1 (Õ c)) (Ï (fun(m:Val Ã) y=>wy a (Õ a) b (List.replicate (Int.toNat (Õ a)) false) m.1 m.2 (fun z A=>y (z,A)) (fun B=>ck (d+B) fun C=>Ï (fun(e:Val aD) D=>j2 (0:Int) a (Õ a) b c a e.1 e.2.1 e.2.2 (fun E F G=>D (E,F,G)) (fun H=>k H.1)) (C,(0:Int),(List.replicate (Int.toNat (Õ a)) false)))) ((0:Int),(0:Int))) (ò c (1:Int) fun I=>Â (Ë b I (0:Int)) fun n=>ifb (ieq 2 (Õ c)) (Ï (fun(o:Val Ã) J=>s7 a (Õ a) b (List.replicate (Int.toNat (Õ a)) false) o.1 o.2 (fun K L=>J (K,L)) (fun M=>ck (n+M) fun N=>Ï (fun(f:Val aD) O=>l6 (1:Int) a (Õ a) b c a f.1 f.2.1 f.2.2 (fun P Q R=>O (P,Q,R)) (fun p=>ck (d+p.1) fun S=>Ï (fun(g:Val aD) T=>j2 (0:Int) a (Õ a) b c a g.1 g.2.1 g.2.2 (fun U V W=>T (U,V,W)) (fun X=>k X.1)) (S,(0:Int),p.2))) (N,(0:Int),(List.replicate (Int.toNat (Õ a)) false)))) ((0:Int),(0:Int))) (ò c (2:Int) fun Y=>Â (Ë b Y (0:Int)) fun Z=>ifb (ieq 3 (Õ c)) (Ï (fun(q:Val Ã) dc=>sV a (Õ a) b (List.replicate (Int.toNat (Õ a)) false) q.1 q.2 (fun df dg=>dc (df,dg)) (fun dh=>ck (Z+dh) fun di=>Ï (fun(h:Val aD) dj=>sU (2:Int) a (Õ a) b c a h.1 h.2.1 h.2.2 (fun dk dl dm=>dj (dk,dl,dm)) (fun r=>ck (n+r.1) fun dn=>Ï (fun(i:Val aD) dt=>l6 (1:Int) a (Õ a) b c a i.1 i.2.1 i.2.2 (fun du dv dw=>dt (du,dv,dw)) (fun s=>ck (d+s.1) fun dz=>Ï (fun(j:Val aD) d8=>j2 (0:Int) a (Õ a) b c a j.1 j.2.1 j.2.2 (fun d9 ee eh=>d8 (d9,ee,eh)) (fun ej=>k ej.1)) (dz,(0:Int),s.2))) (dn,(0:Int),r.2))) (di,(0:Int),(List.replicate (Int.toNat (Õ a)) false)))) ((0:Int),(0:Int))) (ò c (3:Int) fun eo=>Â (Ë b eo (0:Int)) fun er=>none)))))
def Τ (a:Val ak) (b:Val ab) (c:Val ab):Option (Int):=FN a b c some
def la (b:Val ab) (c:Int) (d:Val ab) (a:Int) (e:Int→Option ρ) (f:Int→Option ρ) (g:Unit→Option ρ):Option ρ :=
  ifb (ilt a c) (ò b a fun h=>Â (Ĕ d h) fun i=>ifb i (f a) (ck (a+(1:Int)) fun j=>e j)) (g ())
def kZ (l:Val aa) (m:Int) (i:Int) (b:Int) (c:Int) (d:Val ae) (e:Val aa) (f:Val af) (g:Val ac) (h:Val aa) (j:Int→Int→Int→Val ae→Val aa→Val af→Val ac→Val aa→Option ρ) (n:Val aF→Option ρ) (o:Val ah→Option ρ):Option ρ :=
  ifb (ilt i m) (ò l i fun k=>Â (Ģ ((b,c),d,e,f,g,h) k) fun p=>ifb (ieq p.2 0) (ck (i+(1:Int)) fun q=>j q b c d e f g h) (Â (Ÿ ((b,c),d,e,f,g,h) k) fun a=>ifb (ine a.2 0) (n (a.2,b,c,d,e,f,g,h)) (ck (i+(1:Int)) fun r=>j r a.1.1.1 a.1.1.2 a.1.2.1 a.1.2.2.1 a.1.2.2.2.1 a.1.2.2.2.2.1 a.1.2.2.2.2.2))) (o (b,c,d,e,f,g,h))
def iz (d:Val ak) (e:Val aa) (f:Int) (a:Int) (b:Val ab) (g:Int→Val ab→Option ρ) (h:Val ab→Option ρ):Option ρ :=
  ifb (ilt a f) (ò e a fun i=>Â (Š d i) fun c=>ë (ì ((List.length b)+(List.length ([c])))) (ck (a+(1:Int)) fun j=>g j (b++([c])))) (h b)
def n0 (d:Val ak) (e:Val aa) (f:Int) (a:Int) (b:Val ab) (g:Int→Val ab→Option ρ) (h:Val ab→Option ρ):Option ρ :=
  ifb (ilt a f) (ò e a fun i=>Â (Š d i) fun c=>ë (ì ((List.length b)+(List.length ([c])))) (ck (a+(1:Int)) fun j=>g j (b++([c])))) (h b)
def Jn (a:Val Ä) (e:Int) (b:Val ab) (f:Val ab) (k:Val ħ→Option ρ):Option ρ :=
  Â (ó a) fun n=>ifb (ine n 0) (k (((0:Int),(0:Int)),n)) (Ï (fun(I:Int) J=>la b (Õ b) f I (fun K=>J K) (fun L=>Â (rz b (3:Int)) fun M=>ifb (!M) (k (((0:Int),(0:Int)),(1:Int))) (Â (rz f (3:Int)) fun N=>ifb (!N) (k (((0:Int),(0:Int)),(1:Int))) (ck ((Õ b)+(Õ f)) fun O=>ifb (ieq O 0) (k (((0:Int),(0:Int)),(1:Int))) (ifb (ige L 0) (k (((0:Int),(0:Int)),(1:Int))) (Â (ud e) fun P=>ifb (!P) (k (((0:Int),(0:Int)),(1:Int))) (Â (š e ([b,f])) fun o=>Â (ó a) fun l=>ifb (ine l 0) (ifb (ine l 0) (k (((0:Int),(0:Int)),l)) (Â (š e ([b])) fun gg=>none)) (Ï (fun(g:Val aF) Q=>kZ o (Õ o) g.1 g.2.1 g.2.2.1 g.2.2.2.1 g.2.2.2.2.1 g.2.2.2.2.2.1 g.2.2.2.2.2.2.1 g.2.2.2.2.2.2.2 (fun R S T U V W X Y=>Q (R,S,T,U,V,W,X,Y)) (fun p=>ifb (ine p.1 0) (k (((0:Int),(0:Int)),p.1)) (Â (š e ([b])) fun gh=>none)) (fun c=>Â (ē ((c.1,c.2.1),c.2.2)) fun h=>ifb (ine h.2.2 0) (ifb (ine h.2.2 0) (k (((0:Int),(0:Int)),h.2.2)) (Â (š e ([b])) fun gi=>none)) (Â (ā h.1) fun Z=>ifb (!Z.1) (k (((0:Int),(0:Int)),(9:Int))) (Â (š e ([b])) fun q=>Ï (fun(r:Val ay) dc=>iz (((c.1,c.2.1),c.2.2),h.1) q (Õ q) r.1 r.2 (fun df dg=>dc (df,dg)) (fun s=>Â (š e ([f])) fun t=>Ï (fun(u:Val ay) dh=>n0 (((c.1,c.2.1),c.2.2),h.1) t (Õ t) u.1 u.2 (fun di dj=>dh (di,dj)) (fun v=>ck ((Õ b)-(1:Int)) fun w=>ck ((Õ f)-(1:Int)) fun x=>ck ((Ek (0:Int) w)*a.1.1) fun dk=>ck ((Ek (0:Int) x)*a.1.2) fun dl=>ck (dk-dl) fun dm=>Â (Τ (((c.1,c.2.1),c.2.2),h.1) v s) fun dn=>ck (dm-dn) fun dt=>ck ((Ek (0:Int) w)*a.1.2) fun du=>ck ((Ek (0:Int) x)*a.1.1) fun dv=>ck (du-dv) fun dw=>Â (Τ (((c.1,c.2.1),c.2.2),h.1) s v) fun dz=>ck (dw+dz) fun d8=>k ((dt,d8),(0:Int)))) ((0:Int),[]))) ((0:Int),[]))))) ((0:Int),a.1.1,a.1.2,a.2.1,a.2.2.1,a.2.2.2.1,a.2.2.2.2.1,a.2.2.2.2.2)))))))) (fun _=>Â (rz b (3:Int)) fun d9=>ifb (!d9) (k (((0:Int),(0:Int)),(1:Int))) (Â (rz f (3:Int)) fun ee=>ifb (!ee) (k (((0:Int),(0:Int)),(1:Int))) (ck ((Õ b)+(Õ f)) fun eh=>ifb (ieq eh 0) (k (((0:Int),(0:Int)),(1:Int))) (Â (ud e) fun ej=>ifb (!ej) (k (((0:Int),(0:Int)),(1:Int))) (Â (š e ([b,f])) fun y=>Â (ó a) fun m=>ifb (ine m 0) (ifb (ine m 0) (k (((0:Int),(0:Int)),m)) (Â (š e ([b])) fun gj=>none)) (Ï (fun(i:Val aF) eo=>kZ y (Õ y) i.1 i.2.1 i.2.2.1 i.2.2.2.1 i.2.2.2.2.1 i.2.2.2.2.2.1 i.2.2.2.2.2.2.1 i.2.2.2.2.2.2.2 (fun er ez fc fe ff fg fh fi=>eo (er,ez,fc,fe,ff,fg,fh,fi)) (fun z=>ifb (ine z.1 0) (k (((0:Int),(0:Int)),z.1)) (Â (š e ([b])) fun gk=>none)) (fun d=>Â (ē ((d.1,d.2.1),d.2.2)) fun j=>ifb (ine j.2.2 0) (ifb (ine j.2.2 0) (k (((0:Int),(0:Int)),j.2.2)) (Â (š e ([b])) fun gn=>none)) (Â (ā j.1) fun fj=>ifb (!fj.1) (k (((0:Int),(0:Int)),(9:Int))) (Â (š e ([b])) fun A=>Ï (fun(B:Val ay) fk=>iz (((d.1,d.2.1),d.2.2),j.1) A (Õ A) B.1 B.2 (fun fm fo=>fk (fm,fo)) (fun C=>Â (š e ([f])) fun D=>Ï (fun(E:Val ay) fp=>n0 (((d.1,d.2.1),d.2.2),j.1) D (Õ D) E.1 E.2 (fun fq ft=>fp (fq,ft)) (fun F=>ck ((Õ b)-(1:Int)) fun G=>ck ((Õ f)-(1:Int)) fun H=>ck ((Ek (0:Int) G)*a.1.1) fun fu=>ck ((Ek (0:Int) H)*a.1.2) fun fw=>ck (fu-fw) fun f0=>Â (Τ (((d.1,d.2.1),d.2.2),j.1) F C) fun f5=>ck (f0-f5) fun f6=>ck ((Ek (0:Int) G)*a.1.2) fun f7=>ck ((Ek (0:Int) H)*a.1.1) fun f8=>ck (f7-f8) fun f9=>Â (Τ (((d.1,d.2.1),d.2.2),j.1) C F) fun gc=>ck (f9+gc) fun gd=>k ((f6,gd),(0:Int)))) ((0:Int),[]))) ((0:Int),[]))))) ((0:Int),a.1.1,a.1.2,a.2.1,a.2.2.1,a.2.2.2.1,a.2.2.2.2.1,a.2.2.2.2.2)))))))) (0:Int))
def oG (a:Val Ä) (b:Int) (c:Val ab) (d:Val ab):Option (Val ħ):=Jn a b c d some
def mK (j:Val aa) (i:Int) (b:Int) (c:Int) (d:Val ae) (e:Val aa) (f:Val af) (g:Val ac) (h:Val aa) (k:Int) (l:Int) (m:Val ae) (n:Val aa) (o:Val af) (p:Val ac) (q:Val aa) (r:Int→Int→Int→Val ae→Val aa→Val af→Val ac→Val aa→Int→Int→Val ae→Val aa→Val af→Val ac→Val aa→Option ρ) (s:(Val (.pair .bool aC))→Option ρ) (t:Val aC→Option ρ):Option ρ :=
  ifb (ilt i (Õ j)) (ò j i fun u=>Â (Ģ ((b,c),d,e,f,g,h) u) fun v=>ifb (ieq v.2 0) (ck (i+(1:Int)) fun w=>r w b c d e f g h k l m n o p q) (ò j i fun x=>Â (Ÿ ((b,c),d,e,f,g,h) x) fun a=>ifb (ine a.2 0) (s (false,b,c,d,e,f,g,h,b,c,d,e,f,g,h)) (ck (i+(1:Int)) fun y=>r y a.1.1.1 a.1.1.2 a.1.2.1 a.1.2.2.1 a.1.2.2.2.1 a.1.2.2.2.2.1 a.1.2.2.2.2.2 k l m n o p q))) (t (b,c,d,e,f,g,h,k,l,m,n,o,p,q))
def EZ (b:Val Ä) (e:Val aa) (k:(Val (.pair Ä .bool))→Option ρ):Option ρ :=
  Ï (fun(a:(Val (.pair tI aC))) f=>mK e a.1 a.2.1 a.2.2.1 a.2.2.2.1 a.2.2.2.2.1 a.2.2.2.2.2.1 a.2.2.2.2.2.2.1 a.2.2.2.2.2.2.2.1 a.2.2.2.2.2.2.2.2.1 a.2.2.2.2.2.2.2.2.2.1 a.2.2.2.2.2.2.2.2.2.2.1 a.2.2.2.2.2.2.2.2.2.2.2.1 a.2.2.2.2.2.2.2.2.2.2.2.2.1 a.2.2.2.2.2.2.2.2.2.2.2.2.2.1 a.2.2.2.2.2.2.2.2.2.2.2.2.2.2 (fun g h i j l m n o p q r s t u v=>f (g,h,i,j,l,m,n,o,p,q,r,s,t,u,v)) (fun d=>k (((d.2.2.2.2.2.2.2.2.1,d.2.2.2.2.2.2.2.2.2.1),d.2.2.2.2.2.2.2.2.2.2),d.1)) (fun c=>k (((c.1,c.2.1),c.2.2.1,c.2.2.2.1,c.2.2.2.2.1,c.2.2.2.2.2.1,c.2.2.2.2.2.2.1),true))) ((0:Int),b.1.1,b.1.2,b.2.1,b.2.2.1,b.2.2.2.1,b.2.2.2.2.1,b.2.2.2.2.2,(0:Int),(0:Int),[],[],[],[],[])
def Œ (a:Val Ä) (b:Val aa):Option ((Val (.pair Ä .bool))):=EZ a b some
def WZ (a:Val Ä) (b:Val Ä) (k:Val aS→Option ρ):Option ρ :=
  Â (ó a) fun c=>ifb (ine c 0) (k (false,c)) (Â (ó b) fun d=>ifb (ine d 0) (k (false,d)) (Â (Ak a b) fun e=>k (e,(0:Int))))
def Ĺ (a:Val Ä) (b:Val Ä):Option ((Val aS)):=WZ a b some
def xA (a:Val Ã) (b:Int) (c:Int) (k:Bool→Option ρ):Option ρ :=
  ifb (ile b a.1) (ifb (ile a.1 a.2) (k (ile a.2 c)) (k false)) (k false)
def jo (a:Val Ã) (b:Int) (c:Int):Option (Bool):=xA a b c some
def acP (a:Int) (b:Int) (c:Int) (k:Bool→Option ρ):Option ρ :=
  ifb (ige a b) (k (ile a c)) (k false)
def lm (a:Int) (b:Int) (c:Int):Option (Bool):=acP a b c some
def Wv (a:Int) (k:Bool→Option ρ):Option ρ :=
  Â (lm a (0:Int) (20000:Int)) fun b=>k b
def vQ (a:Int):Option (Bool):=Wv a some
def uQ (b:Int) (a:Int) (c:Int→Int→Option ρ) (d:Int→Option ρ):Option ρ :=
  ifb (ine a 0) (ifb (Ħ a 0) (none) (c a (Int.tmod b a))) (d b)
def WF (b:Int) (c:Int) (k:Int→Option ρ):Option ρ :=
  Ï (fun(a:Val Ã) d=>uQ a.1 a.2 (fun e f=>d (e,f)) (fun g=>k g)) (b,c)
def Ai (a:Int) (b:Int):Option (Int):=WF a b some
def WJ (a:Int) (k:Int→Option ρ):Option ρ :=
  ifb (ilt a 0) (ck ((0:Int)-a) fun b=>k b) (k a)
def HP (a:Int):Option (Int):=WJ a some
def I3 (a:Val Ã) (k:Bool→Option ρ):Option ρ :=
  ifb (ilt a.2 1) (k false) (ifb (igt a.2 2147483647) (k false) (ifb (ilt a.1 (-2147483647:Int)) (k false) (ifb (igt a.1 2147483647) (k false) (Â (HP a.1) fun b=>Â (Ai b a.2) fun c=>k (ieq c 1)))))
def Ag (a:Val Ã):Option (Bool):=I3 a some
def IV (a:Val Ð) (k:Bool→Option ρ):Option ρ :=
  Â (Ag a.2.2.2.2.1) fun b=>ifb (!b) (k false) (Â (lm a.2.2.2.2.1.1 (-1000:Int) (1000:Int)) fun c=>ifb (!c) (k false) (ifb (igt a.2.2.2.2.1.2 100) (k false) (Â (lm a.1 (1:Int) (1099511627776:Int)) fun d=>ifb d (Â (vQ a.2.1) fun e=>ifb e (Â (lm a.2.2.1 (1:Int) (1125899906842624:Int)) fun f=>ifb f (Â (jo a.2.2.2.1 (-1073741824:Int) (1073741824:Int)) fun g=>ifb g (Â (lm a.2.2.2.2.2 (0:Int) (1048576:Int)) fun h=>k h) (k false)) (k false)) (k false)) (k false))))
def Ad (a:Val Ð):Option (Bool):=IV a some
def qA (c:Int) (b:Val ae) (a:Int) (d:Int→Option ρ) (e:Int→Option ρ) (f:Unit→Option ρ):Option ρ :=
  ifb (ilt a (Õ b)) (ò b a fun g=>ifb (ieq g.1 c) (e a) (ck (a+(1:Int)) fun h=>d h)) (f ())
def O1 (a:Val Ä) (b:Int) (k:Int→Option ρ):Option ρ :=
  Ï (fun(c:Int) d=>qA b a.2.1 c (fun e=>d e) (fun f=>k f) (fun _=>k (-1:Int))) (0:Int)
def pK (a:Val Ä) (b:Int):Option (Int):=O1 a b some
def IX (a:Val Ä) (c:Int) (d:Int) (k:Int→Option ρ):Option ρ :=
  Â (pK a c) fun b=>ifb (ilt b 0) (k (5:Int)) (ò a.2.1 b fun e=>ifb (ilt d e.2.1) (k (4:Int)) (k (0:Int)))
def mi (a:Val Ä) (b:Int) (c:Int):Option (Int):=IX a b c some
def qp (e:Int) (f:Int) (g:Val ae) (a:Val aa) (h:Val af) (i:Val ac) (j:Val aa) (b:Int) (k:Int→Option ρ) (c:Int→Option ρ) (l:Unit→Option ρ):Option ρ :=
  ifb (ilt b (Õ a)) (ò a b fun m=>Â (vQ m.2) fun n=>ifb (!n) (c (1:Int)) (ò a b fun o=>ò a b fun p=>Â (mi ((e,f),g,a,h,i,j) o.1 p.2) fun d=>ifb (ine d 0) (c d) (ck (b+(1:Int)) fun q=>k q))) (l ())
def Ox (a:Val Ä) (k:Int→Option ρ):Option ρ :=
  Ï (fun(b:Int) c=>qp a.1.1 a.1.2 a.2.1 a.2.2.1 a.2.2.2.1 a.2.2.2.2.1 a.2.2.2.2.2 b (fun d=>c d) (fun e=>k e) (fun _=>k (0:Int))) (0:Int)
def HK (a:Val Ä):Option (Int):=Ox a some
def nQ (d:Int) (b:Val af) (e:Int) (f:Int) (g:Int) (a:Int) (c:Int→Option ρ) (h:Int→Option ρ) (i:Unit→Option ρ):Option ρ :=
  ifb (ilt a d) (ò b a fun j=>ifb (ieq j.1 e) (ò b a fun k=>ifb (ile k.2.1.1 g) (ò b a fun l=>ifb (ile f l.2.1.2) (h (9:Int)) (ck (a+(1:Int)) fun m=>c m)) (ck (a+(1:Int)) fun n=>c n)) (ck (a+(1:Int)) fun o=>c o)) (i ())
def kV (b:Val aa) (d:Int) (e:Int) (f:Int) (a:Int) (c:Int→Option ρ) (g:Int→Option ρ) (h:Unit→Option ρ):Option ρ :=
  ifb (ilt a (Õ b)) (ò b a fun i=>ifb (ieq i.1 d) (ò b a fun j=>Â (lm j.2 e f) fun k=>ifb k (g (9:Int)) (ck (a+(1:Int)) fun l=>c l)) (ck (a+(1:Int)) fun m=>c m)) (h ())
def nR (g:Int) (h:Int) (i:Val ae) (e:Val aa) (c:Val af) (j:Val ac) (k:Val aa) (d:Int) (l:Int→Option ρ) (b:Int→Option ρ) (m:Unit→Option ρ):Option ρ :=
  ifb (ilt d (Õ c)) (ò c d fun a=>Â (jo a.2.1 (0:Int) (20000:Int)) fun n=>ifb (!n) (b (1:Int)) (Â (lm a.2.2 (0:Int) (1048576:Int)) fun o=>ifb (!o) (b (1:Int)) (Â (mi ((g,h),i,e,c,j,k) a.1 a.2.1.1) fun f=>ifb (ine f 0) (b f) (Ï (fun(p:Int) q=>nQ d c a.1 a.2.1.1 a.2.1.2 p (fun r=>q r) (fun s=>b s) (fun _=>Ï (fun(t:Int) u=>kV e a.1 a.2.1.1 a.2.1.2 t (fun v=>u v) (fun w=>b w) (fun _=>ck (d+(1:Int)) fun x=>l x)) (0:Int))) (0:Int))))) (m ())
def IT (a:Val Ä) (k:Int→Option ρ):Option ρ :=
  Ï (fun(b:Int) c=>nR a.1.1 a.1.2 a.2.1 a.2.2.1 a.2.2.2.1 a.2.2.2.2.1 a.2.2.2.2.2 b (fun d=>c d) (fun e=>k e) (fun _=>k (0:Int))) (0:Int)
def Ac (a:Val Ä):Option (Int):=IT a some
def qw (b:Val ab) (a:Int) (c:Int→Option ρ) (d:Bool→Option ρ) (e:Unit→Option ρ):Option ρ :=
  ifb (ilt a (Õ b)) (ò b a fun f=>Â (lm f (1:Int) (1099511627776:Int)) fun g=>ifb (!g) (d false) (ifb (igt a 0) (ò b a fun h=>ck (a-(1:Int)) fun i=>ò b i fun j=>ifb (ile h j) (d false) (ck (a+(1:Int)) fun k=>c k)) (ck (a+(1:Int)) fun l=>c l))) (e ())
def OL (a:Val ab) (k:Bool→Option ρ):Option ρ :=
  Ï (fun(b:Int) c=>qw a b (fun d=>c d) (fun e=>k e) (fun _=>k (ile (Õ a) 6))) (0:Int)
def zh (a:Val ab):Option (Bool):=OL a some
def IR (a:Val Ì) (k:Bool→Option ρ):Option ρ :=
  Â (zh a.2.2.1) fun b=>Â (zh a.2.2.2.1) fun c=>ifb b (ifb c (Â (lm a.1 (1:Int) (1099511627776:Int)) fun d=>ifb d (Â (vQ a.2.1) fun e=>ifb e (Â (lm a.2.2.2.2.1 (-1125899906842624:Int) (1125899906842624:Int)) fun f=>ifb f (Â (lm a.2.2.2.2.2.1 (0:Int) (1073741824:Int)) fun g=>ifb g (Â (jo a.2.2.2.2.2.2 (-10000:Int) (10000:Int)) fun h=>k h) (k false)) (k false)) (k false)) (k false)) (k false)) (k false)
def Ab (a:Val Ì):Option (Bool):=IR a some
def qy (j:Int) (h:Int) (i:Val af) (b:Int) (c:Int) (d:Int) (e:Int) (f:Int) (g:Int→Int→Int→Int→Int→Option ρ) (k:(Val (.pair .bool (.pair tI Ą)))→Option ρ) (l:(Val (.pair tI Ą))→Option ρ):Option ρ :=
  ifb (ilt b (Õ i)) (ò i b fun a=>ifb (ieq a.1 j) (ifb (ile a.2.1.1 h) (ifb (ile h a.2.1.2) (k (true,a.1,a.2.1.1,a.2.1.2,a.2.2)) (ck (b+(1:Int)) fun m=>g m c d e f)) (ck (b+(1:Int)) fun n=>g n c d e f)) (ck (b+(1:Int)) fun o=>g o c d e f)) (l (c,d,e,f))
def OU (c:Val Ä) (d:Int) (e:Int) (k:Val bf→Option ρ):Option ρ :=
  Ï (fun(a:Val bi) f=>qy d e c.2.2.2.1 a.1 a.2.1 a.2.2.1 a.2.2.2.1 a.2.2.2.2 (fun g h i j l=>f (g,h,i,j,l)) (fun b=>k ((b.2.1,(b.2.2.1,b.2.2.2.1),b.2.2.2.2),b.1)) (fun m=>k (((0:Int),((0:Int),(0:Int)),(0:Int)),false))) ((0:Int),(0:Int),(0:Int),(0:Int),(0:Int))
def zi (a:Val Ä) (b:Int) (c:Int):Option ((Val bf)):=OU a b c some
def uP (b:Val ab) (c:Int) (a:Int) (d:Int→Option ρ) (e:Bool→Option ρ) (f:Unit→Option ρ):Option ρ :=
  ifb (ilt a (Õ b)) (ò b a fun g=>ifb (ieq g c) (e true) (ck (a+(1:Int)) fun h=>d h)) (f ())
def Ws (a:Val ab) (b:Int) (k:Bool→Option ρ):Option ρ :=
  Ï (fun(c:Int) d=>uP a b c (fun e=>d e) (fun f=>k f) (fun _=>k false)) (0:Int)
def Nw (a:Val ab) (b:Int):Option (Bool):=Ws a b some
def qz (c:Val ab) (f:Val ab) (a:Int) (b:Val ab) (d:Int→Val ab→Option ρ) (g:Val ab→Option ρ):Option ρ :=
  ifb (ilt a (Õ c)) (ò c a fun h=>Â (Nw f h) fun i=>ifb (!i) (ò c a fun e=>ë (ì ((List.length b)+(List.length ([e])))) (ck (a+(1:Int)) fun j=>d j (b++([e])))) (ck (a+(1:Int)) fun k=>d k b)) (g b)
def OW (b:Val ab) (c:Val ab) (k:Val ab→Option ρ):Option ρ :=
  Ï (fun(a:Val ay) d=>qz b c a.1 a.2 (fun e f=>d (e,f)) (fun g=>k g)) ((0:Int),[])
def jR (a:Val ab) (b:Val ab):Option ((Val ab)):=OW a b some
def jZ (c:Int) (d:Int) (e:Val ae) (f:Val aa) (g:Val af) (h:Val ac) (i:Val aa) (b:Val ab) (a:Int) (j:Int→Option ρ) (k:Int→Option ρ) (l:Unit→Option ρ):Option ρ :=
  ifb (ilt a (Õ b)) (ë ((ile 0 a)&&(ilt a (ă b))) (ĩ b (Int.toNat a) fun m=>Â (pK ((c,d),e,f,g,h,i) m) fun n=>ifb (ilt n 0) (k (5:Int)) (ck (a+(1:Int)) fun o=>j o))) (l ())
def iQ (c:Int) (d:Int) (e:Val ae) (f:Val aa) (g:Val af) (h:Val ac) (i:Val aa) (j:Int) (b:Val ab) (a:Int) (k:Int→Option ρ) (l:Int→Option ρ) (m:Unit→Option ρ):Option ρ :=
  ifb (ilt a (Õ b)) (ë ((ile 0 a)&&(ilt a (ă b))) (ĩ b (Int.toNat a) fun n=>Â (mi ((c,d),e,f,g,h,i) n j) fun o=>ifb (ine o 0) (l (4:Int)) (ck (a+(1:Int)) fun p=>k p))) (m ())
def Ζ (c:Int) (d:Int) (e:Val ae) (f:Val aa) (g:Val af) (h:Val ac) (i:Val aa) (j:Int) (b:Val ab) (a:Int) (k:Int→Option ρ) (l:Int→Option ρ) (m:Unit→Option ρ):Option ρ :=
  ifb (ilt a (Õ b)) (ë ((ile 0 a)&&(ilt a (ă b))) (ĩ b (Int.toNat a) fun n=>Â (zi ((c,d),e,f,g,h,i) n j) fun o=>ifb o.2 (l (9:Int)) (ck (a+(1:Int)) fun p=>k p))) (m ())
def uL (a:Val Ä) (b:Val Ì) (k:Int→Option ρ):Option ρ :=
  ë (ì (0+(List.length b.2.2.1))) (ë (ì ((List.length (([])++b.2.2.1))+(List.length b.2.2.2.1))) (Ï (fun(e:Int) f=>jZ a.1.1 a.1.2 a.2.1 a.2.2.1 a.2.2.2.1 a.2.2.2.2.1 a.2.2.2.2.2 ((([])++b.2.2.1)++b.2.2.2.1) e (fun g=>f g) (fun h=>k h) (fun _=>Ï (fun(i:Int) j=>iQ a.1.1 a.1.2 a.2.1 a.2.2.1 a.2.2.2.1 a.2.2.2.2.1 a.2.2.2.2.2 b.2.1 ((([])++b.2.2.1)++b.2.2.2.1) i (fun l=>j l) (fun m=>k m) (fun _=>Ï (fun(n:Int) o=>Ζ a.1.1 a.1.2 a.2.1 a.2.2.1 a.2.2.2.1 a.2.2.2.2.1 a.2.2.2.2.2 b.2.1 ((([])++b.2.2.1)++b.2.2.2.1) n (fun p=>o p) (fun q=>k q) (fun _=>Â (jR b.2.2.1 b.2.2.2.1) fun c=>Â (jR b.2.2.2.1 b.2.2.1) fun d=>ifb (igt (Õ c) 1) (k (1:Int)) (ifb (igt (Õ d) 1) (k (1:Int)) (ck ((Õ c)+(Õ d)) fun r=>ifb (ieq r 0) (k (1:Int)) (k (0:Int)))))) (0:Int))) (0:Int))) (0:Int)))
def jC (a:Val Ä) (b:Val Ì):Option (Int):=uL a b some
def V7 (b:Val ab) (c:Val ab) (k:Int→Option ρ):Option ρ :=
  Â (jR b c) fun a=>ifb (ieq (Õ a) 0) (k (0:Int)) (ò a (0:Int) fun d=>k d)
def oh (a:Val ab) (b:Val ab):Option (Int):=V7 a b some
def qu (g:Int) (c:Val ac) (d:Int) (b:Int) (e:Int→Option ρ) (f:Bool→Option ρ) (h:Unit→Option ρ):Option ρ :=
  ifb (ilt b (Õ c)) (ò c b fun a=>ifb (ieq a.2.1 g) (Â (oh a.2.2.1 a.2.2.2.1) fun i=>ifb (ieq i d) (f true) (Â (oh a.2.2.2.1 a.2.2.1) fun j=>ifb (ieq j d) (f true) (ck (b+(1:Int)) fun k=>e k))) (ck (b+(1:Int)) fun l=>e l)) (h ())
def mQ (d:Int) (b:Val aa) (e:Int) (a:Int) (c:Int→Option ρ) (f:Bool→Option ρ) (g:Unit→Option ρ):Option ρ :=
  ifb (ilt a (Õ b)) (ò b a fun h=>ifb (ieq h.1 e) (ò b a fun i=>ifb (ieq i.2 d) (f true) (ck (a+(1:Int)) fun j=>c j)) (ck (a+(1:Int)) fun k=>c k)) (g ())
def OE (c:Val Ä) (a:Val Ð) (b:Int) (k:Bool→Option ρ):Option ρ :=
  ifb (ieq a.2.1 b) (k true) (Ï (fun(d:Int) e=>qu b c.2.2.2.2.1 a.1 d (fun f=>e f) (fun g=>k g) (fun _=>Ï (fun(h:Int) i=>mQ b c.2.2.2.2.2 a.1 h (fun j=>i j) (fun l=>k l) (fun _=>k false)) (0:Int))) (0:Int))
def HL (a:Val Ä) (b:Val Ð) (c:Int):Option (Bool):=OE a b c some
def nW (c:Val ae) (a:Int) (b:Val ab) (e:Int→Val ab→Option ρ) (f:Val ab→Option ρ):Option ρ :=
  ifb (ilt a (Õ c)) (ò c a fun d=>ë (ì ((List.length b)+(List.length ([d.2.1])))) (ck (a+(1:Int)) fun g=>e g (b++([d.2.1])))) (f b)
def nV (c:Val ac) (a:Int) (b:Val ab) (e:Int→Val ab→Option ρ) (f:Val ab→Option ρ):Option ρ :=
  ifb (ilt a (Õ c)) (ò c a fun d=>ë (ì ((List.length b)+(List.length ([d.2.1])))) (ck (a+(1:Int)) fun g=>e g (b++([d.2.1])))) (f b)
def nT (c:Val aa) (a:Int) (b:Val ab) (e:Int→Val ab→Option ρ) (f:Val ab→Option ρ):Option ρ :=
  ifb (ilt a (Õ c)) (ò c a fun d=>ë (ì ((List.length b)+(List.length ([d.2])))) (ck (a+(1:Int)) fun g=>e g (b++([d.2])))) (f b)
def kW (e:Int) (b:Val ab) (c:Int) (a:Int) (d:Int→Int→Option ρ) (f:Int→Option ρ):Option ρ :=
  ifb (ilt a (Õ b)) (ë ((ile 0 a)&&(ilt a (ă b))) (ĩ b (Int.toNat a) fun g=>ifb (igt g e) (ë ((ile 0 a)&&(ilt a (ă b))) (ĩ b (Int.toNat a) fun h=>ck (a+(1:Int)) fun i=>d (Ea c h) i)) (ck (a+(1:Int)) fun j=>d c j))) (f c)
def kX (e:Int) (i:Int) (j:Int) (c:Val ae) (k:Val aa) (l:Val af) (m:Val ac) (n:Val aa) (o:Val ab) (f:Int) (b:Val aa) (d:Int→Val aa→Option ρ) (p:Val aa→Option ρ):Option ρ :=
  ifb (ilt f 20001) (Ï (fun(g:Val Ã) q=>kW f o g.1 g.2 (fun r s=>q (r,s)) (fun a=>ifb (ilt a 20001) (ò c e fun t=>Â (HL ((i,j),c,k,l,m,n) t a) fun u=>ifb u (ò c e fun h=>ë (ì ((List.length b)+(List.length ([(h.1,a)])))) (d a (b++([(h.1,a)])))) (d a b)) (d a b))) ((20001:Int),(0:Int))) (p b)
def nS (e:Int) (f:Int) (b:Val ae) (g:Val aa) (h:Val af) (i:Val ac) (j:Val aa) (k:Val ab) (a:Int) (c:Val aa) (l:Int→Val aa→Option ρ) (m:Val aa→Option ρ):Option ρ :=
  ifb (ilt a (Õ b)) (Ï (fun(d:Val aI) n=>kX a e f b g h i j k d.1 d.2 (fun o p=>n (o,p)) (fun q=>ck (a+(1:Int)) fun r=>l r q)) ((-1:Int),c)) (m c)
def IY (a:Val Ä) (k:Val aa→Option ρ):Option ρ :=
  Ï (fun(b:Val ay) f=>nW a.2.1 b.1 b.2 (fun g h=>f (g,h)) (fun i=>Ï (fun(c:Val ay) j=>nV a.2.2.2.2.1 c.1 c.2 (fun l m=>j (l,m)) (fun n=>Ï (fun(d:Val ay) o=>nT a.2.2.2.2.2 d.1 d.2 (fun p q=>o (p,q)) (fun r=>Ï (fun(e:Val aI) s=>nS a.1.1 a.1.2 a.2.1 a.2.2.1 a.2.2.2.1 a.2.2.2.2.1 a.2.2.2.2.2 r e.1 e.2 (fun t u=>s (t,u)) (fun v=>k v)) ((0:Int),[]))) ((0:Int),n))) ((0:Int),i))) ((0:Int),[])
def kB (a:Val Ä):Option ((Val aa)):=IY a some
def nX (b:Val aa) (d:Int) (e:Int) (a:Int) (f:Int→Option ρ) (g:Int→Option ρ) (h:Unit→Option ρ):Option ρ :=
  ifb (ilt a (Õ b)) (ò b a fun c=>ifb ((Ħ c.1 d)&&((Ħ c.2 e)&&true)) (ck (a+(1:Int)) fun i=>g i) (ck (a+(1:Int)) fun j=>f j)) (h ())
def IZ (b:Val Ä) (a:Val Ã) (k:Int→Option ρ):Option ρ :=
  Â (kB b) fun c=>Ï (fun(d:Int) e=>nX c a.1 a.2 d (fun f=>e f) (fun g=>k g) (fun _=>k (0:Int))) (0:Int)
def jD (a:Val Ä) (b:Val Ã):Option (Int):=IZ a b some
def qv (d:Int) (e:Int) (b:Val aa) (a:Int) (c:Int→Option ρ) (f:Bool→Option ρ) (g:Unit→Option ρ):Option ρ :=
  ifb (ilt a (Õ b)) (ò b a fun h=>ifb (ieq h.1 d) (ò b a fun i=>ifb (ieq i.2 e) (f true) (ck (a+(1:Int)) fun j=>c j)) (ck (a+(1:Int)) fun k=>c k)) (g ())
def OH (a:Val Ä) (b:Int) (c:Int) (k:Bool→Option ρ):Option ρ :=
  Ï (fun(d:Int) e=>qv b c a.2.2.1 d (fun f=>e f) (fun g=>k g) (fun _=>k false)) (0:Int)
def HM (a:Val Ä) (b:Int) (c:Int):Option (Bool):=OH a b c some
def qx (d:Int) (m:Int) (n:Int) (e:Int) (f:Int) (g:Val ae) (h:Val aa) (i:Val af) (j:Val ac) (k:Val aa) (b:Int) (a:Int) (c:Int→Int→Option ρ) (o:Int→Option ρ):Option ρ :=
  ifb (ilt a m) (Â (zi ((e,f),g,h,i,j,k) d a) fun l=>ifb l.2 (ck (b+l.1.2.2) fun p=>ck (a+(1:Int)) fun q=>c p q) (Â (HM ((e,f),g,h,i,j,k) d a) fun r=>ifb r (ck (b+n) fun s=>ck (a+(1:Int)) fun t=>c s t) (ck (a+(1:Int)) fun u=>c b u))) (o b)
def OS (a:Val Ä) (b:Int) (d:Int) (e:Int) (k:Int→Option ρ):Option ρ :=
  Â (pK a b) fun f=>ò a.2.1 f fun g=>Ï (fun(c:Val Ã) h=>qx b e g.2.2.2.2.2 a.1.1 a.1.2 a.2.1 a.2.2.1 a.2.2.2.1 a.2.2.2.2.1 a.2.2.2.2.2 c.1 c.2 (fun i j=>h (i,j)) (fun l=>k l)) ((0:Int),d)
def t7 (a:Val Ä) (b:Int) (c:Int) (d:Int):Option (Int):=OS a b c d some
def De (b:Int) (a:Int) (k:Val ħ→Option ρ):Option ρ :=
  ifb (ine b 0) (ifb (Ħ a 0) (none) (Â (HP (Int.tmod b a)) fun h=>Â (Ai h a) fun c=>ifb (Ħ c 0) (none) (ck (Int.tdiv b c) fun d=>ifb (Ħ c 0) (none) (ck (Int.tdiv a c) fun f=>ifb (igt f 2147483647) (k (((0:Int),(0:Int)),(3:Int))) (ifb (ilt d (-2147483647:Int)) (k (((0:Int),(0:Int)),(3:Int))) (ifb (igt d 2147483647) (k (((0:Int),(0:Int)),(3:Int))) (k ((d,f),(0:Int))))))))) (ifb (Ħ a 0) (none) (ck (Int.tdiv b a) fun e=>ifb (Ħ a 0) (none) (ck (Int.tdiv a a) fun g=>ifb (igt g 2147483647) (k (((0:Int),(0:Int)),(3:Int))) (ifb (ilt e (-2147483647:Int)) (k (((0:Int),(0:Int)),(3:Int))) (ifb (igt e 2147483647) (k (((0:Int),(0:Int)),(3:Int))) (k ((e,g),(0:Int))))))))
def pL (a:Int) (b:Int):Option (Val ħ):=De a b some
def WI (a:Val Ã) (b:Val Ã) (k:Val ħ→Option ρ):Option ρ :=
  ck (a.1*b.2) fun c=>ck (b.1*a.2) fun d=>ck (c+d) fun e=>ck (a.2*b.2) fun f=>Â (pL e f) fun g=>k g
def X2 (a:Val Ã) (b:Val Ã):Option (Val ħ):=WI a b some
def WC (a:Val Ã) (k:Val Ã→Option ρ):Option ρ :=
  ck ((0:Int)-a.1) fun b=>k (b,a.2)
def X1 (a:Val Ã):Option (Val Ã):=WC a some
def WA (a:Val Ã) (b:Val Ã) (k:Val ħ→Option ρ):Option ρ :=
  Â (X1 b) fun c=>Â (X2 a c) fun d=>k d
def Nx (a:Val Ã) (b:Val Ã):Option (Val ħ):=WA a b some
def IU (a:Val Ä) (b:Int) (k:Val Ã→Option ρ):Option ρ :=
  ifb (ieq b 0) (k ((0:Int),(1:Int))) (Â (pK a b) fun c=>ò a.2.1 c fun d=>k d.2.2.2.2.1)
def tY (a:Val Ä) (b:Int):Option (Val Ã):=IU a b some
def Pb (a:Val ħ) (b:Val ħ) (k:Val sr→Option ρ):Option ρ :=
  ifb (ine a.2 0) (k ((((0:Int),(0:Int)),(0:Int),(0:Int)),a.2)) (ifb (ine b.2 0) (k ((((0:Int),(0:Int)),(0:Int),(0:Int)),b.2)) (k ((a.1,b.1),(0:Int))))
def HN (a:Val ħ) (b:Val ħ):Option (Val sr):=Pb a b some
def WD (a:Val Ã) (b:Val Ã) (k:Val ħ→Option ρ):Option ρ :=
  ck (a.1*b.1) fun c=>ck (a.2*b.2) fun d=>Â (pL c d) fun e=>k e
def vR (a:Val Ã) (b:Val Ã):Option (Val ħ):=WD a b some
def I4 (b:Val è) (a:Val Ã) (k:Val sr→Option ρ):Option ρ :=
  ifb (ilt a.1 0) (Â (vR b.2 a) fun c=>Â (vR b.1 a) fun d=>Â (HN c d) fun e=>k e) (Â (vR b.1 a) fun f=>Â (vR b.2 a) fun g=>Â (HN f g) fun h=>k h)
def Ah (a:Val è) (b:Val Ã):Option (Val sr):=I4 a b some
def Db (b:Val Ä) (a:Val Ì) (k:Val è→Option ρ):Option ρ :=
  Â (oh a.2.2.1 a.2.2.2.1) fun c=>Â (tY b c) fun d=>Â (oh a.2.2.2.1 a.2.2.1) fun e=>Â (tY b e) fun f=>Â (Nx d f) fun g=>Â (Ah ((a.2.2.2.2.2.2.1,(1:Int)),a.2.2.2.2.2.2.2,(1:Int)) g.1) fun h=>k h.1
def vP (a:Val Ä) (b:Val Ì):Option (Val è):=Db a b some
def I1 (a:Val Ä) (b:Val Ì) (k:Val Ã→Option ρ):Option ρ :=
  ck ((Õ b.2.2.1)-(1:Int)) fun c=>ck ((Õ b.2.2.2.1)-(1:Int)) fun d=>ck ((Ek (0:Int) c)*a.1.1) fun e=>ck ((Ek (0:Int) d)*a.1.2) fun f=>ck (e-f) fun g=>ck ((Ek (0:Int) c)*a.1.2) fun h=>ck ((Ek (0:Int) d)*a.1.1) fun i=>ck (h-i) fun j=>k (g,j)
def Af (a:Val Ä) (b:Val Ì):Option (Val Ã):=I1 a b some
def O9 (b:Int) (a:Int) (k:Int→Option ρ):Option ρ :=
  ifb (Ħ a 0) (none) (ck (Int.tdiv b a) fun c=>ifb (Ħ a 0) (none) (ifb (ilt (Int.tmod b a) 0) (ck (c-1) fun d=>k d) (k c)))
def QR (a:Int) (b:Int):Option (Int):=O9 a b some
def I6 (a:Val Ã) (k:Int→Option ρ):Option ρ :=
  Â (QR a.1 a.2) fun b=>k b
def Aj (a:Val Ã):Option (Int):=I6 a some
def acT (b:Int) (a:Int) (k:Int→Option ρ):Option ρ :=
  ifb (Ħ a 0) (none) (ck (Int.tdiv b a) fun c=>ifb (Ħ a 0) (none) (ifb (igt (Int.tmod b a) 0) (ck (c+1) fun d=>k d) (k c)))
def adI (a:Int) (b:Int):Option (Int):=acT a b some
def Pd (a:Val Ã) (k:Int→Option ρ):Option ρ :=
  Â (adI a.1 a.2) fun b=>k b
def HO (a:Val Ã):Option (Int):=Pd a some
def OJ (b:Val Ä) (a:Val Ì) (k:Val Ã→Option ρ):Option ρ :=
  Â (vP b a) fun c=>Â (Af b a) fun d=>ck (a.2.2.2.2.1-a.2.2.2.2.2.1) fun e=>ck (e-d.2) fun f=>Â (Aj c.2) fun g=>ck (f-g) fun h=>ck (a.2.2.2.2.1+a.2.2.2.2.2.1) fun i=>ck (i-d.1) fun j=>Â (HO c.1) fun l=>ck (j-l) fun m=>k (h,m)
def tZ (a:Val Ä) (b:Val Ì):Option (Val Ã):=OJ a b some
def oU (e:Val aa) (b:Int) (p:Int) (q:Int) (r:Val ae) (s:Val aa) (t:Val af) (u:Val ac) (v:Val aa) (g:Int) (w:Int) (h:Int) (x:Int) (y:Int) (a:Int) (c:Val aj) (d:Val aa) (f:Int→Val aj→Val aa→Option ρ) (z:Val wh→Option ρ):Option ρ :=
  ifb (ilt a (Õ e)) (ò e a fun A=>ifb (ine A.1 g) (ck (a+(1:Int)) fun B=>f B c d) (ò e a fun C=>ifb (ieq C.2 w) (ck (a+(1:Int)) fun i=>ck (h+y) fun j=>ck (a+(1:Int)) fun k=>ck ((0:Int)-h) fun D=>ck (D-x) fun l=>ë (ì ((List.length c)+(List.length ([((0:Int),i,j),(k,(0:Int),l)])))) (ë (ì ((List.length d)+(List.length ([((1:Int),b),((1:Int),b)])))) (ck (a+(1:Int)) fun E=>f E (c++([((0:Int),i,j),(k,(0:Int),l)])) (d++([((1:Int),b),((1:Int),b)]))))) (ck (a-(1:Int)) fun F=>ò e F fun G=>ò e a fun H=>Â (t7 ((p,q),r,s,t,u,v) g G.2 H.2) fun m=>ck (a+(1:Int)) fun n=>ck (a+(1:Int)) fun o=>ë (ì ((List.length c)+(List.length ([(a,n,(0:Int)),(o,a,m)])))) (ë (ì ((List.length d)+(List.length ([((2:Int),b),((2:Int),b)])))) (ck (a+(1:Int)) fun I=>f I (c++([(a,n,(0:Int)),(o,a,m)])) (d++([((2:Int),b),((2:Int),b)]))))))) (z (c,d))
def uO (h:Val aa) (i:Int) (j:Int) (c:Val ae) (k:Val aa) (l:Val af) (m:Val ac) (n:Val aa) (b:Int) (e:Val aj) (f:Val aa) (o:Int→Val aj→Val aa→Option ρ) (p:Val wh→Option ρ):Option ρ :=
  ifb (ilt b (Õ c)) (ò c b fun a=>Ï (fun(d:Val aR) q=>oU h b i j c k l m n a.1 a.2.1 a.2.2.1 a.2.2.2.1.1 a.2.2.2.1.2 d.1 d.2.1 d.2.2 (fun r s t=>q (r,s,t)) (fun g=>ck (b+(1:Int)) fun u=>o u g.1 g.2)) ((0:Int),e,f)) (p (e,f))
def uN (f:Int) (g:Int) (h:Val ae) (i:Val aa) (j:Val af) (c:Val ac) (k:Val aa) (a:Int) (l:Val aj) (m:Val aa) (p:Int→Val aj→Val aa→Option ρ) (q:Val wh→Option ρ):Option ρ :=
  ifb (ilt a (Õ c)) (ò c a fun b=>Â (oh b.2.2.1 b.2.2.2.1) fun r=>Â (jD ((f,g),h,i,j,c,k) (r,b.2.1)) fun d=>Â (oh b.2.2.2.1 b.2.2.1) fun s=>Â (jD ((f,g),h,i,j,c,k) (s,b.2.1)) fun e=>Â (tZ ((f,g),h,i,j,c,k) b) fun n=>ck ((0:Int)-n.1) fun o=>ë (ì ((List.length l)+(List.length ([(e,d,n.2),(d,e,o)])))) (ë (ì ((List.length m)+(List.length ([((3:Int),a),((3:Int),a)])))) (ck (a+(1:Int)) fun t=>p t (l++([(e,d,n.2),(d,e,o)])) (m++([((3:Int),a),((3:Int),a)]))))) (q (l,m))
def Wh (a:Val Ä) (k:Val wh→Option ρ):Option ρ :=
  Â (kB a) fun e=>Ï (fun(b:Val aR) f=>uO e a.1.1 a.1.2 a.2.1 a.2.2.1 a.2.2.2.1 a.2.2.2.2.1 a.2.2.2.2.2 b.1 b.2.1 b.2.2 (fun g h i=>f (g,h,i)) (fun d=>Ï (fun(c:Val aR) j=>uN a.1.1 a.1.2 a.2.1 a.2.2.1 a.2.2.2.1 a.2.2.2.2.1 a.2.2.2.2.2 c.1 c.2.1 c.2.2 (fun l m n=>j (l,m,n)) (fun o=>k o)) ((0:Int),d.1,d.2))) ((0:Int),[],[])
def Ae (a:Val Ä):Option (Val wh):=Wh a some
def nZ (b:Val ae) (a:Int) (c:Int→Option ρ) (d:Int→Option ρ) (e:Unit→Option ρ):Option ρ :=
  ifb (ilt a (Õ b)) (ò b a fun f=>Â (Ad f) fun g=>ifb (!g) (d (1:Int)) (ifb (igt a 0) (ò b a fun h=>ck (a-(1:Int)) fun i=>ò b i fun j=>ifb (ile h.1 j.1) (d (6:Int)) (ck (a+(1:Int)) fun k=>c k)) (ck (a+(1:Int)) fun l=>c l))) (e ())
def nY (b:Int) (c:Val ac) (a:Int) (d:Int→Option ρ) (e:Int→Option ρ) (f:Unit→Option ρ):Option ρ :=
  ifb (ilt a b) (ò c a fun g=>ò c b fun h=>ifb (ieq g.1 h.1) (e (6:Int)) (ck (a+(1:Int)) fun i=>d i)) (f ())
def jw (e:Int) (f:Int) (g:Val ae) (h:Val aa) (i:Val af) (a:Val ac) (j:Val aa) (b:Int) (k:Int→Option ρ) (c:Int→Option ρ) (l:Unit→Option ρ):Option ρ :=
  ifb (ilt b (Õ a)) (ò a b fun m=>Â (Ab m) fun n=>ifb (!n) (c (1:Int)) (Ï (fun(o:Int) p=>nY b a o (fun q=>p q) (fun r=>c r) (fun _=>ò a b fun s=>Â (jC ((e,f),g,h,i,a,j) s) fun d=>ifb (ine d 0) (c d) (ck (b+(1:Int)) fun t=>k t))) (0:Int))) (l ())
def jv (e:Int) (f:Int) (g:Val ae) (h:Val aa) (i:Val af) (j:Val ac) (a:Val aa) (b:Int) (k:Int→Option ρ) (c:Int→Option ρ) (l:Unit→Option ρ):Option ρ :=
  ifb (ilt b (Õ a)) (ò a b fun m=>Â (vQ m.2) fun n=>ifb (!n) (c (1:Int)) (ò a b fun o=>ò a b fun p=>Â (mi ((e,f),g,h,i,j,a) o.1 p.2) fun d=>ifb (ine d 0) (c d) (ck (b+(1:Int)) fun q=>k q))) (l ())
def I2 (a:Val Ä) (k:Int→Option ρ):Option ρ :=
  Â (jo a.1 (0:Int) (1000000:Int)) fun d=>ifb (!d) (k (1:Int)) (ifb (igt (Õ a.2.1) 12) (k (2:Int)) (ifb (igt (Õ a.2.2.1) 40) (k (2:Int)) (ifb (igt (Õ a.2.2.2.1) 12) (k (2:Int)) (ifb (igt (Õ a.2.2.2.2.1) 40) (k (2:Int)) (ifb (igt (Õ a.2.2.2.2.2) 10) (k (2:Int)) (Ï (fun(e:Int) f=>nZ a.2.1 e (fun g=>f g) (fun h=>k h) (fun _=>Â (HK a) fun b=>ifb (ieq b 0) (Â (Ac a) fun c=>ifb (ine c 0) (k c) (Ï (fun(i:Int) j=>jw a.1.1 a.1.2 a.2.1 a.2.2.1 a.2.2.2.1 a.2.2.2.2.1 a.2.2.2.2.2 i (fun l=>j l) (fun m=>k m) (fun _=>Ï (fun(n:Int) o=>jv a.1.1 a.1.2 a.2.1 a.2.2.1 a.2.2.2.1 a.2.2.2.2.1 a.2.2.2.2.2 n (fun p=>o p) (fun q=>k q) (fun _=>Â (kB a) fun r=>ifb (igt (Õ r) 59) (k (2:Int)) (Â (Ae a) fun s=>ifb (igt (Õ s.1) 300) (k (2:Int)) (k (0:Int))))) (0:Int))) (0:Int))) (ifb (ine b 0) (k b) (Ï (fun(t:Int) u=>jw a.1.1 a.1.2 a.2.1 a.2.2.1 a.2.2.2.1 a.2.2.2.2.1 a.2.2.2.2.2 t (fun v=>u v) (fun w=>k w) (fun _=>Ï (fun(x:Int) y=>jv a.1.1 a.1.2 a.2.1 a.2.2.1 a.2.2.2.1 a.2.2.2.2.1 a.2.2.2.2.2 x (fun z=>y z) (fun A=>k A) (fun _=>Â (kB a) fun B=>ifb (igt (Õ B) 59) (k (2:Int)) (Â (Ae a) fun C=>ifb (igt (Õ C.1) 300) (k (2:Int)) (k (0:Int))))) (0:Int))) (0:Int))))) (0:Int)))))))
def Ū (a:Val Ä):Option (Int):=I2 a some
def rI (a:Val Ä) (b:Int) (c:Int) (d:Int) (k:Bool→Option ρ):Option ρ :=
  Â (Nv a) fun E=>ifb (!E) (Â þ fun F=>k F) (Â (kD a (c,b)) fun e=>Â (HQ a b ([c])) fun f=>Â (oG a b ([c]) ([])) fun g=>ifb (ieq e.2 0) (ifb (ine f.2 0) (k false) (ifb (ine g.2 0) (k false) (ifb (!((Ħ f.1.1 e.1.1)&&((Ħ f.1.2 e.1.2)&&true))) (k false) (ifb (!((Ħ g.1.1 e.1.1)&&((Ħ g.1.2 e.1.2)&&true))) (k false) (Â (mj a (c,b) (d,b)) fun h=>Â (oG a b ([c]) ([d])) fun i=>ifb (ieq h.2 0) (ifb (ine c d) (ifb (ine i.2 0) (k false) (ifb (!((Ħ i.1.1 h.1.1)&&((Ħ i.1.2 h.1.2)&&true))) (k false) (Â (Œ a ([(c,b)])) fun j=>Â (Ĺ a j.1) fun s=>Â (Ĺ j.1 a) fun t=>Â (Ū a) fun G=>ifb (ieq G 0) (ifb j.2 (ifb (ine s.2 0) (k false) (ifb (ine t.2 0) (k false) (ifb (!s.1) (k false) (ifb (!t.1) (k false) (Â þ fun H=>k H))))) (Â þ fun I=>k I)) (Â þ fun J=>k J)))) (Â (Œ a ([(c,b)])) fun l=>Â (Ĺ a l.1) fun u=>Â (Ĺ l.1 a) fun v=>Â (Ū a) fun K=>ifb (ieq K 0) (ifb l.2 (ifb (ine u.2 0) (k false) (ifb (ine v.2 0) (k false) (ifb (!u.1) (k false) (ifb (!v.1) (k false) (Â þ fun L=>k L))))) (Â þ fun M=>k M)) (Â þ fun N=>k N))) (Â (Œ a ([(c,b)])) fun m=>Â (Ĺ a m.1) fun w=>Â (Ĺ m.1 a) fun x=>Â (Ū a) fun O=>ifb (ieq O 0) (ifb m.2 (ifb (ine w.2 0) (k false) (ifb (ine x.2 0) (k false) (ifb (!w.1) (k false) (ifb (!x.1) (k false) (Â þ fun P=>k P))))) (Â þ fun Q=>k Q)) (Â þ fun R=>k R))))))) (Â (mj a (c,b) (d,b)) fun n=>Â (oG a b ([c]) ([d])) fun o=>ifb (ieq n.2 0) (ifb (ine c d) (ifb (ine o.2 0) (k false) (ifb (!((Ħ o.1.1 n.1.1)&&((Ħ o.1.2 n.1.2)&&true))) (k false) (Â (Œ a ([(c,b)])) fun p=>Â (Ĺ a p.1) fun y=>Â (Ĺ p.1 a) fun z=>Â (Ū a) fun S=>ifb (ieq S 0) (ifb p.2 (ifb (ine y.2 0) (k false) (ifb (ine z.2 0) (k false) (ifb (!y.1) (k false) (ifb (!z.1) (k false) (Â þ fun T=>k T))))) (Â þ fun U=>k U)) (Â þ fun V=>k V)))) (Â (Œ a ([(c,b)])) fun q=>Â (Ĺ a q.1) fun A=>Â (Ĺ q.1 a) fun B=>Â (Ū a) fun W=>ifb (ieq W 0) (ifb q.2 (ifb (ine A.2 0) (k false) (ifb (ine B.2 0) (k false) (ifb (!A.1) (k false) (ifb (!B.1) (k false) (Â þ fun X=>k X))))) (Â þ fun Y=>k Y)) (Â þ fun Z=>k Z))) (Â (Œ a ([(c,b)])) fun r=>Â (Ĺ a r.1) fun C=>Â (Ĺ r.1 a) fun D=>Â (Ū a) fun dc=>ifb (ieq dc 0) (ifb r.2 (ifb (ine C.2 0) (k false) (ifb (ine D.2 0) (k false) (ifb (!C.1) (k false) (ifb (!D.1) (k false) (Â þ fun df=>k df))))) (Â þ fun dg=>k dg)) (Â þ fun dh=>k dh))))
def sg (a:Val Ä) (b:Int) (c:Int) (d:Int):Option (Bool):=rI a b c d some
end Go.Proofs.ZzM
end
