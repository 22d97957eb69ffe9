/- lemmas -/
import Derived.Test.YtiochmbenflhhaaGreatAmF
set_option linter.all false
set_option linter.unusedSectionVars false
set_option linter.unusedVariables false
set_option linter.unusedSimpArgs false
noncomputable section
variable {ρ:Type}
set_option maxRecDepth 100000
namespace Go.Proofs.ZzM
open Go Go.Am
abbrev tI:Ty:=.int .i64
abbrev Â:Ty:=(.pair tI tI)
abbrev ć:Ty:=(.pair tI Â)
abbrev è:Ty:=(.pair Â Â)
abbrev ĵ:Ty:=(.pair Â tI)
abbrev Ŏ:Ty:=(.pair tI ĵ)
abbrev uk:Ty:=(.pair è tI)
abbrev Î:Ty:=(.pair tI (.slice ć))
abbrev xO:Ty:=(.pair (.slice ć) (.slice Â))
abbrev ż:Ty:=(.pair Â (.pair ć ć))
abbrev Ï:Ty:=(.pair tI (.pair tI (.pair tI (.pair Â ĵ))))
abbrev Ì:Ty:=(.pair tI (.pair tI (.pair (.slice tI) (.pair (.slice tI) (.pair tI ć)))))
abbrev Ä:Ty:=(.pair Â (.pair (.slice Ï) (.pair (.slice Â) (.pair (.slice Ŏ) (.pair (.slice Ì) (.slice Â))))))
abbrev å:Ty:=(.pair Ä (.pair Î (.pair (.slice (.slice tI)) tI)))
abbrev iv:Ty:=(.pair Ä (.pair Â (.pair .bool (.pair tI (.slice tI)))))
abbrev aqT:Ty:=(.pair Ä Î)
abbrev arm:Ty:=(.pair Ä (.pair (.slice Â) (.pair Î (.slice Â))))
abbrev aa:Ty:=(.slice Â)
abbrev ab:Ty:=(.slice tI)
abbrev ac:Ty:=(.slice Ì)
abbrev ae:Ty:=(.slice Ï)
abbrev af:Ty:=(.slice Ŏ)
abbrev ah:Ty:=(.slice ć)
abbrev ai:Ty:=(.pair tI (.pair tI (.pair ae (.pair aa (.pair af (.pair ac aa))))))
abbrev aj:Ty:=(.pair tI (.pair tI (.pair ae (.pair aa (.pair af (.pair ac (.pair aa (.pair tI (.pair tI (.pair ae (.pair aa (.pair af (.pair ac (.pair aa (.pair tI (.pair tI (.pair ae (.pair aa (.pair af (.pair ac (.pair aa (.pair (.map tI .bool) (.pair (.map tI .bool) ae)))))))))))))))))))))))
abbrev ak:Ty:=(.ptr aqT)
abbrev am:Ty:=(.slice ab)
abbrev ao:Ty:=(.slice .bool)
abbrev aq:Ty:=(.map tI .bool)
abbrev ar:Ty:=(.pair ab (.pair tI (.pair tI (.pair tI (.pair ae (.pair aa (.pair af (.pair ac (.pair aa (.pair tI (.pair tI (.pair tI (.pair tI (.pair tI (.pair tI (.pair ab (.pair ab (.pair tI (.pair tI (.pair tI (.pair tI (.pair aa (.pair tI (.pair tI (.pair ae (.pair aa (.pair af (.pair ac (.pair aa (.pair tI (.pair ah (.pair tI (.pair tI (.pair tI (.pair tI (.pair tI (.pair tI (.pair tI (.pair tI (.pair am (.pair am am)))))))))))))))))))))))))))))))))))))))))
abbrev au:Ty:=(.pair tI ab)
abbrev aw:Ty:=(.pair tI (.pair tI (.pair tI (.pair tI (.pair tI ć)))))
abbrev ax:Ty:=(.map tI Ï)
abbrev ay:Ty:=(.pair ab (.pair tI (.pair ak (.pair ab (.pair ab ao)))))
abbrev az:Ty:=(.pair tI (.pair tI (.pair tI (.pair ae (.pair aa (.pair af (.pair ac (.pair aa (.pair tI (.pair tI (.pair tI (.pair tI (.pair tI (.pair tI (.pair ab (.pair ab (.pair tI (.pair tI (.pair tI (.pair tI aa))))))))))))))))))))
abbrev aA:Ty:=(.pair tI (.pair tI (.pair ae (.pair aa (.pair af (.pair ac (.pair aa (.pair tI ć))))))))
abbrev aB:Ty:=(.pair tI (.pair tI (.pair ae (.pair aa (.pair af (.pair ac (.pair aa (.pair tI (.pair tI (.pair ab (.pair ab (.pair tI (.pair tI (.pair tI au))))))))))))))
abbrev aC:Ty:=(.pair tI aa)
abbrev aD:Ty:=(.pair tI (.pair tI (.pair tI (.pair ae (.pair aa (.pair af (.pair ac (.pair aa aw))))))))
abbrev aE:Ty:=(.pair ab ab)
abbrev aF:Ty:=(.pair ab (.pair ab (.pair tI (.pair tI (.pair ae (.pair aa (.pair af (.pair ac (.pair aa (.pair tI (.pair ah (.pair am tI))))))))))))
abbrev aG:Ty:=(.pair tI (.pair tI ao))
abbrev aH:Ty:=(.pair Ä Ì)
abbrev aI:Ty:=(.pair tI ai)
abbrev aJ:Ty:=(.pair Ä Â)
abbrev aK:Ty:=(.pair ab tI)
abbrev aL:Ty:=(.pair tI (.pair ab (.pair tI (.pair ak aE))))
abbrev aM:Ty:=(.pair Ä tI)
abbrev aO:Ty:=(.pair tI Î)
abbrev aP:Ty:=(.pair .bool tI)
abbrev aQ:Ty:=(.pair tI (.pair tI au))
abbrev aR:Ty:=(.pair ao ab)
abbrev aS:Ty:=(.pair tI xO)
abbrev aT:Ty:=(.pair tI am)
abbrev aU:Ty:=(.slice am)
abbrev aV:Ty:=(.pair ak Â)
abbrev aW:Ty:=(.pair tI aC)
abbrev aX:Ty:=(.ptr Â)
abbrev aY:Ty:=(.ptr arm)
abbrev aZ:Ty:=(.pair ab (.pair ao aE))
abbrev ba:Ty:=(.pair Â Ì)
abbrev bc:Ty:=(.pair aa Â)
abbrev bf:Ty:=(.pair Î Â)
abbrev bg:Ty:=(.pair tI aE)
abbrev bh:Ty:=(.pair aa .bool)
abbrev bi:Ty:=(.pair Ŏ .bool)
abbrev bj:Ty:=(.pair (.int .u64) (.int .u64))
abbrev bm:Ty:=(.pair Î ab)
abbrev bn:Ty:=(.pair tI (.pair tI ć))
abbrev bo:Ty:=(.pair Ä (.pair ax tI))
def Ll (a:Val Â) (b:Int) (c:Int) (k:Bool→Option ρ):Option ρ :=
  ifb (ile b a.1) (ifb (ile a.1 a.2) (k (ile a.2 c)) (k false)) (k false)
def ε (a:Val Â) (b:Int) (c:Int):Option (Bool):=Ll a b c some
def Lc (a:Int) (b:Int) (c:Int) (k:Bool→Option ρ):Option ρ :=
  ifb (ile b a) (k (ile a c)) (k false)
def Ġ (a:Int) (b:Int) (c:Int):Option (Bool):=Lc a b c some
def Sd (a:Int) (k:Bool→Option ρ):Option ρ :=
  Ã (Ġ a (0:Int) (20000:Int)) fun b=>k b
def oE (a:Int):Option (Bool):=Sd a some
def aab (a:Int) (k:Int→Option ρ):Option ρ :=
  ifb (ilt a 0) (k (IntKind.wrap .u64 (0-(IntKind.wrap .u64 a)))) (k (IntKind.wrap .u64 a))
def tj (a:Int):Option (Int):=aab a some
def BO (b:Int) (a:Int) (c:Int→Int→Option ρ) (d:Int→Option ρ):Option ρ :=
  ifb (ine a 0) (ifb (Ě a 0) (none) (c a (Int.tmod b a))) (d b)
def ag7 (b:Int) (c:Int) (k:Int→Option ρ):Option ρ :=
  É (fun(a:Val bj) d=>BO a.1 a.2 (fun e f=>d (e,f)) (fun g=>k g)) (b,c)
def SP (a:Int) (b:Int):Option (Int):=ag7 a b some
def RH (a:Val Â) (k:Bool→Option ρ):Option ρ :=
  ifb (ige a.2 1) (ifb (ile a.2 2147483647) (Ã (tj a.1) fun b=>ifb (ile b 2147483647) (Ã (tj a.1) fun c=>Ã (tj a.2) fun d=>Ã (SP c d) fun e=>k (ieq e 1)) (k false)) (k false)) (k false)
def vP (a:Val Â):Option (Bool):=RH a some
def FJ (a:Val Ï) (k:Bool→Option ρ):Option ρ :=
  Ã (vP a.2.2.2.2.1) fun b=>ifb b (Ã (Ġ a.2.2.2.2.1.1 (-1000:Int) (1000:Int)) fun c=>ifb c (Ã (Ġ a.1 (1:Int) (1099511627776:Int)) fun d=>ifb d (Ã (oE a.2.1) fun e=>ifb e (Ã (Ġ a.2.2.1 (1:Int) (1125899906842624:Int)) fun f=>ifb f (Ã (ε a.2.2.2.1 (-1073741824:Int) (1073741824:Int)) fun g=>ifb g (ifb (ile a.2.2.2.2.1.2 100) (Ã (Ġ a.2.2.2.2.2 (0:Int) (1048576:Int)) fun h=>k h) (k false)) (k false)) (k false)) (k false)) (k false)) (Ã (Ġ a.1 (1:Int) (1099511627776:Int)) fun i=>ifb i (Ã (oE a.2.1) fun j=>ifb j (Ã (Ġ a.2.2.1 (1:Int) (1125899906842624:Int)) fun l=>ifb l (Ã (ε a.2.2.2.1 (-1073741824:Int) (1073741824:Int)) fun m=>ifb m (k false) (k false)) (k false)) (k false)) (k false))) (Ã (Ġ a.1 (1:Int) (1099511627776:Int)) fun n=>ifb n (Ã (oE a.2.1) fun o=>ifb o (Ã (Ġ a.2.2.1 (1:Int) (1125899906842624:Int)) fun p=>ifb p (Ã (ε a.2.2.2.1 (-1073741824:Int) (1073741824:Int)) fun q=>ifb q (k false) (k false)) (k false)) (k false)) (k false))
def xD (a:Val Ï):Option (Bool):=FJ a some
def jH (e:Val ae) (f:Int) (g:Val ae) (a:Int) (b:Int→Option ρ) (c:Int→Option ρ) (h:Unit→Option ρ):Option ρ :=
  ifb (ilt a f) (ê e a fun d=>Ã (xD d) fun i=>ifb (!i) (c (1:Int)) (ifb (igt a 0) (ck (a-(1:Int)) fun j=>ê g j fun k=>ifb (ile d.1 k.1) (c (6:Int)) (ck (a+(1:Int)) fun l=>b l)) (ck (a+(1:Int)) fun m=>b m))) (h ())
def rh (a:Val Ä) (k:Int→Option ρ):Option ρ :=
  É (fun(b:Int) c=>jH a.2.1 (Ó a.2.1) a.2.1 b (fun d=>c d) (fun e=>k e) (fun _=>k (0:Int))) (0:Int)
def Ζ (a:Val Ä):Option (Int):=rh a some
def nP (d:Val ae) (e:Int) (a:Int) (b:Val ax) (f:Int→Val ax→Option ρ) (g:Val ax→Option ρ):Option ρ :=
  ifb (ilt a e) (ê d a fun c=>ck (a+(1:Int)) fun h=>f h (OO (k:=tI) (v:=Ï) c.1 c b)) (g b)
def FG (a:Val Ä) (k:Val ax→Option ρ):Option ρ :=
  É (fun(b:(Val (.pair tI ax))) c=>nP a.2.1 (Ó a.2.1) b.1 b.2 (fun d e=>c (d,e)) (fun f=>k f)) ((0:Int),[])
def iu (a:Val Ä):Option ((Val ax)):=FG a some
def iD (b:Val ab) (c:Int) (d:Int) (a:Int) (e:Int→Option ρ) (f:Int→Option ρ) (g:Unit→Option ρ):Option ρ :=
  ifb (ilt a d) (ê b a fun h=>ifb (ieq c h) (f a) (ck (a+(1:Int)) fun i=>e i)) (g ())
def m9 (a:Val ab) (b:Int) (k:Int→Option ρ):Option ρ :=
  É (fun(c:Int) d=>iD a b (Ó a) c (fun e=>d e) (fun f=>k f) (fun _=>k (-1:Int))) (0:Int)
def kf (a:Val ab) (b:Int):Option (Int):=m9 a b some
def kp (a:Val ab) (b:Int) (k:Bool→Option ρ):Option ρ :=
  Ã (kf a b) fun c=>k (ige c 0)
def ė (a:Val ab) (b:Int):Option (Bool):=kp a b some
def xd (f:Val ac) (g:Int) (d:Int) (a:Int) (b:Val ab) (e:Int→Val ab→Option ρ) (h:Val ab→Option ρ):Option ρ :=
  ifb (ilt a g) (ê f a fun c=>Ã (ė c.2.2.1 d) fun i=>Ã (ė c.2.2.2.1 d) fun j=>ifb (!(i==j)) (Þ (â ((List.length b)+(List.length ([c.2.1])))) (ck (a+(1:Int)) fun k=>e k (b++([c.2.1])))) (ck (a+(1:Int)) fun l=>e l b)) (h b)
def xc (e:Val aa) (f:Int) (g:Int) (a:Int) (b:Val ab) (d:Int→Val ab→Option ρ) (h:Val ab→Option ρ):Option ρ :=
  ifb (ilt a f) (ê e a fun c=>ifb (ieq c.1 g) (Þ (â ((List.length b)+(List.length ([c.2])))) (ck (a+(1:Int)) fun i=>d i (b++([c.2])))) (ck (a+(1:Int)) fun j=>d j b)) (h b)
def aaG (a:Val Ä) (b:Val Ï) (k:Val ab→Option ρ):Option ρ :=
  É (fun(d:Val au) f=>xd a.2.2.2.2.1 (Ó a.2.2.2.2.1) b.1 d.1 d.2 (fun g h=>f (g,h)) (fun i=>É (fun(e:Val au) j=>xc a.2.2.2.2.2 (Ó a.2.2.2.2.2) b.1 e.1 e.2 (fun l m=>j (l,m)) (fun c=>Þ (â (List.length c)) (Þ (â (List.length (F5 c))) (k (Cj (F5 c)))))) ((0:Int),i))) ((0:Int),[b.2.1])
def pP (a:Val Ä) (b:Val Ï):Option ((Val ab)):=aaG a b some
def sW (e:Val ab) (f:Int) (c:Int) (a:Int) (b:Val aa) (g:Int→Val aa→Option ρ) (h:Val aa→Option ρ):Option ρ :=
  ifb (ilt a f) (ê e a fun d=>Þ (â ((List.length b)+(List.length ([(c,d)])))) (ck (a+(1:Int)) fun i=>g i (b++([(c,d)])))) (h b)
def sX (f:Val ae) (g:Int) (h:Int) (i:Int) (j:Val ae) (k:Val aa) (l:Val af) (m:Val ac) (n:Val aa) (a:Int) (b:Val aa) (o:Int→Val aa→Option ρ) (p:Val aa→Option ρ):Option ρ :=
  ifb (ilt a g) (ê f a fun c=>Ã (pP ((h,i),j,k,l,m,n) c) fun d=>É (fun(e:Val aC) q=>sW d (Ó d) c.1 e.1 e.2 (fun r s=>q (r,s)) (fun t=>ck (a+(1:Int)) fun u=>o u t)) ((0:Int),b)) (p b)
def RW (a:Val Ä) (k:Val aa→Option ρ):Option ρ :=
  É (fun(b:Val aC) c=>sX a.2.1 (Ó a.2.1) a.1.1 a.1.2 a.2.1 a.2.2.1 a.2.2.2.1 a.2.2.2.2.1 a.2.2.2.2.2 b.1 b.2 (fun d e=>c (d,e)) (fun f=>k f)) ((0:Int),[])
def rG (a:Val Ä):Option ((Val aa)):=RW a some
def tT (a:Val ax) (b:Int) (c:Int) (k:Int→Option ρ):Option ρ :=
  abL (k:=tI) (v:=Ï) b a (fun d=>ifb (ilt c d.2.1) (k (4:Int)) (k (0:Int))) (k (5:Int))
def jx (a:Val ax) (b:Int) (c:Int):Option (Int):=tT a b c some
def FI (b:Int) (a:Int) (c:(Val (.ptr ax))) (k:Int→Option ρ):Option ρ :=
  Ã (oE a) fun d=>ifb (!d) (k (1:Int)) (Ã (jx c b a) fun e=>k e)
def Ņ (a:Int) (b:Int) (c:(Val (.ptr ax))):Option (Int):=FI a b c some
def kQ (d:Val af) (e:Int) (f:Int) (g:Int) (h:Int) (a:Int) (b:Int→Option ρ) (i:Int→Option ρ) (j:Unit→Option ρ):Option ρ :=
  ifb (ilt a e) (ê d a fun c=>ifb (ieq c.1 f) (ifb (ile c.2.1.1 h) (ifb (ile g c.2.1.2) (i a) (ck (a+(1:Int)) fun k=>b k)) (ck (a+(1:Int)) fun l=>b l)) (ck (a+(1:Int)) fun m=>b m)) (j ())
def δ (d:Val aa) (e:Int) (f:Int) (g:Int) (h:Int) (a:Int) (b:Int→Option ρ) (i:Int→Option ρ) (j:Unit→Option ρ):Option ρ :=
  ifb (ilt a e) (ê d a fun c=>ifb (ieq c.1 f) (Ã (Ġ c.2 g h) fun k=>ifb k (i a) (ck (a+(1:Int)) fun l=>b l)) (ck (a+(1:Int)) fun m=>b m)) (j ())
def xe (b:Val Ä) (e:Val ax) (c:Int) (k:Int→Option ρ):Option ρ :=
  ê b.2.2.2.1 c fun a=>Ã (ε a.2.1 (0:Int) (20000:Int)) fun f=>ifb (!f) (k (1:Int)) (Ã (Ġ a.2.2 (0:Int) (1048576:Int)) fun g=>ifb (!g) (k (1:Int)) (Ã (jx e a.1 a.2.1.1) fun d=>ifb (ine d 0) (k d) (Þ ((ile 0 c)&&(ile c (ô b.2.2.2.1))) (É (fun(h:Int) i=>kQ (List.take (Int.toNat c) b.2.2.2.1) (Ó (List.take (Int.toNat c) b.2.2.2.1)) a.1 a.2.1.1 a.2.1.2 h (fun j=>i j) (fun l=>ifb (ige l 0) (k (9:Int)) (É (fun(m:Int) n=>δ b.2.2.1 (Ó b.2.2.1) a.1 a.2.1.1 a.2.1.2 m (fun o=>n o) (fun p=>ifb (ige p 0) (k (9:Int)) (k (0:Int))) (fun _=>k (0:Int))) (0:Int))) (fun _=>É (fun(q:Int) r=>δ b.2.2.1 (Ó b.2.2.1) a.1 a.2.1.1 a.2.1.2 q (fun s=>r s) (fun t=>ifb (ige t 0) (k (9:Int)) (k (0:Int))) (fun _=>k (0:Int))) (0:Int))) (0:Int)))))
def ο (a:Val Ä) (b:Val ax) (c:Int):Option (Int):=xe a b c some
def ļ (d:Val am) (e:Int) (b:Int) (a:Int) (f:Int→Int→Option ρ) (g:Int→Option ρ):Option ρ :=
  ifb (ilt a e) (ê d a fun h=>ck (b+(Ó h)) fun c=>ifb (ilt c 0) (none) (ck (a+(1:Int)) fun i=>f c i)) (g b)
def ñ (d:Val am) (e:Int) (a:Int) (b:Val ab) (f:Int→Val ab→Option ρ) (g:Val ab→Option ρ):Option ρ :=
  ifb (ilt a e) (ê d a fun c=>Þ (â ((List.length b)+(List.length c))) (ck (a+(1:Int)) fun h=>f h (b++c))) (g b)
def jE (a:Val am) (k:Val ab→Option ρ):Option ρ :=
  É (fun(c:Val Â) g=>ļ a (Ó a) c.1 c.2 (fun h i=>g (h,i)) (fun d=>ifb (ilt d 0) (none) (ck (d-(0:Int)) fun b=>ifb (igt b 0) (Þ ((ilt 0 b)&&(â (Int.toNat b))) (Þ (ile 0 (ô (List.replicate (Int.toNat b) (0:Int)))) (É (fun(e:Val au) j=>ñ a (Ó a) e.1 e.2 (fun l m=>j (l,m)) (fun n=>k n)) ((0:Int),(List.take 0 (List.replicate (Int.toNat b) (0:Int))))))) (É (fun(f:Val au) o=>ñ a (Ó a) f.1 f.2 (fun p q=>o (p,q)) (fun r=>k r)) ((0:Int),[]))))) ((0:Int),(0:Int))
def ï (a:Val am):Option ((Val ab)):=jE a some
def pI (e:Val ab) (f:Val ab) (g:Int) (a:Int) (b:Int→Option ρ) (c:Bool→Option ρ) (h:Unit→Option ρ):Option ρ :=
  ifb (ilt a g) (ê f a fun d=>Ã (Ġ d (1:Int) (1099511627776:Int)) fun i=>ifb (!i) (c false) (ifb (igt a 0) (ck (a-(1:Int)) fun j=>ê e j fun k=>ifb (ile d k) (c false) (ck (a+(1:Int)) fun l=>b l)) (ck (a+(1:Int)) fun m=>b m))) (h ())
def Lj (a:Val ab) (k:Bool→Option ρ):Option ρ :=
  É (fun(b:Int) c=>pI a a (Ó a) b (fun d=>c d) (fun e=>k e) (fun _=>k (ile (Ó a) 6))) (0:Int)
def nA (a:Val ab):Option (Bool):=Lj a some
def xb (c:Int) (d:Val ab) (b:Val ab) (a:Int) (e:Int→Option ρ) (f:Int→Option ρ) (g:Unit→Option ρ):Option ρ :=
  ifb (ilt a c) (Þ ((ile 0 a)&&(ilt a (ô b))) (Ď b (Int.toNat a) fun h=>Ã (ė d h) fun i=>ifb i (f a) (ck (a+(1:Int)) fun j=>e j))) (g ())
def lg (f:Val ab) (b:Int) (c:Int) (a:Val ab) (d:Int→Int→Val ab→Option ρ) (g:Val au→Option ρ):Option ρ :=
  ifb (ilt c (Ó a)) (Þ ((ile 0 c)&&(ilt c (ô a))) (Ď a (Int.toNat c) fun e=>Ã (ė f e) fun h=>ifb (!h) (Þ ((ile 0 b)&&(ilt b (ô a))) (Ď a (Int.toNat b) fun l=>ck (b+(1:Int)) fun i=>ck (c+(1:Int)) fun j=>d i j (List.set a (Int.toNat b) e))) (ck (c+(1:Int)) fun k=>d b k a))) (g (b,a))
def aax (b:Val ab) (e:Val ab) (k:Val ab→Option ρ):Option ρ :=
  Þ (â (List.length b)) (É (fun(f:Int) g=>xb (Ó b) e b f (fun h=>g h) (fun c=>ifb (ieq c (-1:Int)) (k b) (ck (c+(1:Int)) fun i=>É (fun(d:(Val (.pair tI au))) j=>lg e d.1 d.2.1 d.2.2 (fun l m n=>j (l,m,n)) (fun a=>Þ ((ile 0 a.1)&&(ile a.1 (ô a.2))) (Þ ((ile 0 a.1)&&(ile a.1 (ô (List.take (Int.toNat a.1) a.2++List.replicate (List.length a.2-(Int.toNat a.1)) (0:Int)++List.drop ((Int.toNat a.1)+(List.length a.2-(Int.toNat a.1))) a.2)))) (k (List.take (Int.toNat a.1) (List.drop 0 (List.take (Int.toNat a.1) a.2++List.replicate (List.length a.2-(Int.toNat a.1)) (0:Int)++List.drop ((Int.toNat a.1)+(List.length a.2-(Int.toNat a.1))) a.2))))))) (c,i,b))) (fun _=>k b)) (0:Int))
def Ÿ (a:Val ab) (b:Val ab):Option ((Val ab)):=aax a b some
def xf (d:Val af) (e:Int) (f:Int) (g:Int) (a:Int) (c:Int→Option ρ) (h:Int→Option ρ) (i:Unit→Option ρ):Option ρ :=
  ifb (ilt a e) (ê d a fun b=>ifb (ieq b.1 f) (Ã (Ġ g b.2.1.1 b.2.1.2) fun j=>ifb j (h a) (ck (a+(1:Int)) fun k=>c k)) (ck (a+(1:Int)) fun l=>c l)) (i ())
def aaH (a:Val Ä) (c:Int) (d:Int) (k:Val bi→Option ρ):Option ρ :=
  É (fun(e:Int) f=>xf a.2.2.2.1 (Ó a.2.2.2.1) c d e (fun g=>f g) (fun b=>ifb (ilt b 0) (k (((0:Int),((0:Int),(0:Int)),(0:Int)),false)) (ê a.2.2.2.1 b fun h=>k (h,true))) (fun _=>k (((0:Int),((0:Int),(0:Int)),(0:Int)),false))) (0:Int)
def Cf (a:Val Ä) (b:Int) (c:Int):Option ((Val bi)):=aaH a b c some
def jc (b:Val ac) (c:Int) (d:Int) (a:Int) (e:Int→Option ρ) (f:Int→Option ρ) (g:Unit→Option ρ):Option ρ :=
  ifb (ilt a c) (ê b a fun h=>ifb (ieq h.1 d) (f a) (ck (a+(1:Int)) fun i=>e i)) (g ())
def jb (c:Val ax) (b:Int) (d:Val ab) (e:Int) (f:Int) (a:Int) (g:Int→Option ρ) (h:Int→Option ρ) (i:Unit→Option ρ):Option ρ :=
  ifb (ilt a e) (ê d a fun j=>Ã (jx c j f) fun k=>ifb (ieq k b) (h b) (ck (a+(1:Int)) fun l=>g l)) (i ())
def œ (d:Val ax) (b:Val ab) (e:Int) (f:Int) (c:Val ab) (a:Int) (g:Int→Option ρ) (h:Int→Option ρ) (i:Unit→Option ρ):Option ρ :=
  ifb (ilt a e) (Þ ((ile 0 a)&&(ilt a (ô c))) (Ď c (Int.toNat a) fun j=>É (fun(k:Int) l=>jb d j b (Ó b) f k (fun m=>l m) (fun n=>h n) (fun _=>ck (a+(1:Int)) fun o=>g o)) (0:Int))) (i ())
def Œ (b:Val ab) (c:Int) (d:Int) (e:Int) (f:Val ae) (g:Val aa) (h:Val af) (i:Val ac) (j:Val aa) (k:Int) (a:Int) (l:Int→Option ρ) (m:Int→Option ρ) (n:Unit→Option ρ):Option ρ :=
  ifb (ilt a c) (ê b a fun o=>Ã (Cf ((d,e),f,g,h,i,j) o k) fun p=>ifb p.2 (m (9:Int)) (ck (a+(1:Int)) fun q=>l q)) (n ())
def oT (b:Val Ä) (f:Val ax) (c:Int) (k:Int→Option ρ):Option ρ :=
  ê b.2.2.2.2.1 c fun a=>Ã (Ġ a.1 (1:Int) (1099511627776:Int)) fun l=>ifb (!l) (k (1:Int)) (Ã (oE a.2.1) fun m=>ifb (!m) (k (1:Int)) (Ã (Ġ a.2.2.2.2.1 (-1125899906842624:Int) (1125899906842624:Int)) fun n=>ifb (!n) (k (1:Int)) (Ã (Ġ a.2.2.2.2.2.1 (0:Int) (1073741824:Int)) fun o=>ifb (!o) (k (1:Int)) (Ã (ε a.2.2.2.2.2.2 (-10000:Int) (10000:Int)) fun p=>ifb (!p) (k (1:Int)) (Ã (nA a.2.2.1) fun q=>ifb (!q) (k (1:Int)) (Ã (nA a.2.2.2.1) fun r=>ifb (!r) (k (1:Int)) (Þ ((ile 0 c)&&(ile c (ô b.2.2.2.2.1))) (É (fun(s:Int) t=>jc (List.take (Int.toNat c) b.2.2.2.2.1) (Ó (List.take (Int.toNat c) b.2.2.2.2.1)) a.1 s (fun u=>t u) (fun v=>ifb (ige v 0) (k (6:Int)) (Ã (ï ([a.2.2.1,a.2.2.2.1])) fun d=>É (fun(w:Int) x=>œ f d (Ó ([(5:Int),(4:Int)])) a.2.1 ([(5:Int),(4:Int)]) w (fun y=>x y) (fun z=>k z) (fun _=>É (fun(A:Int) B=>Œ d (Ó d) b.1.1 b.1.2 b.2.1 b.2.2.1 b.2.2.2.1 b.2.2.2.2.1 b.2.2.2.2.2 a.2.1 A (fun C=>B C) (fun D=>k D) (fun _=>Ã (Ÿ a.2.2.1 a.2.2.2.1) fun g=>Ã (Ÿ a.2.2.2.1 a.2.2.1) fun h=>ifb (igt (Ó g) 1) (k (1:Int)) (ifb (igt (Ó h) 1) (k (1:Int)) (ck ((Ó g)+(Ó h)) fun E=>ifb (ieq E 0) (k (1:Int)) (k (0:Int)))))) (0:Int))) (0:Int))) (fun _=>Ã (ï ([a.2.2.1,a.2.2.2.1])) fun e=>É (fun(F:Int) G=>œ f e (Ó ([(5:Int),(4:Int)])) a.2.1 ([(5:Int),(4:Int)]) F (fun H=>G H) (fun I=>k I) (fun _=>É (fun(J:Int) K=>Œ e (Ó e) b.1.1 b.1.2 b.2.1 b.2.2.1 b.2.2.2.1 b.2.2.2.2.1 b.2.2.2.2.2 a.2.1 J (fun L=>K L) (fun M=>k M) (fun _=>Ã (Ÿ a.2.2.1 a.2.2.2.1) fun i=>Ã (Ÿ a.2.2.2.1 a.2.2.1) fun j=>ifb (igt (Ó i) 1) (k (1:Int)) (ifb (igt (Ó j) 1) (k (1:Int)) (ck ((Ó i)+(Ó j)) fun N=>ifb (ieq N 0) (k (1:Int)) (k (0:Int)))))) (0:Int))) (0:Int))) (0:Int)))))))))
def ŋ (a:Val Ä) (b:Val ax) (c:Int):Option (Int):=oT a b c some
def oz (b:Val Ä) (s:Val ax):Option (List Int) :=
  Ã (PS (fun u=>Ņ u.1 u.2 s) (b.2.2.1:List (Int×Int))) fun a=>Ã (PS (fun i=>ο b s i) (yN (b.2.2.2.1:List (Val Ŏ)).length)) fun c =>
    Ã (PS (fun i=>ŋ b s i) (yN (b.2.2.2.2.1:List (Val Ì)).length)) fun d=>Ã (PS (fun u=>Ņ u.1 u.2 s) (b.2.2.2.2.2:List (Int×Int))) fun e=>some (a++(c++(d++e)))
def Sk (a:Val Ä) (k:Int→Option ρ):Option ρ :=
  Ã (ε a.1 (0:Int) (1000000:Int)) fun d=>ifb (!d) (k (1:Int)) (ifb (igt (Ó a.2.1) 12) (k (2:Int)) (ifb (igt (Ó a.2.2.1) 40) (k (2:Int)) (ifb (igt (Ó a.2.2.2.1) 12) (k (2:Int)) (ifb (igt (Ó a.2.2.2.2.1) 40) (k (2:Int)) (ifb (igt (Ó a.2.2.2.2.2) 10) (k (2:Int)) (Ã (Ζ a) fun b=>ifb (ine b 0) (k b) (Ã (iu a) fun e=>ace (oz a e) (fun f=>k f) (Ã (rG a) fun c=>ifb (igt (Ó c) 59) (k (2:Int)) (ck ((2:Int)*(Ó a.2.1)) fun g=>ck ((Ó c)-(Ó a.2.1)) fun h=>ck ((2:Int)*h) fun i=>ck (g+i) fun j=>ck ((2:Int)*(Ó a.2.2.2.2.1)) fun l=>ck (j+l) fun m=>ifb (igt m 300) (k (2:Int)) (k (0:Int)))))))))))
def ù (a:Val Ä):Option (Int):=Sk a some
def BU (l:List (Val Ï)) (m:List (Int×Bool)):Option (List (Val Ï)) :=
  Þ (â l.length) (some (l.filter fun g=>(uF (k:=tI) (v:=.bool) g.1 m).getD false))
def vg (c:Val ab) (d:Int) (a:Int) (b:Val aq) (e:Int→Val aq→Option ρ) (f:Val aq→Option ρ):Option ρ :=
  ifb (ilt a d) (ê c a fun g=>ck (a+(1:Int)) fun h=>e h (OO (k:=tI) (v:=.bool) g true b)) (f b)
def BL (j:Val aa) (l:Int) (f:Val ae) (g:Val ac) (b:Int) (c:Val aq) (d:Val aq) (e:Int→Val aq→Val aq→Option ρ) (m:(Val (.pair aq aq))→Option ρ):Option ρ :=
  ifb (ilt b l) (ê j b fun a=>ifb (Ě a.1 0) (none) (ifb (Ě a.1 1) (ê f a.2 fun n=>ck (b+(1:Int)) fun o=>e o (OO (k:=tI) (v:=.bool) n.1 true c) d) (ifb (Ě a.1 2) (ê f a.2 fun p=>ck (b+(1:Int)) fun q=>e q (OO (k:=tI) (v:=.bool) p.1 true c) d) (Þ (Ě a.1 3) (ê g a.2 fun r=>ê g a.2 fun s=>Ã (ï ([r.2.2.1,s.2.2.2.1])) fun h=>É (fun(i:(Val (.pair tI aq))) t=>vg h (Ó h) i.1 i.2 (fun u w=>t (u,w)) (fun x=>ck (b+(1:Int)) fun y=>e y x (OO (k:=tI) (v:=.bool) a.2 true d))) ((0:Int),c)))))) (m (c,d))
def vf (c:Val aa) (d:Int) (a:Int) (b:Val aq) (e:Int→Val aq→Option ρ) (f:Val aq→Option ρ):Option ρ :=
  ifb (ilt a d) (ê c a fun g=>ck (a+(1:Int)) fun h=>e h (OO (k:=tI) (v:=.bool) g.1 true b)) (f b)
def ve (e:Val aa) (f:Int) (g:Val aq) (a:Int) (b:Val aa) (c:Int→Val aa→Option ρ) (h:Val aa→Option ρ):Option ρ :=
  ifb (ilt a f) (ê e a fun d=>abL (k:=tI) (v:=.bool) d.1 g (fun i=>ifb i (Þ (â ((List.length b)+(List.length ([d])))) (ck (a+(1:Int)) fun j=>c j (b++([d])))) (ck (a+(1:Int)) fun l=>c l b)) (ck (a+(1:Int)) fun m=>c m b)) (h b)
def vd (e:Val af) (f:Int) (g:Val aq) (a:Int) (b:Val af) (c:Int→Val af→Option ρ) (h:Val af→Option ρ):Option ρ :=
  ifb (ilt a f) (ê e a fun d=>abL (k:=tI) (v:=.bool) d.1 g (fun i=>ifb i (Þ (â ((List.length b)+(List.length ([d])))) (ck (a+(1:Int)) fun j=>c j (b++([d])))) (ck (a+(1:Int)) fun l=>c l b)) (ck (a+(1:Int)) fun m=>c m b)) (h b)
def vc (e:Val ac) (f:Int) (g:Val aq) (a:Int) (b:Val ac) (d:Int→Val ac→Option ρ) (h:Val ac→Option ρ):Option ρ :=
  ifb (ilt a f) (ê e a fun c=>abL (k:=tI) (v:=.bool) a g (fun i=>ifb i (Þ (â (List.length c.2.2.1)) (Þ (â (List.length c.2.2.2.1)) (Þ (â ((List.length b)+(List.length ([c])))) (ck (a+(1:Int)) fun j=>d j (b++([c])))))) (ck (a+(1:Int)) fun l=>d l b)) (ck (a+(1:Int)) fun m=>d m b)) (h b)
def oi (p:Val aW) (v:Val aj) (k:Val Ä→Option ρ):Option ρ :=
  É (fun(a:Val aC) d=>ve v.2.2.2.1 (Ó v.2.2.2.1) v.2.2.2.2.2.2.2.2.2.2.2.2.2.2.2.2.2.2.2.2.2.1 a.1 a.2 (fun e f=>d (e,f)) (fun g=>É (fun(b:(Val (.pair tI af))) h=>vd v.2.2.2.2.1 (Ó v.2.2.2.2.1) v.2.2.2.2.2.2.2.2.2.2.2.2.2.2.2.2.2.2.2.2.2.1 b.1 b.2 (fun i j=>h (i,j)) (fun l=>É (fun(c:(Val (.pair tI ac))) m=>vc v.2.2.2.2.2.1 (Ó v.2.2.2.2.2.1) v.2.2.2.2.2.2.2.2.2.2.2.2.2.2.2.2.2.2.2.2.2.2.1 c.1 c.2 (fun n o=>m (n,o)) (fun q=>k ((p.1,p.2.1),v.2.2.2.2.2.2.2.2.2.2.2.2.2.2.2.2.2.2.2.2.2.2.2,g,l,q,p.2.2))) ((0:Int),[]))) ((0:Int),[]))) ((0:Int),[])
def HK (a:Val Ä) (d:Val aa) (b:Val aa) (kA:Val aW→Val aj→Option ρ):Option ρ :=
  É (fun(c:(Val (.pair tI (.pair aq aq)))) g=>BL d (Ó d) a.2.1 a.2.2.2.2.1 c.1 c.2.1 c.2.2 (fun h i j=>g (h,i,j)) (fun e=>É (fun(f:(Val (.pair tI aq))) k=>vf b (Ó b) f.1 f.2 (fun l m=>k (l,m)) (fun n=>kA (a.1.1,a.1.2,b) (a.1.1,a.1.2,a.2.1,a.2.2.1,a.2.2.2.1,a.2.2.2.2.1,a.2.2.2.2.2,(0:Int),(0:Int),[],[],[],[],[],a.1.1,a.1.2,a.2.1,a.2.2.1,a.2.2.2.1,a.2.2.2.2.1,a.2.2.2.2.2,n,e.2,[]))) ((0:Int),e.1))) ((0:Int),[],[])
def amF (a:Val Ä) (b:Val aa) (c:Val aa) (k:Val Ä→Option ρ):Option ρ :=
  HK a b c fun p v=>Ã (BU v.2.2.2.2.2.2.2.2.2.2.2.2.2.2.2.2.1 v.2.2.2.2.2.2.2.2.2.2.2.2.2.2.2.2.2.2.2.2.2.1) fun z=>oi p (v.1,v.2.1,v.2.2.1,v.2.2.2.1,v.2.2.2.2.1,v.2.2.2.2.2.1,v.2.2.2.2.2.2.1,v.2.2.2.2.2.2.2.1,v.2.2.2.2.2.2.2.2.1,v.2.2.2.2.2.2.2.2.2.1,v.2.2.2.2.2.2.2.2.2.2.1,v.2.2.2.2.2.2.2.2.2.2.2.1,v.2.2.2.2.2.2.2.2.2.2.2.2.1,v.2.2.2.2.2.2.2.2.2.2.2.2.2.1,v.2.2.2.2.2.2.2.2.2.2.2.2.2.2.1,v.2.2.2.2.2.2.2.2.2.2.2.2.2.2.2.1,v.2.2.2.2.2.2.2.2.2.2.2.2.2.2.2.2.1,v.2.2.2.2.2.2.2.2.2.2.2.2.2.2.2.2.2.1,v.2.2.2.2.2.2.2.2.2.2.2.2.2.2.2.2.2.2.1,v.2.2.2.2.2.2.2.2.2.2.2.2.2.2.2.2.2.2.2.1,v.2.2.2.2.2.2.2.2.2.2.2.2.2.2.2.2.2.2.2.2.1,v.2.2.2.2.2.2.2.2.2.2.2.2.2.2.2.2.2.2.2.2.2.1,v.2.2.2.2.2.2.2.2.2.2.2.2.2.2.2.2.2.2.2.2.2.2.1,z) k
def SO (a:Val Ä) (b:Val aa) (c:Val aa):Option (Val Ä):=amF a b c some
def Ka (a:Val Ì) (k:Bool→Option ρ):Option ρ :=
  ifb (ile (Ó a.2.2.1) 10) (k (ile (Ó a.2.2.2.1) 10)) (k false)
def B0 (a:Val Ì):Option (Bool):=Ka a some
def wi (b:Val ac) (a:Int) (d:Int→Option ρ) (e:Bool→Option ρ) (c:Unit→Option ρ):Option ρ :=
  ifb (ilt a (Ó b)) (ifb (ilt a 50) (ê b a fun f=>Ã (B0 f) fun g=>ifb (!g) (e false) (ck (a+(1:Int)) fun h=>d h)) (c ())) (c ())
def Yv (a:Val Ä) (k:Bool→Option ρ):Option ρ :=
  É (fun(b:Int) c=>wi a.2.2.2.2.1 b (fun d=>c d) (fun e=>k e) (fun _=>ifb (ile (Ó a.2.1) 14) (ifb (ile (Ó a.2.2.1) 45) (ifb (ile (Ó a.2.2.2.1) 14) (ifb (ile (Ó a.2.2.2.2.1) 42) (k (ile (Ó a.2.2.2.2.2) 12)) (k false)) (k false)) (k false)) (k false))) (0:Int)
def O0 (a:Val Ä):Option (Bool):=Yv a some
def ī (c:Val aa) (d:Int) (e:Int) (f:Int) (a:Int) (g:Int→Option ρ) (h:Int→Option ρ) (i:Unit→Option ρ):Option ρ :=
  ifb (ilt a d) (ê c a fun b=>ifb ((Ě e b.1)&&((Ě f b.2)&&true)) (h a) (ck (a+(1:Int)) fun j=>g j)) (i ())
def Β (a:Val aa) (b:Val Â) (k:Int→Option ρ):Option ρ :=
  É (fun(c:Int) d=>ī a (Ó a) b.1 b.2 c (fun e=>d e) (fun f=>k f) (fun _=>k (-1:Int))) (0:Int)
def ý (a:Val aa) (b:Val Â):Option (Int):=Β a b some
def Sj (a:Val Ä) (d:Val Â) (k:Val Â→Option ρ):Option ρ :=
  Ã (ù a) fun b=>ifb (ine b 0) (k ((0:Int),b)) (Ã (rG a) fun e=>Ã (ý e d) fun c=>ifb (ilt c 0) (k ((0:Int),(5:Int))) (ck (c+(1:Int)) fun f=>k (f,(0:Int))))
def š (a:Val Ä) (b:Val Â):Option (Val Â):=Sj a b some
def Fr (a:Val ak) (b:Val Â) (k:Int→Option ρ):Option ρ :=
  Ã (š a.1 b) fun c=>k c.1
def ų (a:Val ak) (b:Val Â):Option (Int):=Fr a b some
def ZW (b:Val Î) (a:Int) (k:Bool→Option ρ):Option ρ :=
  ifb (ige a 0) (k (ilt a b.1)) (k false)
def tg (a:Val Î) (b:Int):Option (Bool):=ZW a b some
def sR (f:Val ah) (g:Int) (d:Int) (e:Val ah) (a:Int) (h:Int→Option ρ) (c:Val Â→Option ρ) (i:Unit→Option ρ):Option ρ :=
  ifb (ilt a g) (ê f a fun b=>Ã (tg (d,e) b.1) fun j=>ifb (!j) (c ((1:Int),a)) (Ã (tg (d,e) b.2.1) fun k=>ifb (!k) (c ((1:Int),a)) (ifb (ieq b.1 b.2.1) (c ((1:Int),a)) (ifb (ilt b.2.2 (-4503599627370496:Int)) (c ((1:Int),a)) (ifb (igt b.2.2 4503599627370496) (c ((1:Int),a)) (ck (a+(1:Int)) fun l=>h l)))))) (i ())
def Rt (a:Val Î) (k:Val Â→Option ρ):Option ρ :=
  ifb (ilt a.1 1) (k ((1:Int),(-1:Int))) (ifb (igt a.1 60) (k ((1:Int),(-1:Int))) (ifb (igt (Ó a.2) 300) (k ((2:Int),(-1:Int))) (É (fun(c:Int) d=>sR a.2 (Ó a.2) a.1 a.2 c (fun e=>d e) (fun b=>k (b.1,b.2)) (fun _=>k ((0:Int),(-1:Int)))) (0:Int))))
def oD (a:Val Î):Option (Val Â):=Rt a some
def iJ (c:Val ah) (d:Int) (b:Int) (a:Int) (e:Int→Int→Option ρ) (f:Int→Option ρ):Option ρ :=
  ifb (ilt a d) (ê c a fun g=>ck (b+(yK g.2.2 (0:Int))) fun h=>ck (a+(1:Int)) fun i=>e h i) (f b)
def Ş (f:Int) (d:Val ab) (a:Int) (b:Val ao) (c:Val ab) (e:Int→Val ao→Val ab→Option ρ) (g:Val aR→Option ρ):Option ρ :=
  ifb (ilt a f) (Þ ((ile 0 a)&&(ilt a (ô d))) (Ď d (Int.toNat a) fun h=>ifb (ine h 1152921504606846976) (Þ (â ((List.length c)+(List.length ([a])))) (Þ ((ile 0 a)&&(ilt a (ô b))) (Ď b (Int.toNat a) fun k=>ck (a+(1:Int)) fun i=>e i (List.set b (Int.toNat a) true) (c++([a]))))) (ck (a+(1:Int)) fun j=>e j b c))) (g (b,c))
def jO (m:Val aq) (j:Int) (d:Int) (n:Val ah) (o:Int) (f:Int) (b:Val ab) (c:Val ao) (e:Val ab) (g:Int→Val ab→Val ao→Val ab→Option ρ) (l:(Val (.pair .bool (.pair ab aR)))→Option ρ) (p:(Val (.pair ab aR))→Option ρ):Option ρ :=
  ifb (ilt f o) (ê n f fun a=>ifb (ine a.1 d) (ck (f+(1:Int)) fun q=>g q b c e) (abL (k:=tI) (v:=.bool) f m (fun r=>ifb r (ck (f+(1:Int)) fun s=>g s b c e) (Þ ((ile 0 d)&&(ilt d (ô b))) (Ď b (Int.toNat d) fun t=>ck (t+a.2.2) fun u=>Þ ((ile 0 a.2.1)&&(ilt a.2.1 (ô b))) (Ď b (Int.toNat a.2.1) fun w=>ifb (ige u w) (ck (f+(1:Int)) fun x=>g x b c e) (Þ ((ile 0 d)&&(ilt d (ô b))) (Ď b (Int.toNat d) fun y=>ck (y+a.2.2) fun h=>Þ ((ile 0 a.2.1)&&(ilt a.2.1 (ô b))) (Ď b (Int.toNat a.2.1) fun M=>Þ ((ile 0 a.2.1)&&(ilt a.2.1 (ô (List.set b (Int.toNat a.2.1) h)))) (Ď (List.set b (Int.toNat a.2.1) h) (Int.toNat a.2.1) fun z=>ifb (ilt z j) (l (false,(List.set b (Int.toNat a.2.1) h),c,e)) (Þ ((ile 0 a.2.1)&&(ilt a.2.1 (ô c))) (Ď c (Int.toNat a.2.1) fun A=>ifb (!A) (Þ (â ((List.length e)+(List.length ([a.2.1])))) (Þ ((ile 0 a.2.1)&&(ilt a.2.1 (ô c))) (Ď c (Int.toNat a.2.1) fun N=>ck (f+(1:Int)) fun B=>g B (List.set b (Int.toNat a.2.1) h) (List.set c (Int.toNat a.2.1) true) (e++([a.2.1]))))) (ck (f+(1:Int)) fun C=>g C (List.set b (Int.toNat a.2.1) h) c e))))))))))) (Þ ((ile 0 d)&&(ilt d (ô b))) (Ď b (Int.toNat d) fun D=>ck (D+a.2.2) fun E=>Þ ((ile 0 a.2.1)&&(ilt a.2.1 (ô b))) (Ď b (Int.toNat a.2.1) fun F=>ifb (ige E F) (ck (f+(1:Int)) fun G=>g G b c e) (Þ ((ile 0 d)&&(ilt d (ô b))) (Ď b (Int.toNat d) fun H=>ck (H+a.2.2) fun i=>Þ ((ile 0 a.2.1)&&(ilt a.2.1 (ô b))) (Ď b (Int.toNat a.2.1) fun O=>Þ ((ile 0 a.2.1)&&(ilt a.2.1 (ô (List.set b (Int.toNat a.2.1) i)))) (Ď (List.set b (Int.toNat a.2.1) i) (Int.toNat a.2.1) fun I=>ifb (ilt I j) (l (false,(List.set b (Int.toNat a.2.1) i),c,e)) (Þ ((ile 0 a.2.1)&&(ilt a.2.1 (ô c))) (Ď c (Int.toNat a.2.1) fun J=>ifb (!J) (Þ (â ((List.length e)+(List.length ([a.2.1])))) (Þ ((ile 0 a.2.1)&&(ilt a.2.1 (ô c))) (Ď c (Int.toNat a.2.1) fun P=>ck (f+(1:Int)) fun K=>g K (List.set b (Int.toNat a.2.1) i) (List.set c (Int.toNat a.2.1) true) (e++([a.2.1]))))) (ck (f+(1:Int)) fun L=>g L (List.set b (Int.toNat a.2.1) i) c e)))))))))))) (p (b,c,e))
def į (l:Val aq) (m:Int) (n:Int) (k:Val ah) (h:Val ab) (d:Val ao) (b:Val ab) (c:Val ab) (o:Val ab→Val ao→Val ab→Val ab→Option ρ) (i:(Val (.pair .bool aZ))→Option ρ):Option ρ :=
  ifb (ieq (Ó c) 0) (i (true,h,d,b,c)) (Þ (ilt 0 (ô c)) (Ď c 0 fun a=>Þ (ile 1 (ô c)) (Þ (decide (1+(List.length c-1)=List.length c)) (Þ ((ile 0 a)&&(ilt a (ô d))) (Ď d (Int.toNat a) fun x=>Þ ((ile 0 a)&&(ilt a (ô b))) (Ď b (Int.toNat a) fun p=>ck (p+(1:Int)) fun e=>Þ ((ile 0 a)&&(ilt a (ô b))) (Ď b (Int.toNat a) fun y=>Þ ((ile 0 a)&&(ilt a (ô (List.set b (Int.toNat a) e)))) (Ď (List.set b (Int.toNat a) e) (Int.toNat a) fun q=>ck (n+(1:Int)) fun r=>ifb (igt q r) (i (false,h,(List.set d (Int.toNat a) false),(List.set b (Int.toNat a) e),(List.drop 1 c))) (É (fun(f:(Val (.pair tI (.pair ab aR)))) s=>jO l m a k (Ó k) f.1 f.2.1 f.2.2.1 f.2.2.2 (fun t u v w=>s (t,u,v,w)) (fun g=>i (g.1,g.2.1,g.2.2.1,(List.set b (Int.toNat a) e),g.2.2.2)) (fun j=>o j.1 j.2.1 (List.set b (Int.toNat a) e) j.2.2)) ((0:Int),h,(List.set d (Int.toNat a) false),(List.drop 1 c)))))))))))
def jN (c:Int) (d:Int) (a:Int) (b:Val ab) (e:Int→Val ab→Option ρ) (f:Val ab→Option ρ):Option ρ :=
  ifb (ilt a d) (Þ ((ile 0 a)&&(ilt a (ô b))) (Ď b (Int.toNat a) fun g=>ck (g-c) fun h=>Þ ((ile 0 a)&&(ilt a (ô b))) (Ď b (Int.toNat a) fun j=>ck (a+(1:Int)) fun i=>e i (List.set b (Int.toNat a) h)))) (f b)
def AE (a:Val Î) (h:Val aq) (k:(Val (.pair ab .bool))→Option ρ):Option ρ :=
  Þ ((ile 0 a.1)&&(â (Int.toNat a.1))) (Þ ((ile 0 a.1)&&(â (Int.toNat a.1))) (Þ ((ile 0 a.1)&&(â (Int.toNat a.1))) (É (fun(e:Val Â) i=>iJ a.2 (Ó a.2) e.1 e.2 (fun j l=>i (j,l)) (fun m=>É (fun(d:(Val (.pair tI aR))) n=>Ş a.1 (List.replicate (Int.toNat a.1) (0:Int)) d.1 d.2.1 d.2.2 (fun o p q=>n (o,p,q)) (fun f=>É (fun(c:Val aZ) r=>į h m a.1 a.2 c.1 c.2.1 c.2.2.1 c.2.2.2 (fun s t u v=>r (s,t,u,v)) (fun b=>ifb (!b.1) (k ([],false)) (Þ (ilt 0 (ô b.2.1)) (Ď b.2.1 0 fun w=>É (fun(g:Val au) x=>jN w (Ó b.2.1) g.1 g.2 (fun y z=>x (y,z)) (fun A=>k (A,true))) ((0:Int),b.2.1))))) ((List.replicate (Int.toNat a.1) (0:Int)),f.1,(List.replicate (Int.toNat a.1) (0:Int)),f.2))) ((0:Int),(List.replicate (Int.toNat a.1) false),[]))) ((0:Int),(0:Int)))))
def lF (a:Val Î) (b:Val aq):Option ((Val (.pair ab .bool))):=AE a b some
def sQ (b:Val ab) (c:Int) (d:Int) (e:Val ah) (a:Int) (f:Int→Option ρ) (g:Int→Option ρ) (h:Unit→Option ρ):Option ρ :=
  ifb (ilt a c) (ê b a fun i=>Ã (tg (d,e) i) fun j=>ifb (!j) (g (1:Int)) (ck (a+(1:Int)) fun k=>f k)) (h ())
def Rk (a:Val Î) (b:Val ab) (k:Int→Option ρ):Option ρ :=
  Ã (oD a) fun c=>ifb (ine c.1 0) (k c.1) (É (fun(d:Int) e=>sQ b (Ó b) a.1 a.2 d (fun f=>e f) (fun g=>k g) (fun _=>Ã (lF a ([])) fun h=>ifb (!h.2) (k (9:Int)) (k (0:Int)))) (0:Int))
def Jk (a:Val Î) (b:Val ab):Option (Int):=Rk a b some
def pH (c:Int) (a:Int) (b:Val ab) (d:Int→Val ab→Option ρ) (e:Val ab→Option ρ):Option ρ :=
  ifb (ilt a c) (Þ ((ile 0 a)&&(ilt a (ô b))) (Ď b (Int.toNat a) fun g=>ck (a+(1:Int)) fun f=>d f (List.set b (Int.toNat a) (1152921504606846976:Int)))) (e b)
def wT (c:Val ah) (d:Int) (b:Int) (a:Int) (e:Int→Int→Option ρ) (f:Int→Option ρ):Option ρ :=
  ifb (ilt a d) (ê c a fun g=>ck (b+(yK g.2.2 (0:Int))) fun h=>ck (a+(1:Int)) fun i=>e h i) (f b)
def wS (f:Int) (d:Val ab) (a:Int) (b:Val ao) (c:Val ab) (e:Int→Val ao→Val ab→Option ρ) (g:Val aR→Option ρ):Option ρ :=
  ifb (ilt a f) (Þ ((ile 0 a)&&(ilt a (ô d))) (Ď d (Int.toNat a) fun h=>ifb (ine h 1152921504606846976) (Þ (â ((List.length c)+(List.length ([a])))) (Þ ((ile 0 a)&&(ilt a (ô b))) (Ď b (Int.toNat a) fun k=>ck (a+(1:Int)) fun i=>e i (List.set b (Int.toNat a) true) (c++([a]))))) (ck (a+(1:Int)) fun j=>e j b c))) (g (b,c))
def H8 (m:Val aq) (j:Int) (d:Int) (n:Val ah) (o:Int) (f:Int) (b:Val ab) (c:Val ao) (e:Val ab) (g:Int→Val ab→Val ao→Val ab→Option ρ) (l:(Val (.pair .bool (.pair ab aR)))→Option ρ) (p:(Val (.pair ab aR))→Option ρ):Option ρ :=
  ifb (ilt f o) (ê n f fun a=>ifb (ine a.1 d) (ck (f+(1:Int)) fun q=>g q b c e) (abL (k:=tI) (v:=.bool) f m (fun r=>ifb r (ck (f+(1:Int)) fun s=>g s b c e) (Þ ((ile 0 d)&&(ilt d (ô b))) (Ď b (Int.toNat d) fun t=>ck (t+a.2.2) fun u=>Þ ((ile 0 a.2.1)&&(ilt a.2.1 (ô b))) (Ď b (Int.toNat a.2.1) fun w=>ifb (ige u w) (ck (f+(1:Int)) fun x=>g x b c e) (Þ ((ile 0 d)&&(ilt d (ô b))) (Ď b (Int.toNat d) fun y=>ck (y+a.2.2) fun h=>Þ ((ile 0 a.2.1)&&(ilt a.2.1 (ô b))) (Ď b (Int.toNat a.2.1) fun M=>Þ ((ile 0 a.2.1)&&(ilt a.2.1 (ô (List.set b (Int.toNat a.2.1) h)))) (Ď (List.set b (Int.toNat a.2.1) h) (Int.toNat a.2.1) fun z=>ifb (ilt z j) (l (false,(List.set b (Int.toNat a.2.1) h),c,e)) (Þ ((ile 0 a.2.1)&&(ilt a.2.1 (ô c))) (Ď c (Int.toNat a.2.1) fun A=>ifb (!A) (Þ (â ((List.length e)+(List.length ([a.2.1])))) (Þ ((ile 0 a.2.1)&&(ilt a.2.1 (ô c))) (Ď c (Int.toNat a.2.1) fun N=>ck (f+(1:Int)) fun B=>g B (List.set b (Int.toNat a.2.1) h) (List.set c (Int.toNat a.2.1) true) (e++([a.2.1]))))) (ck (f+(1:Int)) fun C=>g C (List.set b (Int.toNat a.2.1) h) c e))))))))))) (Þ ((ile 0 d)&&(ilt d (ô b))) (Ď b (Int.toNat d) fun D=>ck (D+a.2.2) fun E=>Þ ((ile 0 a.2.1)&&(ilt a.2.1 (ô b))) (Ď b (Int.toNat a.2.1) fun F=>ifb (ige E F) (ck (f+(1:Int)) fun G=>g G b c e) (Þ ((ile 0 d)&&(ilt d (ô b))) (Ď b (Int.toNat d) fun H=>ck (H+a.2.2) fun i=>Þ ((ile 0 a.2.1)&&(ilt a.2.1 (ô b))) (Ď b (Int.toNat a.2.1) fun O=>Þ ((ile 0 a.2.1)&&(ilt a.2.1 (ô (List.set b (Int.toNat a.2.1) i)))) (Ď (List.set b (Int.toNat a.2.1) i) (Int.toNat a.2.1) fun I=>ifb (ilt I j) (l (false,(List.set b (Int.toNat a.2.1) i),c,e)) (Þ ((ile 0 a.2.1)&&(ilt a.2.1 (ô c))) (Ď c (Int.toNat a.2.1) fun J=>ifb (!J) (Þ (â ((List.length e)+(List.length ([a.2.1])))) (Þ ((ile 0 a.2.1)&&(ilt a.2.1 (ô c))) (Ď c (Int.toNat a.2.1) fun P=>ck (f+(1:Int)) fun K=>g K (List.set b (Int.toNat a.2.1) i) (List.set c (Int.toNat a.2.1) true) (e++([a.2.1]))))) (ck (f+(1:Int)) fun L=>g L (List.set b (Int.toNat a.2.1) i) c e)))))))))))) (p (b,c,e))
def wR (l:Val aq) (m:Int) (n:Int) (k:Val ah) (h:Val ab) (d:Val ao) (b:Val ab) (c:Val ab) (o:Val ab→Val ao→Val ab→Val ab→Option ρ) (i:(Val (.pair .bool aZ))→Option ρ):Option ρ :=
  ifb (ieq (Ó c) 0) (i (true,h,d,b,c)) (Þ (ilt 0 (ô c)) (Ď c 0 fun a=>Þ (ile 1 (ô c)) (Þ (decide (1+(List.length c-1)=List.length c)) (Þ ((ile 0 a)&&(ilt a (ô d))) (Ď d (Int.toNat a) fun x=>Þ ((ile 0 a)&&(ilt a (ô b))) (Ď b (Int.toNat a) fun p=>ck (p+(1:Int)) fun e=>Þ ((ile 0 a)&&(ilt a (ô b))) (Ď b (Int.toNat a) fun y=>Þ ((ile 0 a)&&(ilt a (ô (List.set b (Int.toNat a) e)))) (Ď (List.set b (Int.toNat a) e) (Int.toNat a) fun q=>ck (n+(1:Int)) fun r=>ifb (igt q r) (i (false,h,(List.set d (Int.toNat a) false),(List.set b (Int.toNat a) e),(List.drop 1 c))) (É (fun(f:(Val (.pair tI (.pair ab aR)))) s=>H8 l m a k (Ó k) f.1 f.2.1 f.2.2.1 f.2.2.2 (fun t u v w=>s (t,u,v,w)) (fun g=>i (g.1,g.2.1,g.2.2.1,(List.set b (Int.toNat a) e),g.2.2.2)) (fun j=>o j.1 j.2.1 (List.set b (Int.toNat a) e) j.2.2)) ((0:Int),h,(List.set d (Int.toNat a) false),(List.drop 1 c)))))))))))
def K7 (a:Val Î) (i:Val aq) (b:Int) (k:Val ab→Option ρ):Option ρ :=
  Þ ((ile 0 a.1)&&(â (Int.toNat a.1))) (É (fun(f:Val au) j=>pH (Ó (List.replicate (Int.toNat a.1) (0:Int))) f.1 f.2 (fun l m=>j (l,m)) (fun c=>Þ ((ile 0 b)&&(ilt b (ô c))) (Ď c (Int.toNat b) fun B=>Þ ((ile 0 a.1)&&(â (Int.toNat a.1))) (Þ ((ile 0 a.1)&&(â (Int.toNat a.1))) (É (fun(g:Val Â) n=>wT a.2 (Ó a.2) g.1 g.2 (fun o p=>n (o,p)) (fun q=>É (fun(e:(Val (.pair tI aR))) r=>wS a.1 (List.set c (Int.toNat b) (0:Int)) e.1 e.2.1 e.2.2 (fun s t u=>r (s,t,u)) (fun h=>É (fun(d:Val aZ) v=>wR i q a.1 a.2 d.1 d.2.1 d.2.2.1 d.2.2.2 (fun w x y z=>v (w,x,y,z)) (fun A=>k A.2.1)) ((List.set c (Int.toNat b) (0:Int)),h.1,(List.replicate (Int.toNat a.1) (0:Int)),h.2))) ((0:Int),(List.replicate (Int.toNat a.1) false),[]))) ((0:Int),(0:Int))))))) ((0:Int),(List.replicate (Int.toNat a.1) (0:Int))))
def Cd (a:Val Î) (b:Val aq) (c:Int):Option ((Val ab)):=K7 a b c some
def Rz (a:Val Î) (b:Int) (c:Int) (k:Val Â→Option ρ):Option ρ :=
  Ã (Jk a ([b,c])) fun d=>ifb (ine d 0) (k ((0:Int),d)) (Ã (Cd a ([]) b) fun f=>ê f c fun e=>ifb (ieq e 1152921504606846976) (k ((0:Int),(5:Int))) (k (e,(0:Int))))
def rD (a:Val Î) (b:Int) (c:Int):Option (Val Â):=Rz a b c some
def tE (a:Val ak) (b:Int) (c:Int) (k:Int→Option ρ):Option ρ :=
  Ã (rD a.2 c b) fun d=>k d.1
def Ë (a:Val ak) (b:Int) (c:Int):Option (Int):=tE a b c some
def tD (a:Val ak) (b:Val Â) (k:Int→Option ρ):Option ρ :=
  Ã (ų a b) fun c=>Ã (Ë a (0:Int) c) fun d=>ck (0-d) fun e=>k e
def ir (a:Val ak) (b:Val Â):Option (Int):=tD a b some
def nq (a:Val ak) (b:Val Â) (k:Int→Option ρ):Option ρ :=
  Ã (ų a b) fun c=>Ã (Ë a c (0:Int)) fun d=>k d
def iO (a:Val ak) (b:Val Â):Option (Int):=nq a b some
def np (a:Val ak) (b:Val Â) (k:Val Â→Option ρ):Option ρ :=
  Ã (ir a b) fun c=>Ã (iO a b) fun d=>k (c,d)
def Ż (a:Val ak) (b:Val Â):Option (Val Â):=np a b some
def xh (f:Int) (a:Int) (c:Val ac) (g:Int→Val ac→Option ρ) (h:Val ac→Option ρ):Option ρ :=
  ifb (ilt a f) (Þ ((ile 0 a)&&(ilt a (ô c))) (Ď c (Int.toNat a) fun d=>Þ (â (List.length d.2.2.1)) (Þ (â (List.length d.2.2.2.1)) (Þ ((ile 0 a)&&(ilt a (ô c))) (Ď c (Int.toNat a) fun b=>Þ ((ile 0 a)&&(ilt a (ô (List.set c (Int.toNat a) (b.1,b.2.1,d.2.2.1,b.2.2.2))))) (Ď (List.set c (Int.toNat a) (b.1,b.2.1,d.2.2.1,b.2.2.2)) (Int.toNat a) fun e=>ck (a+(1:Int)) fun i=>g i (List.set (List.set c (Int.toNat a) (b.1,b.2.1,d.2.2.1,b.2.2.2)) (Int.toNat a) (e.1,e.2.1,e.2.2.1,d.2.2.2.1,e.2.2.2.2)))))))) (h c)
def aaL (a:Val Ä) (b:Val Â) (k:Val aM→Option ρ):Option ρ :=
  Ã (ù a) fun c=>ifb (ine c 0) (k ((((0:Int),(0:Int)),[],[],[],[],[]),c)) (Þ (â (List.length a.2.1)) (Þ (â (List.length a.2.2.1)) (Þ (â (List.length a.2.2.2.1)) (Þ (â (List.length a.2.2.2.2.2)) (Þ (â (List.length a.2.2.2.2.1)) (É (fun(d:(Val (.pair tI ac))) g=>xh (Ó a.2.2.2.2.1) d.1 d.2 (fun h i=>g (h,i)) (fun e=>Þ (â ((List.length a.2.2.2.2.2)+(List.length ([b])))) (Ã (ù (a.1,a.2.1,a.2.2.1,a.2.2.2.1,e,(a.2.2.2.2.2++([b])))) fun f=>ifb (ine f 0) (k ((((0:Int),(0:Int)),[],[],[],[],[]),f)) (k ((a.1,a.2.1,a.2.2.1,a.2.2.2.1,e,(a.2.2.2.2.2++([b]))),(0:Int)))))) ((0:Int),a.2.2.2.2.1)))))))
def ki (a:Val Ä) (b:Val Â):Option ((Val aM)):=aaL a b some
def AW (b:Val aY) (a:Val ab) (c:Int) (k:Int→Option ρ):Option ρ :=
  ifb (ieq (Ó a) 0) (k (0:Int)) (ê a (0:Int) fun d=>Ã (ý b.2.1 (d,c)) fun e=>ck (e+(1:Int)) fun f=>k f)
def iW (a:Val aY) (b:Val ab) (c:Int):Option (Int):=AW a b c some
def xa (f:Int) (g:Int) (h:Val af) (i:Int) (j:Int) (b:Int) (a:Int) (d:Int→Int→Option ρ) (k:Int→Option ρ):Option ρ :=
  ifb (ilt a i) (ê h a fun c=>ck (g-(1:Int)) fun l=>ck ((yK c.2.1.2 l)-(BV c.2.1.1 f)) fun m=>ck (m+1) fun e=>ifb (ieq c.1 j) (ifb (igt e 0) (ck (e*c.2.2) fun n=>ck (b+n) fun o=>ck (a+(1:Int)) fun p=>d o p) (ck (a+(1:Int)) fun q=>d b q)) (ck (a+(1:Int)) fun r=>d b r)) (k b)
def w9 (e:Int) (f:Int) (g:Val aa) (h:Int) (i:Int) (a:Int) (b:Val ab) (d:Int→Val ab→Option ρ) (j:Val ab→Option ρ):Option ρ :=
  ifb (ilt a h) (ê g a fun c=>ifb (ieq c.1 i) (ck (f-(1:Int)) fun k=>Ã (Ġ c.2 e k) fun l=>ifb l (Þ (â ((List.length b)+(List.length ([c.2])))) (ck (a+(1:Int)) fun m=>d m (b++([c.2])))) (ck (a+(1:Int)) fun n=>d n b)) (ck (a+(1:Int)) fun o=>d o b)) (j b)
def aau (a:Val Ä) (b:Val Ï) (d:Int) (e:Int) (k:Int→Option ρ):Option ρ :=
  É (fun(f:Val Â) h=>xa d e a.2.2.2.1 (Ó a.2.2.2.1) b.1 f.1 f.2 (fun i j=>h (i,j)) (fun l=>É (fun(g:Val au) m=>w9 d e a.2.2.1 (Ó a.2.2.1) b.1 g.1 g.2 (fun n o=>m (n,o)) (fun c=>Þ (â (List.length c)) (Þ (â (List.length (F5 c))) (ck ((Ó (Cj (F5 c)))*b.2.2.2.2.2) fun p=>ck (l+p) fun q=>k q)))) ((0:Int),[]))) ((0:Int),(0:Int))
def Ce (a:Val Ä) (b:Val Ï) (c:Int) (d:Int):Option (Int):=aau a b c d some
def oS (b:Val ax) (a:Val ab) (k:Val Â→Option ρ):Option ρ :=
  ifb (ieq (Ó a) 0) (k ((0:Int),(1:Int))) (ê a (0:Int) fun c=>abL (k:=tI) (v:=Ï) c b (fun d=>k d.2.2.2.2.1) (k ((0:Int),(0:Int))))
def jr (a:Val ax) (b:Val ab):Option (Val Â):=oS a b some
def sU (b:Val aa) (c:Int) (a:Int) (d:Int→Option ρ) (e:Int→Option ρ) (f:Unit→Option ρ):Option ρ :=
  ifb (ilt a c) (ê b a fun g=>Ã (vP g) fun h=>ifb (!h) (e (1:Int)) (ck (a+(1:Int)) fun i=>d i)) (f ())
def RB (a:Val aa) (k:Int→Option ρ):Option ρ :=
  É (fun(b:Int) c=>sU a (Ó a) b (fun d=>c d) (fun e=>k e) (fun _=>k (0:Int))) (0:Int)
def kI (a:Val aa):Option (Int):=RB a some
def FE (d:Int) (e:Int) (k:Val ĵ→Option ρ):Option ρ :=
  Ã (tj d) fun b=>Ã (tj e) fun c=>Ã (SP b c) fun a=>ifb (Ě a 0) (none) (ifb (Ě a 0) (none) (ifb (igt (IntKind.wrap .u64 (Int.tdiv b a)) 2147483647) (k (((0:Int),(0:Int)),(3:Int))) (ifb (igt (IntKind.wrap .u64 (Int.tdiv c a)) 2147483647) (k (((0:Int),(0:Int)),(3:Int))) (ifb (!((ilt d 0)==(ilt e 0))) (ck (0-(IntKind.wrap .i64 (IntKind.wrap .u64 (Int.tdiv b a)))) fun f=>k ((f,(IntKind.wrap .i64 (IntKind.wrap .u64 (Int.tdiv c a)))),(0:Int))) (k (((IntKind.wrap .i64 (IntKind.wrap .u64 (Int.tdiv b a))),(IntKind.wrap .i64 (IntKind.wrap .u64 (Int.tdiv c a)))),(0:Int)))))))
def rE (a:Int) (b:Int):Option (Val ĵ):=FE a b some
def ahd (a:Val Â) (b:Val Â) (k:Val ĵ→Option ρ):Option ρ :=
  Ã (kI ([a,b])) fun c=>ifb (ine c 0) (k (((0:Int),(0:Int)),c)) (ck (a.1*b.2) fun e=>ck (b.1*a.2) fun f=>ck (e-f) fun g=>ck (a.2*b.2) fun h=>Ã (rE g h) fun d=>k (d.1,d.2))
def aa8 (a:Val Â) (b:Val Â):Option (Val ĵ):=ahd a b some
def wX (a:Val Â) (b:Val Â) (k:Val Â→Option ρ):Option ρ :=
  Ã (aa8 a b) fun c=>k c.1
def xC (a:Val Â) (b:Val Â):Option (Val Â):=wX a b some
def aha (a:Val Â) (b:Val Â) (k:Int→Option ρ):Option ρ :=
  ck (a.1*b.2) fun c=>ck (b.1*a.2) fun d=>ifb ((Ě a.1 b.1)&&((Ě a.2 b.2)&&true)) (k (0:Int)) (ifb (ilt c d) (k (-1:Int)) (ifb (igt c d) (k (1:Int)) (k (0:Int))))
def SQ (a:Val Â) (b:Val Â):Option (Int):=aha a b some
def tS (a:Val è) (k:Bool→Option ρ):Option ρ :=
  Ã (kI ([a.1,a.2])) fun b=>ifb (ieq b 0) (Ã (SQ a.1 a.2) fun c=>k (ile c 0)) (k false)
def t7 (a:Val è):Option (Bool):=tS a some
def ahg (a:Val Â) (b:Val Â) (k:Val ĵ→Option ρ):Option ρ :=
  Ã (kI ([a,b])) fun c=>ifb (ine c 0) (k (((0:Int),(0:Int)),c)) (ck (a.1*b.1) fun e=>ck (a.2*b.2) fun f=>Ã (rE e f) fun d=>k (d.1,d.2))
def SU (a:Val Â) (b:Val Â):Option (Val ĵ):=ahg a b some
def RI (c:Val è) (d:Val Â) (k:Val uk→Option ρ):Option ρ :=
  Ã (t7 c) fun e=>ifb (!e) (k ((((0:Int),(0:Int)),(0:Int),(0:Int)),(1:Int))) (Ã (vP d) fun f=>ifb (!f) (k ((((0:Int),(0:Int)),(0:Int),(0:Int)),(1:Int))) (Ã (SU d c.1) fun a=>ifb (ine a.2 0) (k ((((0:Int),(0:Int)),(0:Int),(0:Int)),a.2)) (Ã (SU d c.2) fun b=>ifb (ine b.2 0) (k ((((0:Int),(0:Int)),(0:Int),(0:Int)),b.2)) (Ã (SQ a.1 b.1) fun g=>ifb (igt g 0) (k ((b.1,a.1),(0:Int))) (k ((a.1,b.1),(0:Int)))))))
def SS (a:Val è) (b:Val Â):Option (Val uk):=RI a b some
def wW (b:Val Â) (a:Val Â) (k:Val è→Option ρ):Option ρ :=
  Ã (SS ((a.1,(1:Int)),a.2,(1:Int)) b) fun c=>k c.1
def pO (a:Val Â) (b:Val Â):Option (Val è):=wW a b some
def Lm (c:Val Ä) (a:Val Ì) (k:Val è→Option ρ):Option ρ :=
  Ã (iu c) fun b=>Ã (Ÿ a.2.2.1 a.2.2.2.1) fun d=>Ã (jr b d) fun e=>Ã (Ÿ a.2.2.2.1 a.2.2.1) fun f=>Ã (jr b f) fun g=>Ã (xC e g) fun h=>Ã (pO h a.2.2.2.2.2.2) fun i=>k i
def ql (a:Val Ä) (b:Val Ì):Option (Val è):=Lm a b some
def Sf (a:Val Ä) (b:Val Ì) (k:Val Â→Option ρ):Option ρ :=
  ck ((Ó b.2.2.1)-(1:Int)) fun c=>ck ((Ó b.2.2.2.1)-(1:Int)) fun d=>ck ((BV (0:Int) c)*a.1.1) fun e=>ck ((BV (0:Int) d)*a.1.2) fun f=>ck (e-f) fun g=>ck ((BV (0:Int) c)*a.1.2) fun h=>ck ((BV (0:Int) d)*a.1.1) fun i=>ck (h-i) fun j=>k (g,j)
def vR (a:Val Ä) (b:Val Ì):Option (Val Â):=Sf a b some
def Ih (b:Int) (a:Int) (k:Int→Option ρ):Option ρ :=
  ifb (Ě a 0) (none) (ck (Int.tdiv b a) fun c=>ifb (Ě a 0) (none) (ifb (ilt (Int.tmod b a) 0) (ck (c-1) fun d=>k d) (k c)))
def vO (a:Int) (b:Int):Option (Int):=Ih a b some
def RK (a:Val Â) (k:Val Â→Option ρ):Option ρ :=
  Ã (kI ([a])) fun b=>ifb (ine b 0) (k ((0:Int),b)) (Ã (vO a.1 a.2) fun c=>k (c,(0:Int)))
def Bi (a:Val Â):Option (Val Â):=RK a some
def aak (a:Val Â) (k:Val Â→Option ρ):Option ρ :=
  Ã (kI ([a])) fun b=>ifb (ine b 0) (k ((0:Int),b)) (ck (0-a.1) fun c=>Ã (vO c a.2) fun d=>ck (0-d) fun e=>k (e,(0:Int)))
def Jl (a:Val Â):Option (Val Â):=aak a some
def aaq (b:Val Ä) (a:Val Ì) (k:Val Â→Option ρ):Option ρ :=
  Ã (ql b a) fun c=>Ã (vR b a) fun d=>Ã (Bi c.2) fun e=>Ã (Jl c.1) fun f=>ck (a.2.2.2.2.1-a.2.2.2.2.2.1) fun g=>ck (g-d.2) fun h=>ck (h-e.1) fun i=>ck (a.2.2.2.2.1+a.2.2.2.2.2.1) fun j=>ck (j-d.1) fun l=>ck (l-f.1) fun m=>k (i,m)
def xB (a:Val Ä) (b:Val Ì):Option (Val Â):=aaq a b some
def w7 (b:Int) (e:Val ab) (h:Int) (j:Int) (k:Int) (l:Val ae) (m:Val aa) (n:Val af) (o:Val ac) (p:Val aa) (q:Int) (r:Int) (s:Int) (t:Int) (u:Int) (v:Int) (w:Int) (x:Int) (a:Int) (f:Val ah) (g:Val aa) (y:Int→Val ah→Val aa→Option ρ) (z:Val xO→Option ρ):Option ρ :=
  ifb (ilt a (Ó e)) (ck (h+a) fun A=>ck (A-1) fun c=>ck (h+a) fun d=>ck (a-(1:Int)) fun B=>ê e B fun C=>ê e a fun D=>Ã (Ce ((j,k),l,m,n,o,p) (q,r,s,(t,u),(v,w),x) C D) fun E=>ck (0-E) fun F=>ck (0-F) fun i=>Þ (â ((List.length f)+(List.length ([(c,d,(0:Int)),(d,c,i)])))) (Þ (â ((List.length g)+(List.length ([((2:Int),b),((2:Int),b)])))) (ck (a+(1:Int)) fun G=>y G (f++([(c,d,(0:Int)),(d,c,i)])) (g++([((2:Int),b),((2:Int),b)]))))) (z (f,g))
def w8 (q:Val ae) (r:Int) (f:Int) (g:Int) (h:Val ae) (i:Val aa) (j:Val af) (k:Val ac) (l:Val aa) (s:Val aa) (t:Int) (b:Int) (d:Val ah) (e:Val aa) (u:Int→Val ah→Val aa→Option ρ) (v:Val xO→Option ρ):Option ρ :=
  ifb (ilt b r) (ê q b fun a=>Ã (pP ((f,g),h,i,j,k,l) a) fun w=>Ã (iW (((f,g),h,i,j,k,l),s,(t,d),e) ([a.1]) a.2.1) fun c=>ck (a.2.2.1+a.2.2.2.1.1) fun x=>ck (a.2.2.1+a.2.2.2.1.2) fun n=>ck (0-x) fun o=>Þ (â ((List.length d)+(List.length ([((0:Int),c,n),(c,(0:Int),o)])))) (Þ (â ((List.length e)+(List.length ([((1:Int),b),((1:Int),b)])))) (É (fun(m:Val aS) y=>w7 b w c f g h i j k l a.1 a.2.1 a.2.2.1 a.2.2.2.1.1 a.2.2.2.1.2 a.2.2.2.2.1.1 a.2.2.2.2.1.2 a.2.2.2.2.2 m.1 m.2.1 m.2.2 (fun z A B=>y (z,A,B)) (fun p=>ck (b+(1:Int)) fun C=>u C p.1 p.2)) ((1:Int),(d++([((0:Int),c,n),(c,(0:Int),o)])),(e++([((1:Int),b),((1:Int),b)])))))) (v (d,e))
def wZ (r:Val ac) (s:Int) (g:Int) (h:Int) (i:Val ae) (j:Val aa) (k:Val af) (l:Val ac) (m:Val aa) (o:Val aa) (p:Int) (a:Int) (c:Val ah) (d:Val aa) (t:Int→Val ah→Val aa→Option ρ) (u:Val xO→Option ρ):Option ρ :=
  ifb (ilt a s) (ê r a fun b=>Ã (Ÿ b.2.2.2.1 b.2.2.1) fun v=>Ã (iW (((g,h),i,j,k,l,m),o,(p,c),d) v b.2.1) fun e=>Ã (Ÿ b.2.2.1 b.2.2.2.1) fun w=>Ã (iW (((g,h),i,j,k,l,m),o,(p,c),d) w b.2.1) fun f=>Ã (xB ((g,h),i,j,k,l,m) b) fun n=>ck (0-n.1) fun q=>Þ (â ((List.length c)+(List.length ([(e,f,n.2),(f,e,q)])))) (Þ (â ((List.length d)+(List.length ([((3:Int),a),((3:Int),a)])))) (ck (a+(1:Int)) fun x=>t x (c++([(e,f,n.2),(f,e,q)])) (d++([((3:Int),a),((3:Int),a)]))))) (u (c,d))
def aat (a:Val Ä) (k:Val aY→Option ρ):Option ρ :=
  Ã (rG a) fun b=>ck ((Ó b)+(1:Int)) fun c=>É (fun(d:Val aS) h=>w8 a.2.1 (Ó a.2.1) a.1.1 a.1.2 a.2.1 a.2.2.1 a.2.2.2.1 a.2.2.2.2.1 a.2.2.2.2.2 b c d.1 d.2.1 d.2.2 (fun i j l=>h (i,j,l)) (fun f=>É (fun(e:Val aS) m=>wZ a.2.2.2.2.1 (Ó a.2.2.2.2.1) a.1.1 a.1.2 a.2.1 a.2.2.1 a.2.2.2.1 a.2.2.2.2.1 a.2.2.2.2.2 b c e.1 e.2.1 e.2.2 (fun n o p=>m (n,o,p)) (fun g=>k (a,b,(c,g.1),g.2))) ((0:Int),f.1,f.2))) ((0:Int),[],[])
def Jn (a:Val Ä):Option ((Val aY)):=aat a some
def Ls (a:Val Ä) (k:(Val (.pair Î (.pair aa tI)))→Option ρ):Option ρ :=
  Ã (ù a) fun b=>ifb (ine b 0) (k (((0:Int),[]),[],b)) (Ã (Jn a) fun c=>k (c.2.2.1,c.2.2.2,(0:Int)))
def Ė (a:Val Ä):Option ((Val (.pair Î (.pair aa tI)))):=Ls a some
def tP (a:Val Î) (k:Val aP→Option ρ):Option ρ :=
  Ã (oD a) fun b=>ifb (ine b.1 0) (k (false,b.1)) (Ã (lF a ([])) fun c=>k (c.2,(0:Int)))
def Ą (a:Val Î):Option ((Val aP)):=tP a some
def ċ (m:Int) (j:Val aa) (b:Int) (c:Int) (d:Int) (e:Val ae) (f:Val aa) (g:Val af) (h:Val ac) (i:Val aa) (k:Int→Int→Int→Val ae→Val aa→Val af→Val ac→Val aa→Option ρ) (n:Val aI→Option ρ) (o:Val ai→Option ρ):Option ρ :=
  ifb (ilt b m) (Þ ((ile 0 b)&&(ilt b (ô j))) (Ď j (Int.toNat b) fun l=>Ã (š ((c,d),e,f,g,h,i) l) fun p=>ifb (ieq p.2 0) (ck (b+(1:Int)) fun q=>k q c d e f g h i) (Ã (ki ((c,d),e,f,g,h,i) l) fun a=>ifb (ine a.2 0) (n (a.2,c,d,e,f,g,h,i)) (ck (b+(1:Int)) fun r=>k r a.1.1.1 a.1.1.2 a.1.2.1 a.1.2.2.1 a.1.2.2.2.1 a.1.2.2.2.2.1 a.1.2.2.2.2.2)))) (o (c,d,e,f,g,h,i))
def Aq (a:Val Ä) (e:Val Â) (k:Val ĵ→Option ρ):Option ρ :=
  Ã (ù a) fun f=>ifb (ine f 0) (Þ (ine f 0) (k (((0:Int),(0:Int)),f))) (É (fun(b:Val aI) h=>ċ (Ó ([e])) ([e]) b.1 b.2.1 b.2.2.1 b.2.2.2.1 b.2.2.2.2.1 b.2.2.2.2.2.1 b.2.2.2.2.2.2.1 b.2.2.2.2.2.2.2 (fun i j l m n o p q=>h (i,j,l,m,n,o,p,q)) (fun g=>Þ (ine g.1 0) (k (((0:Int),(0:Int)),g.1))) (fun c=>Ã (Ė ((c.1,c.2.1),c.2.2)) fun d=>ifb (ine d.2.2 0) (Þ (ine d.2.2 0) (k (((0:Int),(0:Int)),d.2.2))) (Ã (Ą d.1) fun r=>ifb (!r.1) (k (((0:Int),(0:Int)),(9:Int))) (Ã (Ż (((c.1,c.2.1),c.2.2),d.1) e) fun s=>k (s,(0:Int)))))) ((0:Int),a.1.1,a.1.2,a.2.1,a.2.2.1,a.2.2.2.1,a.2.2.2.2.1,a.2.2.2.2.2))
def oC (a:Val Ä) (b:Val Â):Option (Val ĵ):=Aq a b some
def Lu (a:Val ab) (b:Val ab) (k:(Val (.pair ab aK))→Option ρ):Option ρ :=
  Ã (nA a) fun c=>ifb (!c) (k ([],[],(1:Int))) (Ã (nA b) fun d=>ifb (!d) (k ([],[],(1:Int))) (Ã (Ÿ a b) fun e=>Ã (Ÿ b a) fun f=>k (e,f,(0:Int))))
def vS (a:Val ab) (b:Val ab):Option ((Val (.pair ab aK))):=Lu a b some
def Zw (a:Val ab) (b:Int) (k:Bool→Option ρ):Option ρ :=
  Ã (vS a ([])) fun c=>ifb (ieq c.2.2 0) (k (ile (Ó a) b)) (k false)
def tf (a:Val ab) (b:Int):Option (Bool):=Zw a b some
def Q0 (a:Int) (k:Bool→Option ρ):Option ρ :=
  ifb (ige a 0) (k (ile a 20000)) (k false)
def vM (a:Int):Option (Bool):=Q0 a some
def sJ (c:Int) (e:Val ab) (f:Int) (a:Int) (b:Val aa) (g:Int→Val aa→Option ρ) (h:Val aa→Option ρ):Option ρ :=
  ifb (ilt a f) (ê e a fun d=>Þ (â ((List.length b)+(List.length ([(d,c)])))) (ck (a+(1:Int)) fun i=>g i (b++([(d,c)])))) (h b)
def QW (c:Int) (d:Val am) (k:Val aa→Option ρ):Option ρ :=
  Ã (ï d) fun a=>É (fun(b:Val aC) e=>sJ c a (Ó a) b.1 b.2 (fun f g=>e (f,g)) (fun h=>k h)) ((0:Int),[])
def Ŵ (a:Int) (b:Val am):Option ((Val aa)):=QW a b some
def rf (l:Val aa) (m:Int) (i:Int) (b:Int) (c:Int) (d:Val ae) (e:Val aa) (f:Val af) (g:Val ac) (h:Val aa) (j:Int→Int→Int→Val ae→Val aa→Val af→Val ac→Val aa→Option ρ) (n:Val aI→Option ρ) (o:Val ai→Option ρ):Option ρ :=
  ifb (ilt i m) (ê l i fun k=>Ã (š ((b,c),d,e,f,g,h) k) fun p=>ifb (ieq p.2 0) (ck (i+(1:Int)) fun q=>j q b c d e f g h) (Ã (ki ((b,c),d,e,f,g,h) k) fun a=>ifb (ine a.2 0) (n (a.2,b,c,d,e,f,g,h)) (ck (i+(1:Int)) fun r=>j r a.1.1.1 a.1.1.2 a.1.2.1 a.1.2.2.1 a.1.2.2.2.1 a.1.2.2.2.2.1 a.1.2.2.2.2.2))) (o (b,c,d,e,f,g,h))
def wL (e:Val ak) (f:Val aa) (g:Int) (a:Int) (b:Int) (c:Int) (h:Int→Int→Int→Option ρ) (i:Val Â→Option ρ):Option ρ :=
  ifb (ilt a g) (ê f a fun j=>Ã (Ż e j) fun d=>ck (b+d.1) fun k=>ck (c+d.2) fun l=>ck (a+(1:Int)) fun m=>h m k l) (i (b,c))
def ZN (a:Val Ä) (i:Int) (c:Val ab) (k:Val ĵ→Option ρ):Option ρ :=
  Ã (ù a) fun j=>ifb (ine j 0) (k (((0:Int),(0:Int)),j)) (ifb (ieq (Ó c) 0) (k (((0:Int),(0:Int)),(1:Int))) (Ã (tf c (6:Int)) fun q=>ifb (!q) (k (((0:Int),(0:Int)),(1:Int))) (Ã (vM i) fun r=>ifb (!r) (k (((0:Int),(0:Int)),(1:Int))) (Ã (Ŵ i ([c])) fun f=>Ã (ù a) fun g=>ifb (ine g 0) (ifb (ine g 0) (k (((0:Int),(0:Int)),g)) (ck ((Ó c)-(1:Int)) fun l=>ck (l*a.1.1) fun J=>ck (l*a.1.2) fun K=>none)) (É (fun(b:Val aI) s=>rf f (Ó f) b.1 b.2.1 b.2.2.1 b.2.2.2.1 b.2.2.2.2.1 b.2.2.2.2.2.1 b.2.2.2.2.2.2.1 b.2.2.2.2.2.2.2 (fun t u v w x y z A=>s (t,u,v,w,x,y,z,A)) (fun m=>ifb (ine m.1 0) (k (((0:Int),(0:Int)),m.1)) (ck ((Ó c)-(1:Int)) fun n=>ck (n*a.1.1) fun L=>ck (n*a.1.2) fun M=>none)) (fun d=>Ã (Ė ((d.1,d.2.1),d.2.2)) fun e=>ifb (ine e.2.2 0) (ifb (ine e.2.2 0) (k (((0:Int),(0:Int)),e.2.2)) (ck ((Ó c)-(1:Int)) fun o=>ck (o*a.1.1) fun N=>ck (o*a.1.2) fun O=>none)) (Ã (Ą e.1) fun B=>ifb (!B.1) (k (((0:Int),(0:Int)),(9:Int))) (ck ((Ó c)-(1:Int)) fun p=>ck (p*a.1.1) fun C=>ck (p*a.1.2) fun D=>É (fun(h:Val ć) E=>wL (((d.1,d.2.1),d.2.2),e.1) f (Ó f) h.1 h.2.1 h.2.2 (fun F G H=>E (F,G,H)) (fun I=>k (I,(0:Int)))) ((0:Int),C,D))))) ((0:Int),a.1.1,a.1.2,a.2.1,a.2.2.1,a.2.2.2.1,a.2.2.2.2.1,a.2.2.2.2.2))))))
def Jg (a:Val Ä) (b:Int) (c:Val ab):Option (Val ĵ):=ZN a b c some
def tO (m:Int) (j:Val aa) (b:Int) (c:Int) (d:Int) (e:Val ae) (f:Val aa) (g:Val af) (h:Val ac) (i:Val aa) (k:Int→Int→Int→Val ae→Val aa→Val af→Val ac→Val aa→Option ρ) (n:Val aI→Option ρ) (o:Val ai→Option ρ):Option ρ :=
  ifb (ilt b m) (Þ ((ile 0 b)&&(ilt b (ô j))) (Ď j (Int.toNat b) fun l=>Ã (š ((c,d),e,f,g,h,i) l) fun p=>ifb (ieq p.2 0) (ck (b+(1:Int)) fun q=>k q c d e f g h i) (Ã (ki ((c,d),e,f,g,h,i) l) fun a=>ifb (ine a.2 0) (n (a.2,c,d,e,f,g,h,i)) (ck (b+(1:Int)) fun r=>k r a.1.1.1 a.1.1.2 a.1.2.1 a.1.2.2.1 a.1.2.2.2.1 a.1.2.2.2.2.1 a.1.2.2.2.2.2)))) (o (c,d,e,f,g,h,i))
def Fz (b:Val Ä) (e:Val Â) (f:Val Â) (k:Val ĵ→Option ρ):Option ρ :=
  Ã (ù b) fun g=>ifb (ine g 0) (Þ (ine g 0) (k (((0:Int),(0:Int)),g))) (É (fun(c:Val aI) l=>tO (Ó ([e,f])) ([e,f]) c.1 c.2.1 c.2.2.1 c.2.2.2.1 c.2.2.2.2.1 c.2.2.2.2.2.1 c.2.2.2.2.2.2.1 c.2.2.2.2.2.2.2 (fun m n o p q r s t=>l (m,n,o,p,q,r,s,t)) (fun h=>Þ (ine h.1 0) (k (((0:Int),(0:Int)),h.1))) (fun a=>Ã (Ė ((a.1,a.2.1),a.2.2)) fun d=>ifb (ine d.2.2 0) (Þ (ine d.2.2 0) (k (((0:Int),(0:Int)),d.2.2))) (Ã (Ą d.1) fun u=>ifb (!u.1) (k (((0:Int),(0:Int)),(9:Int))) (Ã (ų (((a.1,a.2.1),a.2.2),d.1) e) fun i=>Ã (ų (((a.1,a.2.1),a.2.2),d.1) f) fun j=>Ã (Ë (((a.1,a.2.1),a.2.2),d.1) j i) fun v=>ck (0-v) fun w=>Ã (Ë (((a.1,a.2.1),a.2.2),d.1) i j) fun x=>k ((w,x),(0:Int)))))) ((0:Int),b.1.1,b.1.2,b.2.1,b.2.2.1,b.2.2.2.1,b.2.2.2.2.1,b.2.2.2.2.2))
def xA (a:Val Ä) (b:Val Â) (c:Val Â):Option (Val ĵ):=Fz a b c some
def BN (c:Int) (a:Int) (b:Val ab) (d:Int→Val ab→Option ρ) (e:Val ab→Option ρ):Option ρ :=
  ifb (ilt a c) (Þ ((ile 0 a)&&(ilt a (ô b))) (Ď b (Int.toNat a) fun g=>ck (a+(1:Int)) fun f=>d f (List.set b (Int.toNat a) (1152921504606846976:Int)))) (e b)
def ZX (c:Int) (a:Int) (b:Val ab) (d:Int→Val ab→Option ρ) (e:Val ab→Option ρ):Option ρ :=
  ifb (ilt a c) (Þ ((ile 0 a)&&(ilt a (ô b))) (Ď b (Int.toNat a) fun g=>ck (a+(1:Int)) fun f=>d f (List.set b (Int.toNat a) (1152921504606846976:Int)))) (e b)
def H7 (d:Val ab) (f:Val ah) (g:Int) (c:Int) (b:Val ab) (e:Int→Val ab→Option ρ) (h:Val ab→Option ρ):Option ρ :=
  ifb (ilt c g) (ê f c fun a=>ê d a.2.1 fun i=>ifb (ine i 1152921504606846976) (Þ ((ile 0 a.1)&&(ilt a.1 (ô b))) (Ď b (Int.toNat a.1) fun j=>ê d a.2.1 fun k=>ck (a.2.2+k) fun l=>Þ ((ile 0 a.1)&&(ilt a.1 (ô b))) (Ď b (Int.toNat a.1) fun o=>ck (c+(1:Int)) fun m=>e m (List.set b (Int.toNat a.1) (yK j l))))) (ck (c+(1:Int)) fun n=>e n b)) (h b)
def OU (i:Int) (b:Int) (d:Val ah) (e:Int) (a:Val am) (j:Int→Val am→Option ρ) (k:Val am→Option ρ):Option ρ :=
  ifb (ilt e i) (ck ((Ó a)-(1:Int)) fun c=>Þ ((ile 0 c)&&(ilt c (ô a))) (Ď a (Int.toNat c) fun l=>Þ ((ile 0 b)&&(â (Int.toNat b))) (É (fun(f:Val au) m=>ZX (Ó (List.replicate (Int.toNat b) (0:Int))) f.1 f.2 (fun n o=>m (n,o)) (fun p=>É (fun(g:Val au) q=>H7 l d (Ó d) g.1 g.2 (fun r s=>q (r,s)) (fun h=>Þ (â ((List.length a)+(List.length ([h])))) (ck (e+(1:Int)) fun t=>j t (a++([h]))))) ((0:Int),p))) ((0:Int),(List.replicate (Int.toNat b) (0:Int)))))) (k a)
def Ri (a:Val Î) (b:Int) (f:Int) (k:Val am→Option ρ):Option ρ :=
  Þ ((ile 0 a.1)&&(â (Int.toNat a.1))) (É (fun(d:Val au) g=>BN (Ó (List.replicate (Int.toNat a.1) (0:Int))) d.1 d.2 (fun h i=>g (h,i)) (fun c=>Þ ((ile 0 b)&&(ilt b (ô c))) (Ď c (Int.toNat b) fun o=>É (fun(e:Val aT) j=>OU f a.1 a.2 e.1 e.2 (fun l m=>j (l,m)) (fun n=>k n)) ((0:Int),[(List.set c (Int.toNat b) (0:Int))])))) ((0:Int),(List.replicate (Int.toNat a.1) (0:Int))))
def Bf (a:Val Î) (b:Int) (c:Int):Option ((Val am)):=Ri a b c some
def MK (d:Int) (c:Int) (e:Val ah) (a:Int) (b:Val aU) (f:Int→Val aU→Option ρ) (g:Val aU→Option ρ):Option ρ :=
  ifb (ilt a d) (Ã (Bf (c,e) a c) fun h=>Þ ((ile 0 a)&&(ilt a (ô b))) (Ď b (Int.toNat a) fun j=>ck (a+(1:Int)) fun i=>f i (List.set b (Int.toNat a) h))) (g b)
def MG (g:Int) (h:Val am) (j:Val ah) (k:Int) (e:Int) (b:Int) (a:Int) (c:Val ab) (f:Int→Int→Int→Val ab→Option ρ) (i:(Val (.pair tI au))→Option ρ):Option ρ :=
  ifb (ilt a k) (ê j a fun d=>ifb (ieq d.1 e) (ck (g-(1:Int)) fun l=>ê h l fun m=>ê m d.2.1 fun n=>ifb (ine n 1152921504606846976) (ck (b+d.2.2) fun o=>ck (g-(1:Int)) fun p=>ê h p fun q=>ê q d.2.1 fun r=>ck (o+r) fun s=>ifb (ilt s 0) (Þ (â ((List.length c)+(List.length ([a])))) (ck (b+d.2.2) fun t=>i (d.2.1,t,(c++([a]))))) (ck (a+(1:Int)) fun u=>f e b u c)) (ck (a+(1:Int)) fun v=>f e b v c)) (ck (a+(1:Int)) fun w=>f e b w c)) (i (e,b,c))
def MH (f:Val am) (d:Val ah) (g:Int) (b:Int) (h:Int) (e:Val ab) (i:Int→Int→Int→Val ab→Option ρ) (j:Val ab→Option ρ):Option ρ :=
  ifb (igt b 0) (É (fun(a:Val aQ) k=>MG b f d (Ó d) a.1 a.2.1 a.2.2.1 a.2.2.2 (fun l m n o=>k (l,m,n,o)) (fun c=>ck (b-(1:Int)) fun p=>i c.1 p c.2.1 c.2.2)) (g,h,(0:Int),e)) (j e)
def MI (e:Int) (h:Val ah) (i:Int) (j:Int) (k:Val ah) (b:Val aU) (c:Int) (f:Int→Option ρ) (l:Unit→Option ρ) (m:Val au→Option ρ) (n:Unit→Option ρ):Option ρ :=
  ifb (ilt c i) (ê h c fun a=>Þ ((ile 0 a.1)&&(ilt a.1 (ô b))) (Ď b (Int.toNat a.1) fun o=>ck (e-(1:Int)) fun p=>ê o p fun q=>ê q a.2.1 fun g=>ifb (ieq g 1152921504606846976) (ck (c+(1:Int)) fun r=>f r) (ck (a.2.2+g) fun s=>ifb (ige s 0) (ck (c+(1:Int)) fun t=>f t) (ifb (igt e j) (l ()) (Þ ((ile 0 a.1)&&(ilt a.1 (ô b))) (Ď b (Int.toNat a.1) fun u=>É (fun(d:Val aQ) v=>MH u k d.1 d.2.1 d.2.2.1 d.2.2.2 (fun w x y z=>v (w,x,y,z)) (fun A=>m ((0:Int),A))) (a.1,e,(0:Int),[]))))))) (n ())
def MJ (d:Int) (a:Val ah) (e:Val aU) (b:Int) (f:Int→Option ρ) (g:Unit→Option ρ) (h:Val au→Option ρ):Option ρ :=
  É (fun(i:Int) j=>MI b a (Ó a) d a e i (fun k=>j k) (fun _=>g ()) (fun c=>h (c.1,c.2)) (fun _=>ck (b+(1:Int)) fun l=>f l)) (0:Int)
def Rr (a:Val Î) (k:Val aK→Option ρ):Option ρ :=
  Ã (oD a) fun b=>ifb (ine b.1 0) (k ([],b.1)) (Ã (lF a ([])) fun e=>ifb e.2 (k ([],(5:Int))) (Þ ((ile 0 a.1)&&(â (Int.toNat a.1))) (É (fun(c:(Val (.pair tI aU))) f=>MK (Ó (List.replicate (Int.toNat a.1) ([]:Val am))) a.1 a.2 c.1 c.2 (fun g h=>f (g,h)) (fun i=>É (fun(j:Int) l=>MJ a.1 a.2 i j (fun m=>l m) (fun _=>k ([],(5:Int))) (fun d=>k (d.2,d.1))) (1:Int))) ((0:Int),(List.replicate (Int.toNat a.1) ([]:Val am))))))
def Bg (a:Val Î):Option ((Val aK)):=Rr a some
def nM (d:Val aa) (e:Val ab) (f:Int) (a:Int) (b:Val aa) (g:Int→Val aa→Option ρ) (h:Val aa→Option ρ):Option ρ :=
  ifb (ilt a f) (ê e a fun i=>ê d i fun c=>Þ (â ((List.length b)+(List.length ([c])))) (ck (a+(1:Int)) fun j=>g j (b++([c])))) (h b)
def EU (c:Val Ä) (a:Val ab) (k:Val aa→Option ρ):Option ρ :=
  Ã (Ė c) fun d=>É (fun(b:Val aC) e=>nM d.2.1 a (Ó a) b.1 b.2 (fun f g=>e (f,g)) (fun h=>k h)) ((0:Int),[])
def rA (a:Val Ä) (b:Val ab):Option ((Val aa)):=EU a b some
def Ra (a:Val Ä) (k:(Val (.pair iv tI))→Option ρ):Option ρ :=
  Ã (Ė a) fun b=>ifb (ine b.2.2 0) (k (((((0:Int),(0:Int)),[],[],[],[],[]),((0:Int),(0:Int)),false,(0:Int),[]),b.2.2)) (Ã (Bg b.1) fun c=>ifb (ine c.2 0) (k (((((0:Int),(0:Int)),[],[],[],[],[]),((0:Int),(0:Int)),false,(0:Int),[]),c.2)) (Ã (rA a c.1) fun f=>Ã (SO a f ([])) fun e=>Ã (Ė e) fun g=>Ã (Bg g.1) fun d=>ifb (ine d.2 0) (k (((((0:Int),(0:Int)),[],[],[],[],[]),((0:Int),(0:Int)),false,(0:Int),[]),d.2)) (k ((e,((0:Int),(0:Int)),false,(0:Int),d.1),(0:Int)))))
def Ji (a:Val Ä):Option ((Val (.pair iv tI))):=Ra a some
def zh (k:Val Ä→Option ρ):Option ρ :=
  k (((0:Int),(2:Int)),[((1:Int),(0:Int),(1000:Int),((-5:Int),(5:Int)),((1:Int),(10:Int)),(1:Int)),((2:Int),(0:Int),(1000:Int),((-50:Int),(50:Int)),((1:Int),(4:Int)),(0:Int))],[((1:Int),(10:Int))],[((1:Int),((20:Int),(29:Int)),(3:Int))],[((7:Int),(10:Int),[(1:Int)],[(2:Int)],(-20:Int),(1:Int),(100:Int),(200:Int))],[])
def Ba:Option (Val Ä):=zh some
def ET (a:Val Â) (b:Val Â) (k:Int→Option ρ):Option ρ :=
  ifb (ile b.1 a.1) (ifb (ile a.2 b.2) (k (1:Int)) (ifb (ilt a.2 b.1) (k (2:Int)) (ifb (ilt b.2 a.1) (k (2:Int)) (k (3:Int))))) (ifb (ilt a.2 b.1) (k (2:Int)) (ifb (ilt b.2 a.1) (k (2:Int)) (k (3:Int))))
def rz (a:Val Â) (b:Val Â):Option (Int):=ET a b some
def Ap (m:Int) (j:Val aa) (b:Int) (c:Int) (d:Int) (e:Val ae) (f:Val aa) (g:Val af) (h:Val ac) (i:Val aa) (k:Int→Int→Int→Val ae→Val aa→Val af→Val ac→Val aa→Option ρ) (n:Val aI→Option ρ) (o:Val ai→Option ρ):Option ρ :=
  ifb (ilt b m) (Þ ((ile 0 b)&&(ilt b (ô j))) (Ď j (Int.toNat b) fun l=>Ã (š ((c,d),e,f,g,h,i) l) fun p=>ifb (ieq p.2 0) (ck (b+(1:Int)) fun q=>k q c d e f g h i) (Ã (ki ((c,d),e,f,g,h,i) l) fun a=>ifb (ine a.2 0) (n (a.2,c,d,e,f,g,h,i)) (ck (b+(1:Int)) fun r=>k r a.1.1.1 a.1.1.2 a.1.2.1 a.1.2.2.1 a.1.2.2.2.1 a.1.2.2.2.2.1 a.1.2.2.2.2.2)))) (o (c,d,e,f,g,h,i))
def Q7 (b:Val Ä) (f:Val Â) (a:Val Â) (k:Val Â→Option ρ):Option ρ :=
  Ã (ù b) fun g=>ifb (ine g 0) (ifb (ine g 0) (k ((0:Int),g)) (Þ (igt a.1 a.2) (k ((0:Int),(1:Int))))) (É (fun(c:Val aI) i=>Ap (Ó ([f])) ([f]) c.1 c.2.1 c.2.2.1 c.2.2.2.1 c.2.2.2.2.1 c.2.2.2.2.2.1 c.2.2.2.2.2.2.1 c.2.2.2.2.2.2.2 (fun j l m n o p q r=>i (j,l,m,n,o,p,q,r)) (fun h=>ifb (ine h.1 0) (k ((0:Int),h.1)) (Þ (igt a.1 a.2) (k ((0:Int),(1:Int))))) (fun d=>Ã (Ė ((d.1,d.2.1),d.2.2)) fun e=>ifb (ine e.2.2 0) (ifb (ine e.2.2 0) (k ((0:Int),e.2.2)) (Þ (igt a.1 a.2) (k ((0:Int),(1:Int))))) (Ã (Ą e.1) fun s=>ifb (!s.1) (k ((0:Int),(9:Int))) (ifb (igt a.1 a.2) (k ((0:Int),(1:Int))) (Ã (Ż (((d.1,d.2.1),d.2.2),e.1) f) fun t=>Ã (rz t a) fun u=>k (u,(0:Int))))))) ((0:Int),b.1.1,b.1.2,b.2.1,b.2.2.1,b.2.2.2.1,b.2.2.2.2.1,b.2.2.2.2.2))
def Jh (a:Val Ä) (b:Val Â) (c:Val Â):Option (Val Â):=Q7 a b c some
def sT (b:Val am) (c:Int) (d:Int) (e:Int) (a:Int) (f:Int→Option ρ) (g:Int→Option ρ) (h:Unit→Option ρ):Option ρ :=
  ifb (ilt a c) (ê b a fun i=>ê i d fun j=>ifb (ieq j e) (g a) (ck (a+(1:Int)) fun k=>f k)) (h ())
def ML (g:Int) (h:Val am) (j:Val ah) (k:Int) (l:Int) (e:Int) (b:Int) (a:Int) (c:Val ab) (f:Int→Int→Int→Val ab→Option ρ) (i:(Val (.pair tI au))→Option ρ):Option ρ :=
  ifb (ilt a k) (ê j a fun d=>ifb (ieq d.1 e) (ck (g-(1:Int)) fun m=>ê h m fun n=>ê n d.2.1 fun o=>ifb (ine o 1152921504606846976) (ck (b+d.2.2) fun p=>ck (g-(1:Int)) fun q=>ê h q fun r=>ê r d.2.1 fun s=>ck (p+s) fun t=>ifb (ieq t l) (Þ (â ((List.length c)+(List.length ([a])))) (ck (b+d.2.2) fun u=>i (d.2.1,u,(c++([a]))))) (ck (a+(1:Int)) fun v=>f e b v c)) (ck (a+(1:Int)) fun w=>f e b w c)) (ck (a+(1:Int)) fun x=>f e b x c)) (i (e,b,c))
def sS (f:Val am) (g:Int) (d:Val ah) (h:Int) (b:Int) (i:Int) (e:Val ab) (j:Int→Int→Int→Val ab→Option ρ) (k:Val ab→Option ρ):Option ρ :=
  ifb (igt b 0) (É (fun(a:Val aQ) l=>ML b f d (Ó d) g a.1 a.2.1 a.2.2.1 a.2.2.2 (fun m n o p=>l (m,n,o,p)) (fun c=>ck (b-(1:Int)) fun q=>j c.1 q c.2.1 c.2.2)) (h,i,(0:Int),e)) (k e)
def Rx (a:Val Î) (c:Int) (g:Int) (k:Val aK→Option ρ):Option ρ :=
  Ã (rD a c g) fun b=>ifb (ine b.2 0) (k ([],b.2)) (Ã (Bf a g a.1) fun d=>É (fun(h:Int) i=>sT d (Ó d) c b.1 h (fun j=>i j) (fun l=>É (fun(e:Val aQ) m=>sS d b.1 a.2 e.1 e.2.1 e.2.2.1 e.2.2.2 (fun n o p q=>m (n,o,p,q)) (fun r=>k (r,(0:Int)))) (c,l,(0:Int),[])) (fun _=>É (fun(f:Val aQ) s=>sS d b.1 a.2 f.1 f.2.1 f.2.2.1 f.2.2.2 (fun t u v w=>s (t,u,v,w)) (fun x=>k (x,(0:Int)))) (c,(-1:Int),(0:Int),[]))) (0:Int))
def Bh (a:Val Î) (b:Int) (c:Int):Option ((Val aK)):=Rx a b c some
def wN (a:Val ak) (c:Val aX) (d:(Val (.ptr .bool))) (k:Val ab→Option ρ):Option ρ :=
  Ã (ų a c) fun b=>ifb d (Ã (Bh a.2 (0:Int) b) fun e=>k e.1) (Ã (Bh a.2 b (0:Int)) fun f=>k f.1)
def mq (a:Val ak) (b:Val aX) (c:(Val (.ptr .bool))):Option ((Val ab)):=wN a b c some
def tN (m:Int) (j:Val aa) (b:Int) (c:Int) (d:Int) (e:Val ae) (f:Val aa) (g:Val af) (h:Val ac) (i:Val aa) (k:Int→Int→Int→Val ae→Val aa→Val af→Val ac→Val aa→Option ρ) (n:Val aI→Option ρ) (o:Val ai→Option ρ):Option ρ :=
  ifb (ilt b m) (Þ ((ile 0 b)&&(ilt b (ô j))) (Ď j (Int.toNat b) fun l=>Ã (š ((c,d),e,f,g,h,i) l) fun p=>ifb (ieq p.2 0) (ck (b+(1:Int)) fun q=>k q c d e f g h i) (Ã (ki ((c,d),e,f,g,h,i) l) fun a=>ifb (ine a.2 0) (n (a.2,c,d,e,f,g,h,i)) (ck (b+(1:Int)) fun r=>k r a.1.1.1 a.1.1.2 a.1.2.1 a.1.2.2.1 a.1.2.2.2.1 a.1.2.2.2.2.1 a.1.2.2.2.2.2)))) (o (c,d,e,f,g,h,i))
def tM (a:Int) (b:Int) (d:Int→Option ρ) (c:Unit→Option ρ):Option ρ :=
  ifb (ilt b a) (none) (c ())
def Fy (d:Val Ä) (b:Val Â) (f:Bool) (k:(Val (.pair iv tI))→Option ρ):Option ρ :=
  Ã (ù d) fun i=>ifb (ine i 0) (Þ (ine i 0) (k (((((0:Int),(0:Int)),[],[],[],[],[]),((0:Int),(0:Int)),false,(0:Int),[]),i))) (É (fun(e:Val aI) n=>tN (Ó ([b])) ([b]) e.1 e.2.1 e.2.2.1 e.2.2.2.1 e.2.2.2.2.1 e.2.2.2.2.2.1 e.2.2.2.2.2.2.1 e.2.2.2.2.2.2.2 (fun o p q r s t u v=>n (o,p,q,r,s,t,u,v)) (fun l=>Þ (ine l.1 0) (k (((((0:Int),(0:Int)),[],[],[],[],[]),((0:Int),(0:Int)),false,(0:Int),[]),l.1))) (fun a=>Ã (Ė ((a.1,a.2.1),a.2.2)) fun c=>ifb (ine c.2.2 0) (Þ (ine c.2.2 0) (k (((((0:Int),(0:Int)),[],[],[],[],[]),((0:Int),(0:Int)),false,(0:Int),[]),c.2.2))) (Ã (Ą c.1) fun w=>ifb (!w.1) (k (((((0:Int),(0:Int)),[],[],[],[],[]),((0:Int),(0:Int)),false,(0:Int),[]),(9:Int))) (Ã (mq (((a.1,a.2.1),a.2.2),c.1) b f) fun x=>Ã (rA ((a.1,a.2.1),a.2.2) x) fun y=>Ã (SO ((a.1,a.2.1),a.2.2) y ([b])) fun g=>Ã (ù g) fun j=>ifb (ine j 0) (ifb (ine j 0) (k (((((0:Int),(0:Int)),[],[],[],[],[]),((0:Int),(0:Int)),false,(0:Int),[]),j)) (Ã (ir (((a.1,a.2.1),a.2.2),c.1) b) fun F=>none)) (É (fun(z:Int) A=>tM (0:Int) z (fun B=>A B) (fun _=>Ã (Ė g) fun h=>ifb (ine h.2.2 0) (ifb (ine h.2.2 0) (k (((((0:Int),(0:Int)),[],[],[],[],[]),((0:Int),(0:Int)),false,(0:Int),[]),h.2.2)) (Ã (ir (((a.1,a.2.1),a.2.2),c.1) b) fun G=>none)) (Ã (Ą h.1) fun C=>ifb (!C.1) (k (((((0:Int),(0:Int)),[],[],[],[],[]),((0:Int),(0:Int)),false,(0:Int),[]),(9:Int))) (Ã (ir (((a.1,a.2.1),a.2.2),c.1) b) fun D=>Ã (mq (g,h.1) b f) fun m=>ifb f (Ã (iO (((a.1,a.2.1),a.2.2),c.1) b) fun E=>k ((g,b,f,E,m),(0:Int))) (k ((g,b,f,D,m),(0:Int))))))) (0:Int)))))) ((0:Int),d.1.1,d.1.2,d.2.1,d.2.2.1,d.2.2.2.1,d.2.2.2.2.1,d.2.2.2.2.2))
def xz (a:Val Ä) (b:Val Â) (c:Bool):Option ((Val (.pair iv tI))):=Fy a b c some
def xg (f:Int) (a:Int) (c:Val ac) (g:Int→Val ac→Option ρ) (h:Val ac→Option ρ):Option ρ :=
  ifb (ilt a f) (Þ ((ile 0 a)&&(ilt a (ô c))) (Ď c (Int.toNat a) fun d=>Þ (â (List.length d.2.2.1)) (Þ (â (List.length d.2.2.2.1)) (Þ ((ile 0 a)&&(ilt a (ô c))) (Ď c (Int.toNat a) fun b=>Þ ((ile 0 a)&&(ilt a (ô (List.set c (Int.toNat a) (b.1,b.2.1,d.2.2.1,b.2.2.2))))) (Ď (List.set c (Int.toNat a) (b.1,b.2.1,d.2.2.1,b.2.2.2)) (Int.toNat a) fun e=>ck (a+(1:Int)) fun i=>g i (List.set (List.set c (Int.toNat a) (b.1,b.2.1,d.2.2.1,b.2.2.2)) (Int.toNat a) (e.1,e.2.1,e.2.2.1,d.2.2.2.1,e.2.2.2.2)))))))) (h c)
def aaI (a:Val Ä) (b:Val Ì) (k:Val aM→Option ρ):Option ρ :=
  Þ (â (List.length b.2.2.1)) (Þ (â (List.length b.2.2.2.1)) (Ã (ù a) fun d=>ifb (ine d 0) (k ((((0:Int),(0:Int)),[],[],[],[],[]),d)) (Þ (â (List.length a.2.1)) (Þ (â (List.length a.2.2.1)) (Þ (â (List.length a.2.2.2.1)) (Þ (â (List.length a.2.2.2.2.2)) (Þ (â (List.length a.2.2.2.2.1)) (É (fun(e:(Val (.pair tI ac))) g=>xg (Ó a.2.2.2.2.1) e.1 e.2 (fun h i=>g (h,i)) (fun c=>Þ (â ((List.length c)+(List.length ([b])))) (Ã (ù (a.1,a.2.1,a.2.2.1,a.2.2.2.1,(c++([b])),a.2.2.2.2.2)) fun f=>ifb (ine f 0) (k ((((0:Int),(0:Int)),[],[],[],[],[]),f)) (k ((a.1,a.2.1,a.2.2.1,a.2.2.2.1,(c++([b])),a.2.2.2.2.2),(0:Int)))))) ((0:Int),a.2.2.2.2.1)))))))))
def pQ (a:Val Ä) (b:Val Ì):Option ((Val aM)):=aaI a b some
def RO (b:Val Ä) (a:Val Ì) (c:Val Â) (k:Val ĵ→Option ρ):Option ρ :=
  Ã (ql b a) fun d=>Ã (vR b a) fun e=>Ã (Jl d.1) fun h=>Ã (Bi d.2) fun i=>ck (h.1+e.1) fun j=>ck (j-a.2.2.2.2.2.1) fun f=>ck (i.1+e.2) fun l=>ck (l+a.2.2.2.2.2.1) fun g=>ifb (igt f g) (k (((0:Int),(0:Int)),(5:Int))) (ck (c.1+f) fun m=>ck (c.2+g) fun n=>k ((m,n),(0:Int)))
def vQ (a:Val Ä) (b:Val Ì) (c:Val Â):Option (Val ĵ):=RO a b c some
def FP (g:Val Ä) (a:Val Ì) (k:Val ĵ→Option ρ):Option ρ :=
  Ã (pQ g (a.1,a.2.1,a.2.2.1,a.2.2.2.1,(0:Int),a.2.2.2.2.2)) fun d=>ifb (ine d.2 0) (k (((0:Int),(0:Int)),d.2)) (Ã (Jn d.1) fun b=>ck ((Ó b.2.2.1.2)-(2:Int)) fun c=>Þ ((ile 0 c)&&(ile c (ô b.2.2.1.2))) (Ã (Ÿ a.2.2.1 a.2.2.2.1) fun l=>Ã (iW b l a.2.1) fun h=>Ã (Ÿ a.2.2.2.1 a.2.2.1) fun m=>Ã (iW b m a.2.1) fun i=>Ã (rD (b.2.2.1.1,(List.take (Int.toNat c) b.2.2.1.2)) i h) fun e=>ifb (ine e.2 0) (k (((0:Int),(0:Int)),e.2)) (Ã (rD (b.2.2.1.1,(List.take (Int.toNat c) b.2.2.1.2)) h i) fun f=>ifb (ine f.2 0) (k (((0:Int),(0:Int)),f.2)) (ck (0-f.1) fun n=>Ã (vQ g (a.1,a.2.1,a.2.2.1,a.2.2.2.1,(0:Int),a.2.2.2.2.2) (n,e.1)) fun j=>k (j.1,j.2)))))
def xE (a:Val Ä) (b:Val Ì):Option (Val ĵ):=FP a b some
def RM (a:Val Ä) (b:Int) (k:(Val (.pair Ì tI))→Option ρ):Option ρ :=
  Ã (ù a) fun c=>ifb (ine c 0) (k (((0:Int),(0:Int),[],[],(0:Int),(0:Int),(0:Int),(0:Int)),c)) (ifb (ilt b 0) (k (((0:Int),(0:Int),[],[],(0:Int),(0:Int),(0:Int),(0:Int)),(1:Int))) (ifb (ige b (Ó a.2.2.2.2.1)) (k (((0:Int),(0:Int),[],[],(0:Int),(0:Int),(0:Int),(0:Int)),(1:Int))) (ê a.2.2.2.2.1 b fun d=>k (d,(0:Int)))))
def Jm (a:Val Ä) (b:Int):Option ((Val (.pair Ì tI))):=RM a b some
def aaK (b:Val Ä) (c:Int) (k:Val ĵ→Option ρ):Option ρ :=
  Ã (Jm b c) fun a=>ifb (ine a.2 0) (k (((0:Int),(0:Int)),a.2)) (Ã (xB b a.1) fun d=>k (d,(0:Int)))
def O4 (a:Val Ä) (b:Int):Option (Val ĵ):=aaK a b some
def Ai (a:Val ab) (b:Val ak) (c:(Val (.ptr Ì))) (k:Int→Option ρ):Option ρ :=
  ifb (ieq (Ó a) 0) (k (0:Int)) (ê a (0:Int) fun d=>Ã (ų b (d,c.2.1)) fun e=>k e)
def oB (a:Val ab) (b:Val ak) (c:(Val (.ptr Ì))):Option (Int):=Ai a b c some
def Ah (b:Int) (c:Int) (a:Val ak) (d:(Val (.ptr tI))) (e:Val aX) (f:(Val (.ptr tI))) (k:Val ć→Option ρ):Option ρ :=
  Ã (Ë a b c) fun g=>Ã (Ë a d c) fun h=>ck (h+e.2) fun i=>Ã (Ë a b f) fun j=>ck (i+j) fun l=>Ã (Ë a f c) fun m=>ck (m-e.1) fun n=>Ã (Ë a b d) fun o=>ck (n+o) fun p=>k (g,l,p)
def oA (a:Int) (b:Int) (c:Val ak) (d:(Val (.ptr tI))) (e:Val aX) (f:(Val (.ptr tI))):Option (Val ć):=Ah a b c d e f some
def mc (f:Int) (g:Val aa) (h:Val ah) (i:Int) (a:Int) (b:Val ah) (c:Int→Val ah→Option ρ) (j:Val ah→Option ρ):Option ρ :=
  ifb (ilt a i) (ê h a fun d=>ê g a fun e=>ifb (!((Ě e.1 (3:Int))&&((Ě e.2 f)&&true))) (Þ (â ((List.length b)+(List.length ([d])))) (ck (a+(1:Int)) fun k=>c k (b++([d])))) (ck (a+(1:Int)) fun l=>c l b)) (j b)
def KE (f:Val ak) (o:Val Â) (a:Val Ì) (k:(Val (.pair ż tI))→Option ρ):Option ρ :=
  Ã (xE f.1 a) fun e=>ifb (ine e.2 0) (k ((((0:Int),(0:Int)),((0:Int),(0:Int),(0:Int)),(0:Int),(0:Int),(0:Int)),e.2)) (Ã (pQ f.1 (a.1,a.2.1,a.2.2.1,a.2.2.2.1,(0:Int),a.2.2.2.2.2)) fun b=>ifb (ine b.2 0) (k ((((0:Int),(0:Int)),((0:Int),(0:Int),(0:Int)),(0:Int),(0:Int),(0:Int)),b.2)) (ck ((Ó b.1.2.2.2.2.1)-(1:Int)) fun g=>Ã (O4 b.1 g) fun h=>Ã (vS a.2.2.1 a.2.2.2.1) fun i=>Ã (Ė b.1) fun c=>É (fun(j:Val Î) p=>mc g c.2.1 c.1.2 (Ó c.1.2) j.1 j.2 (fun q r=>p (q,r)) (fun d=>Ã (oB i.1 (b.1,c.1.1,d) (a.1,a.2.1,a.2.2.1,a.2.2.2.1,(0:Int),a.2.2.2.2.2)) fun l=>Ã (oB i.2.1 (b.1,c.1.1,d) (a.1,a.2.1,a.2.2.1,a.2.2.2.1,(0:Int),a.2.2.2.2.2)) fun m=>Ã (ų (b.1,c.1.1,d) o) fun n=>Ã (oA n (0:Int) (b.1,c.1.1,d) m h.1 l) fun s=>Ã (oA (0:Int) n (b.1,c.1.1,d) m h.1 l) fun t=>k ((e.1,s,t),(0:Int)))) ((0:Int),[])))
def vL (a:Val ak) (b:Val Â) (c:Val Ì):Option ((Val (.pair ż tI))):=KE a b c some
def wG (a:Val ć) (k:Val ab→Option ρ):Option ρ :=
  ck (a.2.2-a.2.1) fun c=>ck (Int.tdiv c (2:Int)) fun b=>ck (a.1-a.2.1) fun d=>ck (a.2.2-a.1) fun e=>ck (b-1) fun f=>ck (b+1) fun g=>k ([d,e,b,f,g])
def jg (a:Val ć):Option ((Val ab)):=wG a some
def KK (a:Val ć) (b:Int) (k:Int→Option ρ):Option ρ :=
  ck (a.2.1+b) fun c=>ck (a.2.2-b) fun d=>k (yK (yK a.1 c) d)
def vN (a:Val ć) (b:Int):Option (Int):=KK a b some
def tB (a:Val ż) (b:Int) (k:Val Â→Option ρ):Option ρ :=
  Ã (vN a.2.2 b) fun c=>ck (0-c) fun d=>Ã (vN a.2.1 b) fun e=>k (d,e)
def ř (a:Val ż) (b:Int):Option (Val Â):=tB a b some
def iI (d:Int) (e:Int) (f:Int) (a:Int) (b:Val ab) (c:Int→Val ab→Option ρ) (g:Val ab→Option ρ):Option ρ :=
  ck (d+(2:Int)) fun h=>ifb (ile a h) (ifb (igt a e) (ifb (ilt a f) (Þ (â ((List.length b)+(List.length ([a])))) (ck (a+(1:Int)) fun i=>c i (b++([a])))) (ck (a+(1:Int)) fun j=>c j b)) (ck (a+(1:Int)) fun k=>c k b)) (g b)
def j7 (e:Val ab) (f:Int) (g:Int) (h:Int) (a:Int) (b:Val ab) (i:Int→Val ab→Option ρ) (j:Val ab→Option ρ):Option ρ :=
  ifb (ilt a f) (ê e a fun c=>ck (c-(2:Int)) fun k=>É (fun(d:Val au) l=>iI c g h d.1 d.2 (fun m n=>l (m,n)) (fun o=>ck (a+(1:Int)) fun p=>i p o)) (k,b)) (j b)
def tC (a:Val ż) (b:Val ab) (k:Val ab→Option ρ):Option ρ :=
  É (fun(c:Val au) d=>j7 b (Ó b) a.1.1 a.1.2 c.1 c.2 (fun e f=>d (e,f)) (fun g=>k g)) ((0:Int),[a.1.1,a.1.2])
def kG (a:Val ż) (b:Val ab):Option ((Val ab)):=tC a b some
def jG (d:Val ab) (e:Int) (f:Int) (g:Int) (h:Int) (i:Int) (j:Int) (k:Int) (l:Int) (m:Int) (b:Int) (a:Int) (n:Int→Int→Option ρ) (o:Int→Option ρ):Option ρ :=
  ifb (ilt a e) (ê d a fun p=>Ã (ř ((f,g),(h,i,j),k,l,m) p) fun c=>ck (c.2-c.1) fun q=>ck (a+(1:Int)) fun r=>n (BV b q) r) (o b)
def qF (a:Val ż) (k:Int→Option ρ):Option ρ :=
  Ã (jg a.2.1) fun d=>Ã (jg a.2.2) fun e=>Ã (ï ([d,e])) fun f=>Ã (kG a f) fun b=>É (fun(c:Val Â) g=>jG b (Ó b) a.1.1 a.1.2 a.2.1.1 a.2.1.2.1 a.2.1.2.2 a.2.2.1 a.2.2.2.1 a.2.2.2.2 c.1 c.2 (fun h i=>g (h,i)) (fun j=>k j)) ((-1:Int),(0:Int))
def mm (a:Val ż):Option (Int):=qF a some
def Al (m:Int) (j:Val aa) (b:Int) (c:Int) (d:Int) (e:Val ae) (f:Val aa) (g:Val af) (h:Val ac) (i:Val aa) (k:Int→Int→Int→Val ae→Val aa→Val af→Val ac→Val aa→Option ρ) (n:Val aI→Option ρ) (o:Val ai→Option ρ):Option ρ :=
  ifb (ilt b m) (Þ ((ile 0 b)&&(ilt b (ô j))) (Ď j (Int.toNat b) fun l=>Ã (š ((c,d),e,f,g,h,i) l) fun p=>ifb (ieq p.2 0) (ck (b+(1:Int)) fun q=>k q c d e f g h i) (Ã (ki ((c,d),e,f,g,h,i) l) fun a=>ifb (ine a.2 0) (n (a.2,c,d,e,f,g,h,i)) (ck (b+(1:Int)) fun r=>k r a.1.1.1 a.1.1.2 a.1.2.1 a.1.2.2.1 a.1.2.2.2.1 a.1.2.2.2.2.1 a.1.2.2.2.2.2)))) (o (c,d,e,f,g,h,i))
def Q4 (a:Val Ä) (e:Val Â) (i:Val Ì) (k:Val Â→Option ρ):Option ρ :=
  Ã (ù a) fun f=>ifb (ine f 0) (Þ (ine f 0) (k ((0:Int),f))) (É (fun(b:Val aI) j=>Al (Ó ([e])) ([e]) b.1 b.2.1 b.2.2.1 b.2.2.2.1 b.2.2.2.2.1 b.2.2.2.2.2.1 b.2.2.2.2.2.2.1 b.2.2.2.2.2.2.2 (fun l m n o p q r s=>j (l,m,n,o,p,q,r,s)) (fun h=>Þ (ine h.1 0) (k ((0:Int),h.1))) (fun c=>Ã (Ė ((c.1,c.2.1),c.2.2)) fun d=>ifb (ine d.2.2 0) (Þ (ine d.2.2 0) (k ((0:Int),d.2.2))) (Ã (Ą d.1) fun t=>ifb (!t.1) (k ((0:Int),(9:Int))) (Ã (vL (((c.1,c.2.1),c.2.2),d.1) e i) fun g=>ifb (ine g.2 0) (k ((0:Int),g.2)) (Ã (mm g.1) fun u=>k (u,(0:Int))))))) ((0:Int),a.1.1,a.1.2,a.2.1,a.2.2.1,a.2.2.2.1,a.2.2.2.2.1,a.2.2.2.2.2))
def Be (a:Val Ä) (b:Val Â) (c:Val Ì):Option (Val Â):=Q4 a b c some
def wK (a:Int) (k:Int→Option ρ):Option ρ :=
  k (BV (-288230376151711744:Int) (yK a (288230376151711744:Int)))
def mn (a:Int):Option (Int):=wK a some
def wH (a:Val ć) (b:Int) (k:Val ab→Option ρ):Option ρ :=
  ck (b-a.2.1) fun c=>ck (a.2.2-b) fun d=>k ([c,d])
def jh (a:Val ć) (b:Int):Option ((Val ab)):=wH a b some
def tG (m:Int) (j:Val aa) (b:Int) (c:Int) (d:Int) (e:Val ae) (f:Val aa) (g:Val af) (h:Val ac) (i:Val aa) (k:Int→Int→Int→Val ae→Val aa→Val af→Val ac→Val aa→Option ρ) (n:Val aI→Option ρ) (o:Val ai→Option ρ):Option ρ :=
  ifb (ilt b m) (Þ ((ile 0 b)&&(ilt b (ô j))) (Ď j (Int.toNat b) fun l=>Ã (š ((c,d),e,f,g,h,i) l) fun p=>ifb (ieq p.2 0) (ck (b+(1:Int)) fun q=>k q c d e f g h i) (Ã (ki ((c,d),e,f,g,h,i) l) fun a=>ifb (ine a.2 0) (n (a.2,c,d,e,f,g,h,i)) (ck (b+(1:Int)) fun r=>k r a.1.1.1 a.1.1.2 a.1.2.1 a.1.2.2.1 a.1.2.2.2.1 a.1.2.2.2.2.1 a.1.2.2.2.2.2)))) (o (c,d,e,f,g,h,i))
def nN (b:Val ab) (c:Int) (d:Int) (e:Int) (f:Int) (g:Int) (h:Int) (i:Int) (j:Int) (k:Int) (l:Int) (m:Int) (a:Int) (n:Int→Option ρ) (o:Int→Option ρ) (p:Unit→Option ρ):Option ρ :=
  ifb (ilt a c) (ê b a fun q=>Ã (ř ((f,g),(h,i,j),k,l,m) q) fun r=>Ã (rz r (d,e)) fun s=>ifb (ieq s 3) (o a) (ck (a+(1:Int)) fun t=>n t)) (p ())
def Fw (c:Val Ä) (g:Val Â) (b:Val Â) (n:Val Ì) (k:Val aP→Option ρ):Option ρ :=
  Ã (ù c) fun h=>ifb (ine h 0) (ifb (ine h 0) (k (false,h)) (Þ (igt b.1 b.2) (k (false,(1:Int))))) (É (fun(d:Val aI) o=>tG (Ó ([g])) ([g]) d.1 d.2.1 d.2.2.1 d.2.2.2.1 d.2.2.2.2.1 d.2.2.2.2.2.1 d.2.2.2.2.2.2.1 d.2.2.2.2.2.2.2 (fun p q r s t u v w=>o (p,q,r,s,t,u,v,w)) (fun l=>ifb (ine l.1 0) (k (false,l.1)) (Þ (igt b.1 b.2) (k (false,(1:Int))))) (fun e=>Ã (Ė ((e.1,e.2.1),e.2.2)) fun f=>ifb (ine f.2.2 0) (ifb (ine f.2.2 0) (k (false,f.2.2)) (Þ (igt b.1 b.2) (k (false,(1:Int))))) (Ã (Ą f.1) fun x=>ifb (!x.1) (k (false,(9:Int))) (ifb (igt b.1 b.2) (k (false,(1:Int))) (Ã (vL (((e.1,e.2.1),e.2.2),f.1) g n) fun a=>ifb (ine a.2 0) (k (false,a.2)) (Ã (jg a.1.2.1) fun y=>Ã (jg a.1.2.2) fun z=>Ã (ï ([y,z])) fun A=>Ã (mn b.1) fun i=>Ã (mn b.2) fun j=>Ã (jh a.1.2.1 i) fun B=>ck (0-i) fun C=>Ã (jh a.1.2.2 C) fun D=>Ã (ï ([A,B,D])) fun E=>Ã (jh a.1.2.1 j) fun F=>ck (0-j) fun G=>Ã (jh a.1.2.2 G) fun H=>Ã (ï ([E,F,H])) fun I=>Ã (kG a.1 I) fun m=>É (fun(J:Int) K=>nN m (Ó m) i j a.1.1.1 a.1.1.2 a.1.2.1.1 a.1.2.1.2.1 a.1.2.1.2.2 a.1.2.2.1 a.1.2.2.2.1 a.1.2.2.2.2 J (fun L=>K L) (fun M=>k ((!(ige M 0)),(0:Int))) (fun _=>k (true,(0:Int)))) (0:Int))))))) ((0:Int),c.1.1,c.1.2,c.2.1,c.2.2.1,c.2.2.2.1,c.2.2.2.2.1,c.2.2.2.2.2))
def rB (a:Val Ä) (b:Val Â) (c:Val Â) (d:Val Ì):Option ((Val aP)):=Fw a b c d some
def nO (d:Val ab) (e:Int) (f:Val ah) (a:Int) (g:Int→Option ρ) (b:Int→Option ρ) (h:Unit→Option ρ):Option ρ :=
  ifb (ilt a e) (ê d a fun c=>ifb (ilt c 0) (b a) (ifb (ige c (Ó f)) (b a) (ck (a+(1:Int)) fun i=>g i))) (h ())
def FA (b:Val Î) (a:Val ab) (k:Int→Option ρ):Option ρ :=
  ifb (igt (Ó a) 80) (k (2:Int)) (É (fun(c:Int) d=>nO a (Ó a) b.2 c (fun e=>d e) (fun f=>ifb (ige f 0) (k (1:Int)) (k (0:Int))) (fun _=>k (0:Int))) (0:Int))
def rC (a:Val Î) (b:Val ab):Option (Int):=FA a b some
def wP (e:Val ab) (f:Int) (g:Val ah) (c:Int) (d:Int) (a:Int) (h:Int→Int→Int→Option ρ) (i:(Val (.pair tI (.pair tI .bool)))→Option ρ) (j:Val Â→Option ρ):Option ρ :=
  ifb (ilt a f) (ê e a fun k=>ê g k fun b=>ifb (ine b.1 c) (i ((0:Int),(0:Int),false)) (ck (d+b.2.2) fun l=>ck (a+(1:Int)) fun m=>h b.2.1 l m)) (j (c,d))
def ZV (e:Val Î) (f:Int) (c:Val ab) (k:(Val (.pair tI (.pair tI .bool)))→Option ρ):Option ρ :=
  É (fun(a:Val ć) g=>wP c (Ó c) e.2 a.1 a.2.1 a.2.2 (fun h i j=>g (h,i,j)) (fun b=>k (b.1,b.2.1,b.2.2)) (fun d=>k (d.1,d.2,true))) (f,(0:Int),(0:Int))
def Jj (a:Val Î) (b:Int) (c:Val ab):Option ((Val (.pair tI (.pair tI .bool)))):=ZV a b c some
def tQ (a:Val Î) (b:Val ab) (k:Int→Option ρ):Option ρ :=
  Ã (oD a) fun d=>ifb (ine d.1 0) (k d.1) (Ã (rC a b) fun e=>ifb (ine e 0) (k e) (ifb (ieq (Ó b) 0) (k (8:Int)) (ê b (0:Int) fun g=>ê a.2 g fun f=>Ã (Jj a f.1 b) fun c=>ifb (!c.2.2) (k (8:Int)) (ifb (ine c.1 f.1) (k (8:Int)) (ifb (ige c.2.1 0) (k (8:Int)) (k (0:Int)))))))
def nS (a:Val Î) (b:Val ab):Option (Int):=tQ a b some
def tK (a:Val iv) (k:Int→Option ρ):Option ρ :=
  Ã (ù a.1) fun b=>ifb (ine b 0) (k b) (ifb (!((Ě a.2.1.1 (0:Int))&&((Ě a.2.1.2 (0:Int))&&true))) (k (1:Int)) (ifb a.2.2.1 (k (1:Int)) (ifb (ine a.2.2.2.1 0) (k (1:Int)) (Ã (Ė a.1) fun c=>Ã (nS c.1 a.2.2.2.2) fun d=>ifb (ine d 0) (k (8:Int)) (k (0:Int))))))
def nR (a:Val iv):Option (Int):=tK a some
def tR (a:Val Î) (c:Int) (d:Int) (e:Val ab) (k:Val Â→Option ρ):Option ρ :=
  Ã (oD a) fun f=>ifb (ine f.1 0) (k ((0:Int),f.1)) (Ã (tg a c) fun h=>ifb (!h) (k ((0:Int),(1:Int))) (Ã (tg a d) fun i=>ifb (!i) (k ((0:Int),(1:Int))) (Ã (rC a e) fun g=>ifb (ine g 0) (k ((0:Int),g)) (Ã (Jj a c e) fun b=>ifb (!b.2.2) (k ((0:Int),(8:Int))) (ifb (ine b.1 d) (k ((0:Int),(8:Int))) (k (b.2.1,(0:Int))))))))
def kH (a:Val Î) (b:Int) (c:Int) (d:Val ab):Option (Val Â):=tR a b c d some
def wM (a:Val iv) (k:Int→Option ρ):Option ρ :=
  Ã (ù a.1) fun c=>ifb (ine c 0) (k c) (Ã (š a.1 a.2.1) fun b=>ifb (ine b.2 0) (k (5:Int)) (Ã (Ė a.1) fun d=>ck (0-a.2.2.2.1) fun g=>ifb a.2.2.1 (Ã (kH d.1 (0:Int) b.1 a.2.2.2.2) fun e=>ifb (ine e.2 0) (k (8:Int)) (ifb (ine e.1 a.2.2.2.1) (k (8:Int)) (k (0:Int)))) (Ã (kH d.1 b.1 (0:Int) a.2.2.2.2) fun f=>ifb (ine f.2 0) (k (8:Int)) (ifb (ine f.1 g) (k (8:Int)) (k (0:Int))))))
def mo (a:Val iv):Option (Int):=wM a some
def Ć (c:Val ae) (d:Int) (e:Int) (f:Int) (g:Int) (h:Int) (i:Int) (j:Int) (k:Int) (l:Int) (b:Int) (m:Int→Option ρ) (n:Int→Option ρ) (o:Unit→Option ρ):Option ρ :=
  ifb (ilt b d) (ê c b fun a=>ifb ((Ě e a.1)&&((Ě f a.2.1)&&((Ě g a.2.2.1)&&((Ě h a.2.2.2.1.1)&&((Ě i a.2.2.2.1.2)&&((Ě j a.2.2.2.2.1.1)&&((Ě k a.2.2.2.2.1.2)&&((Ě l a.2.2.2.2.2)&&true)))))))) (n b) (ck (b+(1:Int)) fun p=>m p)) (o ())
def ű (b:Val ae) (a:Val Ï) (k:Int→Option ρ):Option ρ :=
  É (fun(c:Int) d=>Ć b (Ó b) a.1 a.2.1 a.2.2.1 a.2.2.2.1.1 a.2.2.2.1.2 a.2.2.2.2.1.1 a.2.2.2.2.1.2 a.2.2.2.2.2 c (fun e=>d e) (fun f=>k f) (fun _=>k (-1:Int))) (0:Int)
def Ų (a:Val ae) (b:Val Ï):Option (Int):=ű a b some
def Ō (a:Val ae) (b:Val Ï) (k:Bool→Option ρ):Option ρ :=
  Ã (Ų a b) fun c=>k (ige c 0)
def ġ (a:Val ae) (b:Val Ï):Option (Bool):=Ō a b some
def ě (c:Val aa) (d:Int) (e:Int) (f:Int) (a:Int) (g:Int→Option ρ) (h:Int→Option ρ) (i:Unit→Option ρ):Option ρ :=
  ifb (ilt a d) (ê c a fun b=>ifb ((Ě e b.1)&&((Ě f b.2)&&true)) (h a) (ck (a+(1:Int)) fun j=>g j)) (i ())
def υ (a:Val aa) (b:Val Â) (k:Int→Option ρ):Option ρ :=
  É (fun(c:Int) d=>ě a (Ó a) b.1 b.2 c (fun e=>d e) (fun f=>k f) (fun _=>k (-1:Int))) (0:Int)
def iq (a:Val aa) (b:Val Â):Option (Int):=υ a b some
def Ŷ (a:Val aa) (b:Val Â) (k:Bool→Option ρ):Option ρ :=
  Ã (iq a b) fun c=>k (ige c 0)
def ĝ (a:Val aa) (b:Val Â):Option (Bool):=Ŷ a b some
def ď (c:Val af) (d:Int) (e:Int) (f:Int) (g:Int) (h:Int) (a:Int) (i:Int→Option ρ) (j:Int→Option ρ) (k:Unit→Option ρ):Option ρ :=
  ifb (ilt a d) (ê c a fun b=>ifb ((Ě e b.1)&&((Ě f b.2.1.1)&&((Ě g b.2.1.2)&&((Ě h b.2.2)&&true)))) (j a) (ck (a+(1:Int)) fun l=>i l)) (k ())
def Γ (b:Val af) (a:Val Ŏ) (k:Int→Option ρ):Option ρ :=
  É (fun(c:Int) d=>ď b (Ó b) a.1 a.2.1.1 a.2.1.2 a.2.2 c (fun e=>d e) (fun f=>k f) (fun _=>k (-1:Int))) (0:Int)
def Ε (a:Val af) (b:Val Ŏ):Option (Int):=Γ a b some
def ŝ (a:Val af) (b:Val Ŏ) (k:Bool→Option ρ):Option ρ :=
  Ã (Ε a b) fun c=>k (ige c 0)
def Đ (a:Val af) (b:Val Ŏ):Option (Bool):=ŝ a b some
def wF (c:Val ae) (d:Int) (a:Int) (b:Val aq) (e:Int→Val aq→Option ρ) (f:Val aq→Option ρ):Option ρ :=
  ifb (ilt a d) (ê c a fun g=>ck (a+(1:Int)) fun h=>e h (OO (k:=tI) (v:=.bool) g.1 true b)) (f b)
def nt (b:Val ab) (c:Val ab) (d:Int) (a:Int) (e:Int→Option ρ) (f:Bool→Option ρ) (g:Unit→Option ρ):Option ρ :=
  ifb (ilt a d) (ê b a fun h=>ê c a fun i=>ifb (ine h i) (f false) (ck (a+(1:Int)) fun j=>e j)) (g ())
def wE (b:Val ab) (c:Val ab) (d:Int) (a:Int) (e:Int→Option ρ) (f:Bool→Option ρ) (g:Unit→Option ρ):Option ρ :=
  ifb (ilt a d) (ê b a fun h=>ê c a fun i=>ifb (ine h i) (f false) (ck (a+(1:Int)) fun j=>e j)) (g ())
def qY (g:Val ac) (h:Int) (i:Int) (j:Int) (f:Val ab) (d:Val ab) (k:Int) (l:Int) (m:Int) (n:Int) (a:Int) (c:Int→Option ρ) (e:Int→Option ρ) (o:Unit→Option ρ):Option ρ :=
  ifb (ilt a h) (ê g a fun b=>ifb (ieq i b.1) (ifb (ieq j b.2.1) (ifb (ieq k b.2.2.2.2.1) (ifb (ieq l b.2.2.2.2.2.1) (ifb ((Ě m b.2.2.2.2.2.2.1)&&((Ě n b.2.2.2.2.2.2.2)&&true)) (ifb (ine (Ó f) (Ó b.2.2.1)) (ck (a+(1:Int)) fun p=>c p) (É (fun(q:Int) r=>nt f b.2.2.1 (Ó f) q (fun s=>r s) (fun t=>ifb t (ifb (ine (Ó d) (Ó b.2.2.2.1)) (ck (a+(1:Int)) fun u=>c u) (É (fun(v:Int) w=>wE d b.2.2.2.1 (Ó d) v (fun x=>w x) (fun y=>ifb y (e a) (ck (a+(1:Int)) fun z=>c z)) (fun _=>e a)) (0:Int))) (ck (a+(1:Int)) fun A=>c A)) (fun _=>ifb (ine (Ó d) (Ó b.2.2.2.1)) (ck (a+(1:Int)) fun B=>c B) (É (fun(C:Int) D=>wE d b.2.2.2.1 (Ó d) C (fun E=>D E) (fun F=>ifb F (e a) (ck (a+(1:Int)) fun G=>c G)) (fun _=>e a)) (0:Int)))) (0:Int))) (ck (a+(1:Int)) fun H=>c H)) (ck (a+(1:Int)) fun I=>c I)) (ck (a+(1:Int)) fun J=>c J)) (ck (a+(1:Int)) fun K=>c K)) (ck (a+(1:Int)) fun L=>c L)) (o ())
def qZ (e:Val ac) (f:Int) (c:Val ac) (b:Int) (g:Int→Option ρ) (d:Bool→Option ρ) (h:Unit→Option ρ):Option ρ :=
  ifb (ilt b f) (ê e b fun a=>É (fun(i:Int) j=>qY c (Ó c) a.1 a.2.1 a.2.2.1 a.2.2.2.1 a.2.2.2.2.1 a.2.2.2.2.2.1 a.2.2.2.2.2.2.1 a.2.2.2.2.2.2.2 i (fun k=>j k) (fun l=>ifb (!(ige l 0)) (d false) (ck (b+(1:Int)) fun m=>g m)) (fun _=>d false)) (0:Int)) (h ())
def qX (b:Val ae) (c:Int) (d:Val ae) (a:Int) (e:Int→Option ρ) (f:Int→Option ρ) (g:Unit→Option ρ):Option ρ :=
  ifb (ilt a c) (ê b a fun h=>Ã (ġ d h) fun i=>ifb (!i) (f a) (ck (a+(1:Int)) fun j=>e j)) (g ())
def ld (d:Val aa) (e:Int) (f:Val aq) (g:Val aa) (a:Int) (b:Int→Option ρ) (h:Int→Option ρ) (i:Unit→Option ρ):Option ρ :=
  ifb (ilt a e) (ê d a fun c=>abL (k:=tI) (v:=.bool) c.1 f (fun j=>ifb j (Ã (ĝ g c) fun l=>ifb (!l) (h a) (ck (a+(1:Int)) fun m=>b m)) (ck (a+(1:Int)) fun n=>b n)) (ck (a+(1:Int)) fun o=>b o)) (i ())
def nr (d:Val aa) (e:Int) (f:Val aq) (g:Val aa) (a:Int) (b:Int→Option ρ) (h:Int→Option ρ) (i:Unit→Option ρ):Option ρ :=
  ifb (ilt a e) (ê d a fun c=>abL (k:=tI) (v:=.bool) c.1 f (fun j=>ifb j (Ã (ĝ g c) fun l=>ifb (!l) (h a) (ck (a+(1:Int)) fun m=>b m)) (ck (a+(1:Int)) fun n=>b n)) (ck (a+(1:Int)) fun o=>b o)) (i ())
def Ń (d:Val af) (e:Int) (f:Val aq) (g:Val af) (a:Int) (b:Int→Option ρ) (h:Int→Option ρ) (i:Unit→Option ρ):Option ρ :=
  ifb (ilt a e) (ê d a fun c=>abL (k:=tI) (v:=.bool) c.1 f (fun j=>ifb j (Ã (Đ g c) fun l=>ifb (!l) (h a) (ck (a+(1:Int)) fun m=>b m)) (ck (a+(1:Int)) fun n=>b n)) (ck (a+(1:Int)) fun o=>b o)) (i ())
def Ę (d:Val af) (e:Int) (f:Val aq) (g:Val af) (a:Int) (b:Int→Option ρ) (h:Int→Option ρ) (i:Unit→Option ρ):Option ρ :=
  ifb (ilt a e) (ê d a fun c=>abL (k:=tI) (v:=.bool) c.1 f (fun j=>ifb j (Ã (Đ g c) fun l=>ifb (!l) (h a) (ck (a+(1:Int)) fun m=>b m)) (ck (a+(1:Int)) fun n=>b n)) (ck (a+(1:Int)) fun o=>b o)) (i ())
def Zx (b:Val Ä) (a:Val Ä) (k:Bool→Option ρ):Option ρ :=
  É (fun(d:(Val (.pair tI aq))) e=>wF b.2.1 (Ó b.2.1) d.1 d.2 (fun f g=>e (f,g)) (fun c=>É (fun(h:Int) i=>qZ b.2.2.2.2.1 (Ó b.2.2.2.2.1) a.2.2.2.2.1 h (fun j=>i j) (fun l=>k l) (fun _=>ifb ((Ě b.1.1 a.1.1)&&((Ě b.1.2 a.1.2)&&true)) (É (fun(m:Int) n=>qX b.2.1 (Ó b.2.1) a.2.1 m (fun o=>n o) (fun p=>ifb (!(ige p 0)) (É (fun(q:Int) r=>ld b.2.2.1 (Ó b.2.2.1) c a.2.2.1 q (fun s=>r s) (fun t=>ifb (!(ige t 0)) (É (fun(u:Int) v=>nr a.2.2.1 (Ó a.2.2.1) c b.2.2.1 u (fun w=>v w) (fun x=>ifb (!(ige x 0)) (É (fun(y:Int) z=>Ń b.2.2.2.1 (Ó b.2.2.2.1) c a.2.2.2.1 y (fun A=>z A) (fun B=>ifb (!(ige B 0)) (É (fun(C:Int) D=>Ę a.2.2.2.1 (Ó a.2.2.2.1) c b.2.2.2.1 C (fun E=>D E) (fun F=>k (!(ige F 0))) (fun _=>k true)) (0:Int)) (k false)) (fun _=>É (fun(G:Int) H=>Ę a.2.2.2.1 (Ó a.2.2.2.1) c b.2.2.2.1 G (fun I=>H I) (fun J=>k (!(ige J 0))) (fun _=>k true)) (0:Int))) (0:Int)) (k false)) (fun _=>É (fun(K:Int) L=>Ń b.2.2.2.1 (Ó b.2.2.2.1) c a.2.2.2.1 K (fun M=>L M) (fun N=>ifb (!(ige N 0)) (É (fun(O:Int) P=>Ę a.2.2.2.1 (Ó a.2.2.2.1) c b.2.2.2.1 O (fun Q=>P Q) (fun R=>k (!(ige R 0))) (fun _=>k true)) (0:Int)) (k false)) (fun _=>É (fun(S:Int) T=>Ę a.2.2.2.1 (Ó a.2.2.2.1) c b.2.2.2.1 S (fun U=>T U) (fun V=>k (!(ige V 0))) (fun _=>k true)) (0:Int))) (0:Int))) (0:Int)) (k false)) (fun _=>É (fun(W:Int) X=>nr a.2.2.1 (Ó a.2.2.1) c b.2.2.1 W (fun Y=>X Y) (fun Z=>ifb (!(ige Z 0)) (É (fun(df:Int) dg=>Ń b.2.2.2.1 (Ó b.2.2.2.1) c a.2.2.2.1 df (fun dh=>dg dh) (fun di=>ifb (!(ige di 0)) (É (fun(dj:Int) dk=>Ę a.2.2.2.1 (Ó a.2.2.2.1) c b.2.2.2.1 dj (fun dl=>dk dl) (fun dm=>k (!(ige dm 0))) (fun _=>k true)) (0:Int)) (k false)) (fun _=>É (fun(dn:Int) dt=>Ę a.2.2.2.1 (Ó a.2.2.2.1) c b.2.2.2.1 dn (fun du=>dt du) (fun dv=>k (!(ige dv 0))) (fun _=>k true)) (0:Int))) (0:Int)) (k false)) (fun _=>É (fun(dw:Int) dz=>Ń b.2.2.2.1 (Ó b.2.2.2.1) c a.2.2.2.1 dw (fun d8=>dz d8) (fun d9=>ifb (!(ige d9 0)) (É (fun(ee:Int) eh=>Ę a.2.2.2.1 (Ó a.2.2.2.1) c b.2.2.2.1 ee (fun eo=>eh eo) (fun ez=>k (!(ige ez 0))) (fun _=>k true)) (0:Int)) (k false)) (fun _=>É (fun(fc:Int) fe=>Ę a.2.2.2.1 (Ó a.2.2.2.1) c b.2.2.2.1 fc (fun ff=>fe ff) (fun fg=>k (!(ige fg 0))) (fun _=>k true)) (0:Int))) (0:Int))) (0:Int))) (0:Int)) (k false)) (fun _=>É (fun(fh:Int) fi=>ld b.2.2.1 (Ó b.2.2.1) c a.2.2.1 fh (fun fj=>fi fj) (fun fk=>ifb (!(ige fk 0)) (É (fun(fm:Int) fo=>nr a.2.2.1 (Ó a.2.2.1) c b.2.2.1 fm (fun fp=>fo fp) (fun fq=>ifb (!(ige fq 0)) (É (fun(ft:Int) fu=>Ń b.2.2.2.1 (Ó b.2.2.2.1) c a.2.2.2.1 ft (fun f0=>fu f0) (fun f5=>ifb (!(ige f5 0)) (É (fun(f6:Int) f7=>Ę a.2.2.2.1 (Ó a.2.2.2.1) c b.2.2.2.1 f6 (fun f8=>f7 f8) (fun f9=>k (!(ige f9 0))) (fun _=>k true)) (0:Int)) (k false)) (fun _=>É (fun(gc:Int) gd=>Ę a.2.2.2.1 (Ó a.2.2.2.1) c b.2.2.2.1 gc (fun gg=>gd gg) (fun gh=>k (!(ige gh 0))) (fun _=>k true)) (0:Int))) (0:Int)) (k false)) (fun _=>É (fun(gi:Int) gj=>Ń b.2.2.2.1 (Ó b.2.2.2.1) c a.2.2.2.1 gi (fun gk=>gj gk) (fun gn=>ifb (!(ige gn 0)) (É (fun(gp:Int) gq=>Ę a.2.2.2.1 (Ó a.2.2.2.1) c b.2.2.2.1 gp (fun gr=>gq gr) (fun gu=>k (!(ige gu 0))) (fun _=>k true)) (0:Int)) (k false)) (fun _=>É (fun(gw:Int) gx=>Ę a.2.2.2.1 (Ó a.2.2.2.1) c b.2.2.2.1 gw (fun gy=>gx gy) (fun g8=>k (!(ige g8 0))) (fun _=>k true)) (0:Int))) (0:Int))) (0:Int)) (k false)) (fun _=>É (fun(g9:Int) ic=>nr a.2.2.1 (Ó a.2.2.1) c b.2.2.1 g9 (fun ig=>ic ig) (fun ii=>ifb (!(ige ii 0)) (É (fun(ij:Int) ik=>Ń b.2.2.2.1 (Ó b.2.2.2.1) c a.2.2.2.1 ij (fun il=>ik il) (fun ip=>ifb (!(ige ip 0)) (É (fun(iq:Int) ir=>Ę a.2.2.2.1 (Ó a.2.2.2.1) c b.2.2.2.1 iq (fun iu=>ir iu) (fun iv=>k (!(ige iv 0))) (fun _=>k true)) (0:Int)) (k false)) (fun _=>É (fun(iw:Int) ix=>Ę a.2.2.2.1 (Ó a.2.2.2.1) c b.2.2.2.1 iw (fun iy=>ix iy) (fun iz=>k (!(ige iz 0))) (fun _=>k true)) (0:Int))) (0:Int)) (k false)) (fun _=>É (fun(i5:Int) i6=>Ń b.2.2.2.1 (Ó b.2.2.2.1) c a.2.2.2.1 i5 (fun i7=>i6 i7) (fun i8=>ifb (!(ige i8 0)) (É (fun(i9:Int) ja=>Ę a.2.2.2.1 (Ó a.2.2.2.1) c b.2.2.2.1 i9 (fun jb=>ja jb) (fun jc=>k (!(ige jc 0))) (fun _=>k true)) (0:Int)) (k false)) (fun _=>É (fun(jd:Int) je=>Ę a.2.2.2.1 (Ó a.2.2.2.1) c b.2.2.2.1 jd (fun jf=>je jf) (fun jg=>k (!(ige jg 0))) (fun _=>k true)) (0:Int))) (0:Int))) (0:Int))) (0:Int))) (0:Int)) (k false))) (0:Int))) ((0:Int),[])
def Jf (a:Val Ä) (b:Val Ä):Option (Bool):=Zx a b some
def KM (b:Val Ä) (a:Val iv) (k:Val aP→Option ρ):Option ρ :=
  Ã (ù b) fun c=>ifb (ine c 0) (k (false,c)) (ifb ((Ě a.2.1.1 (0:Int))&&((Ě a.2.1.2 (0:Int))&&true)) (Ã (nR a) fun d=>ifb (ine d 0) (k (false,d)) (Ã (Jf a.1 b) fun f=>k (f,(0:Int)))) (Ã (mo a) fun e=>ifb (ine e 0) (k (false,e)) (Ã (Jf a.1 b) fun g=>k (g,(0:Int)))))
def Cb (a:Val Ä) (b:Val iv):Option ((Val aP)):=KM a b some
def Es (k:Bool→Option ρ):Option ρ :=
  Ã Ba fun a=>Ã (oC a ((2:Int),(10:Int))) fun c=>Ã (oC a ((1:Int),(30:Int))) fun d=>Ã (xA a ((1:Int),(10:Int)) ((2:Int),(10:Int))) fun e=>Ã (Jg a (10:Int) ([(1:Int),(2:Int)])) fun f=>Ã (Jh a ((2:Int),(0:Int)) ((990:Int),(1010:Int))) fun g=>Ã (xz a ((2:Int),(10:Int)) true) fun b=>ifb (ine c.2 0) (k false) (ifb (ine d.2 0) (k false) (ifb (ine e.2 0) (k false) (ifb (ine f.2 0) (k false) (ifb (ine g.2 0) (k false) (ifb (ine b.2 0) (k false) (ifb (!((Ě c.1.1 (984:Int))&&((Ě c.1.2 (1011:Int))&&true))) (k false) (ifb (!((Ě d.1.1 (964:Int))&&((Ě d.1.2 (1005:Int))&&true))) (k false) (ifb (!((Ě e.1.1 (-6:Int))&&((Ě e.1.2 (11:Int))&&true))) (k false) (ifb (!((Ě f.1.1 (1979:Int))&&((Ě f.1.2 (2018:Int))&&true))) (k false) (ifb (ine g.1 3) (k false) (ifb (ine b.1.2.2.2.1 1011) (k false) (Ã (Be a ((2:Int),(10:Int)) ((8:Int),(10:Int),[(1:Int)],[(2:Int)],(0:Int),(0:Int),(0:Int),(0:Int))) fun h=>Ã (rB a ((2:Int),(10:Int)) ((900:Int),(1100:Int)) ((8:Int),(10:Int),[(1:Int)],[(2:Int)],(0:Int),(0:Int),(0:Int),(0:Int))) fun i=>Ã (Cb a b.1) fun j=>Ã (Ji a) fun l=>ifb (ieq h.2 0) (ifb (ieq i.2 0) (ifb (ieq j.2 0) (ifb (ieq l.2 5) (ifb (ieq h.1 10) (ifb i.1 (ifb j.1 (Ã (mo b.1) fun m=>k (ieq m 0)) (k false)) (k false)) (k false)) (k false)) (k false)) (k false)) (k false)))))))))))))
def ω:Option (Bool):=Es some
def jp (e:Val ab) (f:Int) (g:Val ak) (c:Val ao) (b:Int) (a:Int) (d:Int→Int→Option ρ) (h:Int→Option ρ):Option ρ :=
  ifb (ilt a f) (ê e a fun i=>Þ ((ile 0 a)&&(ilt a (ô c))) (Ď c (Int.toNat a) fun j=>ifb (!j) (Ã (Ë g (0:Int) i) fun k=>ck (b+k) fun l=>ck (a+(1:Int)) fun m=>d l m) (ck (a+(1:Int)) fun n=>d b n))) (h b)
def ya (e:Val ab) (f:Int) (g:Val ak) (c:Val ao) (b:Int) (a:Int) (d:Int→Int→Option ρ) (h:Int→Option ρ):Option ρ :=
  ifb (ilt a f) (ê e a fun i=>Þ ((ile 0 a)&&(ilt a (ô c))) (Ď c (Int.toNat a) fun j=>ifb (!j) (Ã (Ë g (0:Int) i) fun k=>ck (b+k) fun l=>ck (a+(1:Int)) fun m=>d l m) (ck (a+(1:Int)) fun n=>d b n))) (h b)
def xZ (e:Val ab) (f:Int) (g:Val ak) (c:Val ao) (b:Int) (a:Int) (d:Int→Int→Option ρ) (h:Int→Option ρ):Option ρ :=
  ifb (ilt a f) (ê e a fun i=>Þ ((ile 0 a)&&(ilt a (ô c))) (Ď c (Int.toNat a) fun j=>ifb (!j) (Ã (Ë g (0:Int) i) fun k=>ck (b+k) fun l=>ck (a+(1:Int)) fun m=>d l m) (ck (a+(1:Int)) fun n=>d b n))) (h b)
def xY (e:Val ab) (f:Int) (g:Val ak) (c:Val ao) (b:Int) (a:Int) (d:Int→Int→Option ρ) (h:Int→Option ρ):Option ρ :=
  ifb (ilt a f) (ê e a fun i=>Þ ((ile 0 a)&&(ilt a (ô c))) (Ď c (Int.toNat a) fun j=>ifb (!j) (Ã (Ë g (0:Int) i) fun k=>ck (b+k) fun l=>ck (a+(1:Int)) fun m=>d l m) (ck (a+(1:Int)) fun n=>d b n))) (h b)
def xX (e:Val ab) (f:Int) (g:Val ak) (c:Val ao) (b:Int) (a:Int) (d:Int→Int→Option ρ) (h:Int→Option ρ):Option ρ :=
  ifb (ilt a f) (ê e a fun i=>Þ ((ile 0 a)&&(ilt a (ô c))) (Ď c (Int.toNat a) fun j=>ifb (!j) (Ã (Ë g (0:Int) i) fun k=>ck (b+k) fun l=>ck (a+(1:Int)) fun m=>d l m) (ck (a+(1:Int)) fun n=>d b n))) (h b)
def xW (e:Val ab) (f:Int) (g:Val ak) (c:Val ao) (b:Int) (a:Int) (d:Int→Int→Option ρ) (h:Int→Option ρ):Option ρ :=
  ifb (ilt a f) (ê e a fun i=>Þ ((ile 0 a)&&(ilt a (ô c))) (Ď c (Int.toNat a) fun j=>ifb (!j) (Ã (Ë g (0:Int) i) fun k=>ck (b+k) fun l=>ck (a+(1:Int)) fun m=>d l m) (ck (a+(1:Int)) fun n=>d b n))) (h b)
def xU (e:Val ab) (f:Int) (g:Val ak) (c:Val ao) (b:Int) (a:Int) (d:Int→Int→Option ρ) (h:Int→Option ρ):Option ρ :=
  ifb (ilt a f) (ê e a fun i=>Þ ((ile 0 a)&&(ilt a (ô c))) (Ď c (Int.toNat a) fun j=>ifb (!j) (Ã (Ë g (0:Int) i) fun k=>ck (b+k) fun l=>ck (a+(1:Int)) fun m=>d l m) (ck (a+(1:Int)) fun n=>d b n))) (h b)
def xV (g:Int) (k:Val ab) (l:Int) (c:Val ak) (d:Val ab) (h:Val ab) (e:Int) (a:Int) (b:Val ao) (i:Int→Int→Val ao→Option ρ) (m:(Val (.pair tI ao))→Option ρ):Option ρ :=
  ifb (ilt a l) (ê k a fun n=>Þ ((ile 0 a)&&(ilt a (ô b))) (Ď b (Int.toNat a) fun o=>ifb o (ck (a+(1:Int)) fun p=>i e p b) (Þ ((ile 0 a)&&(ilt a (ô b))) (Ď b (Int.toNat a) fun z=>ê d g fun q=>Ã (Ë c q n) fun r=>ck (g+(1:Int)) fun f=>ifb (ieq f (Ó d)) (É (fun(j:Val Â) s=>xU h (Ó h) c (List.set b (Int.toNat a) true) j.1 j.2 (fun t u=>s (t,u)) (fun v=>ck (r+v) fun w=>Þ ((ile 0 a)&&(ilt a (ô (List.set b (Int.toNat a) true)))) (Ď (List.set b (Int.toNat a) true) (Int.toNat a) fun A=>ck (a+(1:Int)) fun x=>i (yK e w) x (List.set (List.set b (Int.toNat a) true) (Int.toNat a) false)))) ((0:Int),(0:Int))) (ê d f fun y=>Ã (Ë c y (0:Int)) fun B=>ck (f+1) fun C=>none))))) (m (e,b))
def oP (l:Int) (p:Val ab) (q:Int) (d:Val ak) (e:Val ab) (c:Val ab) (f:Int) (a:Int) (b:Val ao) (i:Int→Int→Val ao→Option ρ) (r:(Val (.pair tI ao))→Option ρ):Option ρ :=
  ifb (ilt a q) (ê p a fun s=>Þ ((ile 0 a)&&(ilt a (ô b))) (Ď b (Int.toNat a) fun t=>ifb t (ck (a+(1:Int)) fun u=>i f u b) (Þ ((ile 0 a)&&(ilt a (ô b))) (Ď b (Int.toNat a) fun Q=>ê e l fun v=>Ã (Ë d v s) fun m=>ck (l+(1:Int)) fun g=>ifb (ieq g (Ó e)) (É (fun(n:Val Â) w=>xX c (Ó c) d (List.set b (Int.toNat a) true) n.1 n.2 (fun x y=>w (x,y)) (fun z=>ck (m+z) fun A=>Þ ((ile 0 a)&&(ilt a (ô (List.set b (Int.toNat a) true)))) (Ď (List.set b (Int.toNat a) true) (Int.toNat a) fun R=>ck (a+(1:Int)) fun B=>i (yK f A) B (List.set (List.set b (Int.toNat a) true) (Int.toNat a) false)))) ((0:Int),(0:Int))) (ê e g fun C=>Ã (Ë d C (0:Int)) fun D=>ck (g+1) fun j=>ifb (ieq j (Ó e)) (É (fun(o:Val Â) E=>xW c (Ó c) d (List.set b (Int.toNat a) true) o.1 o.2 (fun F G=>E (F,G)) (fun H=>ck (D+H) fun I=>É (fun(k:Val aG) J=>xV g c (Ó c) d e c k.1 k.2.1 k.2.2 (fun K L M=>J (K,L,M)) (fun h=>ck (m+h.1) fun N=>Þ ((ile 0 a)&&(ilt a (ô h.2))) (Ď h.2 (Int.toNat a) fun S=>ck (a+(1:Int)) fun O=>i (yK f N) O (List.set h.2 (Int.toNat a) false)))) (I,(0:Int),(List.set b (Int.toNat a) true)))) ((0:Int),(0:Int))) (ê e j fun P=>Ã (Ë d P (0:Int)) fun T=>ck (j+1) fun U=>none)))))) (r (f,b))
def uY (e:Val ab) (f:Int) (g:Val ak) (c:Val ao) (b:Int) (a:Int) (d:Int→Int→Option ρ) (h:Int→Option ρ):Option ρ :=
  ifb (ilt a f) (ê e a fun i=>Þ ((ile 0 a)&&(ilt a (ô c))) (Ď c (Int.toNat a) fun j=>ifb (!j) (Ã (Ë g (0:Int) i) fun k=>ck (b+k) fun l=>ck (a+(1:Int)) fun m=>d l m) (ck (a+(1:Int)) fun n=>d b n))) (h b)
def uW (e:Val ab) (f:Int) (g:Val ak) (c:Val ao) (b:Int) (a:Int) (d:Int→Int→Option ρ) (h:Int→Option ρ):Option ρ :=
  ifb (ilt a f) (ê e a fun i=>Þ ((ile 0 a)&&(ilt a (ô c))) (Ď c (Int.toNat a) fun j=>ifb (!j) (Ã (Ë g (0:Int) i) fun k=>ck (b+k) fun l=>ck (a+(1:Int)) fun m=>d l m) (ck (a+(1:Int)) fun n=>d b n))) (h b)
def uX (g:Int) (k:Val ab) (l:Int) (c:Val ak) (d:Val ab) (h:Val ab) (e:Int) (a:Int) (b:Val ao) (i:Int→Int→Val ao→Option ρ) (m:(Val (.pair tI ao))→Option ρ):Option ρ :=
  ifb (ilt a l) (ê k a fun n=>Þ ((ile 0 a)&&(ilt a (ô b))) (Ď b (Int.toNat a) fun o=>ifb o (ck (a+(1:Int)) fun p=>i e p b) (Þ ((ile 0 a)&&(ilt a (ô b))) (Ď b (Int.toNat a) fun z=>ê d g fun q=>Ã (Ë c q n) fun r=>ck (g+(1:Int)) fun f=>ifb (ieq f (Ó d)) (É (fun(j:Val Â) s=>uW h (Ó h) c (List.set b (Int.toNat a) true) j.1 j.2 (fun t u=>s (t,u)) (fun v=>ck (r+v) fun w=>Þ ((ile 0 a)&&(ilt a (ô (List.set b (Int.toNat a) true)))) (Ď (List.set b (Int.toNat a) true) (Int.toNat a) fun A=>ck (a+(1:Int)) fun x=>i (yK e w) x (List.set (List.set b (Int.toNat a) true) (Int.toNat a) false)))) ((0:Int),(0:Int))) (ê d f fun y=>Ã (Ë c y (0:Int)) fun B=>ck (f+1) fun C=>none))))) (m (e,b))
def kP (q:Int) (w:Val ab) (x:Int) (d:Val ak) (e:Val ab) (b:Val ab) (f:Int) (a:Int) (c:Val ao) (h:Int→Int→Val ao→Option ρ) (y:(Val (.pair tI ao))→Option ρ):Option ρ :=
  ifb (ilt a x) (ê w a fun z=>Þ ((ile 0 a)&&(ilt a (ô c))) (Ď c (Int.toNat a) fun A=>ifb A (ck (a+(1:Int)) fun B=>h f B c) (Þ ((ile 0 a)&&(ilt a (ô c))) (Ď c (Int.toNat a) fun d8=>ê e q fun C=>Ã (Ë d C z) fun l=>ck (q+(1:Int)) fun g=>ifb (ieq g (Ó e)) (É (fun(r:Val Â) D=>xZ b (Ó b) d (List.set c (Int.toNat a) true) r.1 r.2 (fun E F=>D (E,F)) (fun G=>ck (l+G) fun H=>Þ ((ile 0 a)&&(ilt a (ô (List.set c (Int.toNat a) true)))) (Ď (List.set c (Int.toNat a) true) (Int.toNat a) fun d9=>ck (a+(1:Int)) fun I=>h (yK f H) I (List.set (List.set c (Int.toNat a) true) (Int.toNat a) false)))) ((0:Int),(0:Int))) (ê e g fun J=>Ã (Ë d J (0:Int)) fun s=>ck (g+1) fun i=>ifb (ieq i (Ó e)) (É (fun(t:Val Â) K=>xY b (Ó b) d (List.set c (Int.toNat a) true) t.1 t.2 (fun L M=>K (L,M)) (fun N=>ck (s+N) fun O=>É (fun(m:Val aG) P=>oP g b (Ó b) d e b m.1 m.2.1 m.2.2 (fun Q R S=>P (Q,R,S)) (fun j=>ck (l+j.1) fun T=>Þ ((ile 0 a)&&(ilt a (ô j.2))) (Ď j.2 (Int.toNat a) fun ee=>ck (a+(1:Int)) fun U=>h (yK f T) U (List.set j.2 (Int.toNat a) false)))) (O,(0:Int),(List.set c (Int.toNat a) true)))) ((0:Int),(0:Int))) (ê e i fun V=>Ã (Ë d V (0:Int)) fun W=>ck (i+1) fun n=>ifb (ieq n (Ó e)) (É (fun(u:Val Â) X=>uY b (Ó b) d (List.set c (Int.toNat a) true) u.1 u.2 (fun Y Z=>X (Y,Z)) (fun df=>ck (W+df) fun dg=>É (fun(o:Val aG) dh=>uX i b (Ó b) d e b o.1 o.2.1 o.2.2 (fun di dj dk=>dh (di,dj,dk)) (fun v=>ck (s+v.1) fun dl=>É (fun(p:Val aG) dm=>oP g b (Ó b) d e b p.1 p.2.1 p.2.2 (fun dn dt du=>dm (dn,dt,du)) (fun k=>ck (l+k.1) fun dv=>Þ ((ile 0 a)&&(ilt a (ô k.2))) (Ď k.2 (Int.toNat a) fun eh=>ck (a+(1:Int)) fun dw=>h (yK f dv) dw (List.set k.2 (Int.toNat a) false)))) (dl,(0:Int),v.2))) (dg,(0:Int),(List.set c (Int.toNat a) true)))) ((0:Int),(0:Int))) (ê e n fun dz=>Ã (Ë d dz (0:Int)) fun eo=>ck (n+1) fun ez=>none))))))) (y (f,c))
def uV (e:Val ab) (f:Int) (g:Val ak) (c:Val ao) (b:Int) (a:Int) (d:Int→Int→Option ρ) (h:Int→Option ρ):Option ρ :=
  ifb (ilt a f) (ê e a fun i=>Þ ((ile 0 a)&&(ilt a (ô c))) (Ď c (Int.toNat a) fun j=>ifb (!j) (Ã (Ë g (0:Int) i) fun k=>ck (b+k) fun l=>ck (a+(1:Int)) fun m=>d l m) (ck (a+(1:Int)) fun n=>d b n))) (h b)
def uU (e:Val ab) (f:Int) (g:Val ak) (c:Val ao) (b:Int) (a:Int) (d:Int→Int→Option ρ) (h:Int→Option ρ):Option ρ :=
  ifb (ilt a f) (ê e a fun i=>Þ ((ile 0 a)&&(ilt a (ô c))) (Ď c (Int.toNat a) fun j=>ifb (!j) (Ã (Ë g (0:Int) i) fun k=>ck (b+k) fun l=>ck (a+(1:Int)) fun m=>d l m) (ck (a+(1:Int)) fun n=>d b n))) (h b)
def uT (e:Val ab) (f:Int) (g:Val ak) (c:Val ao) (b:Int) (a:Int) (d:Int→Int→Option ρ) (h:Int→Option ρ):Option ρ :=
  ifb (ilt a f) (ê e a fun i=>Þ ((ile 0 a)&&(ilt a (ô c))) (Ď c (Int.toNat a) fun j=>ifb (!j) (Ã (Ë g (0:Int) i) fun k=>ck (b+k) fun l=>ck (a+(1:Int)) fun m=>d l m) (ck (a+(1:Int)) fun n=>d b n))) (h b)
def uR (e:Val ab) (f:Int) (g:Val ak) (c:Val ao) (b:Int) (a:Int) (d:Int→Int→Option ρ) (h:Int→Option ρ):Option ρ :=
  ifb (ilt a f) (ê e a fun i=>Þ ((ile 0 a)&&(ilt a (ô c))) (Ď c (Int.toNat a) fun j=>ifb (!j) (Ã (Ë g (0:Int) i) fun k=>ck (b+k) fun l=>ck (a+(1:Int)) fun m=>d l m) (ck (a+(1:Int)) fun n=>d b n))) (h b)
def uS (g:Int) (k:Val ab) (l:Int) (c:Val ak) (d:Val ab) (h:Val ab) (e:Int) (a:Int) (b:Val ao) (i:Int→Int→Val ao→Option ρ) (m:(Val (.pair tI ao))→Option ρ):Option ρ :=
  ifb (ilt a l) (ê k a fun n=>Þ ((ile 0 a)&&(ilt a (ô b))) (Ď b (Int.toNat a) fun o=>ifb o (ck (a+(1:Int)) fun p=>i e p b) (Þ ((ile 0 a)&&(ilt a (ô b))) (Ď b (Int.toNat a) fun z=>ê d g fun q=>Ã (Ë c q n) fun r=>ck (g+(1:Int)) fun f=>ifb (ieq f (Ó d)) (É (fun(j:Val Â) s=>uR h (Ó h) c (List.set b (Int.toNat a) true) j.1 j.2 (fun t u=>s (t,u)) (fun v=>ck (r+v) fun w=>Þ ((ile 0 a)&&(ilt a (ô (List.set b (Int.toNat a) true)))) (Ď (List.set b (Int.toNat a) true) (Int.toNat a) fun A=>ck (a+(1:Int)) fun x=>i (yK e w) x (List.set (List.set b (Int.toNat a) true) (Int.toNat a) false)))) ((0:Int),(0:Int))) (ê d f fun y=>Ã (Ë c y (0:Int)) fun B=>ck (f+1) fun C=>none))))) (m (e,b))
def nn (l:Int) (p:Val ab) (q:Int) (d:Val ak) (e:Val ab) (c:Val ab) (f:Int) (a:Int) (b:Val ao) (i:Int→Int→Val ao→Option ρ) (r:(Val (.pair tI ao))→Option ρ):Option ρ :=
  ifb (ilt a q) (ê p a fun s=>Þ ((ile 0 a)&&(ilt a (ô b))) (Ď b (Int.toNat a) fun t=>ifb t (ck (a+(1:Int)) fun u=>i f u b) (Þ ((ile 0 a)&&(ilt a (ô b))) (Ď b (Int.toNat a) fun Q=>ê e l fun v=>Ã (Ë d v s) fun m=>ck (l+(1:Int)) fun g=>ifb (ieq g (Ó e)) (É (fun(n:Val Â) w=>uU c (Ó c) d (List.set b (Int.toNat a) true) n.1 n.2 (fun x y=>w (x,y)) (fun z=>ck (m+z) fun A=>Þ ((ile 0 a)&&(ilt a (ô (List.set b (Int.toNat a) true)))) (Ď (List.set b (Int.toNat a) true) (Int.toNat a) fun R=>ck (a+(1:Int)) fun B=>i (yK f A) B (List.set (List.set b (Int.toNat a) true) (Int.toNat a) false)))) ((0:Int),(0:Int))) (ê e g fun C=>Ã (Ë d C (0:Int)) fun D=>ck (g+1) fun j=>ifb (ieq j (Ó e)) (É (fun(o:Val Â) E=>uT c (Ó c) d (List.set b (Int.toNat a) true) o.1 o.2 (fun F G=>E (F,G)) (fun H=>ck (D+H) fun I=>É (fun(k:Val aG) J=>uS g c (Ó c) d e c k.1 k.2.1 k.2.2 (fun K L M=>J (K,L,M)) (fun h=>ck (m+h.1) fun N=>Þ ((ile 0 a)&&(ilt a (ô h.2))) (Ď h.2 (Int.toNat a) fun S=>ck (a+(1:Int)) fun O=>i (yK f N) O (List.set h.2 (Int.toNat a) false)))) (I,(0:Int),(List.set b (Int.toNat a) true)))) ((0:Int),(0:Int))) (ê e j fun P=>Ã (Ë d P (0:Int)) fun T=>ck (j+1) fun U=>none)))))) (r (f,b))
def uQ (e:Val ab) (f:Int) (g:Val ak) (c:Val ao) (b:Int) (a:Int) (d:Int→Int→Option ρ) (h:Int→Option ρ):Option ρ :=
  ifb (ilt a f) (ê e a fun i=>Þ ((ile 0 a)&&(ilt a (ô c))) (Ď c (Int.toNat a) fun j=>ifb (!j) (Ã (Ë g (0:Int) i) fun k=>ck (b+k) fun l=>ck (a+(1:Int)) fun m=>d l m) (ck (a+(1:Int)) fun n=>d b n))) (h b)
def uO (e:Val ab) (f:Int) (g:Val ak) (c:Val ao) (b:Int) (a:Int) (d:Int→Int→Option ρ) (h:Int→Option ρ):Option ρ :=
  ifb (ilt a f) (ê e a fun i=>Þ ((ile 0 a)&&(ilt a (ô c))) (Ď c (Int.toNat a) fun j=>ifb (!j) (Ã (Ë g (0:Int) i) fun k=>ck (b+k) fun l=>ck (a+(1:Int)) fun m=>d l m) (ck (a+(1:Int)) fun n=>d b n))) (h b)
def uP (g:Int) (k:Val ab) (l:Int) (c:Val ak) (d:Val ab) (h:Val ab) (e:Int) (a:Int) (b:Val ao) (i:Int→Int→Val ao→Option ρ) (m:(Val (.pair tI ao))→Option ρ):Option ρ :=
  ifb (ilt a l) (ê k a fun n=>Þ ((ile 0 a)&&(ilt a (ô b))) (Ď b (Int.toNat a) fun o=>ifb o (ck (a+(1:Int)) fun p=>i e p b) (Þ ((ile 0 a)&&(ilt a (ô b))) (Ď b (Int.toNat a) fun z=>ê d g fun q=>Ã (Ë c q n) fun r=>ck (g+(1:Int)) fun f=>ifb (ieq f (Ó d)) (É (fun(j:Val Â) s=>uO h (Ó h) c (List.set b (Int.toNat a) true) j.1 j.2 (fun t u=>s (t,u)) (fun v=>ck (r+v) fun w=>Þ ((ile 0 a)&&(ilt a (ô (List.set b (Int.toNat a) true)))) (Ď (List.set b (Int.toNat a) true) (Int.toNat a) fun A=>ck (a+(1:Int)) fun x=>i (yK e w) x (List.set (List.set b (Int.toNat a) true) (Int.toNat a) false)))) ((0:Int),(0:Int))) (ê d f fun y=>Ã (Ë c y (0:Int)) fun B=>ck (f+1) fun C=>none))))) (m (e,b))
def Hj (b:Val ak) (c:Val ab) (a:Val ab) (k:Int→Option ρ):Option ρ :=
  Þ ((ile 0 (Ó a))&&(â (Int.toNat (Ó a)))) (ifb (ieq 0 (Ó c)) (É (fun(l:Val Â) t=>jp a (Ó a) b (List.replicate (Int.toNat (Ó a)) false) l.1 l.2 (fun u v=>t (u,v)) (fun w=>k w)) ((0:Int),(0:Int))) (ê c (0:Int) fun x=>Ã (Ë b x (0:Int)) fun d=>ifb (ieq 1 (Ó c)) (É (fun(m:Val Â) y=>ya a (Ó a) b (List.replicate (Int.toNat (Ó a)) false) m.1 m.2 (fun z A=>y (z,A)) (fun B=>ck (d+B) fun C=>É (fun(e:Val aG) D=>kP (0:Int) a (Ó a) b c a e.1 e.2.1 e.2.2 (fun E F G=>D (E,F,G)) (fun H=>k H.1)) (C,(0:Int),(List.replicate (Int.toNat (Ó a)) false)))) ((0:Int),(0:Int))) (ê c (1:Int) fun I=>Ã (Ë b I (0:Int)) fun n=>ifb (ieq 2 (Ó c)) (É (fun(o:Val Â) J=>uV a (Ó a) b (List.replicate (Int.toNat (Ó a)) false) o.1 o.2 (fun K L=>J (K,L)) (fun M=>ck (n+M) fun N=>É (fun(f:Val aG) O=>nn (1:Int) a (Ó a) b c a f.1 f.2.1 f.2.2 (fun P Q R=>O (P,Q,R)) (fun p=>ck (d+p.1) fun S=>É (fun(g:Val aG) T=>kP (0:Int) a (Ó a) b c a g.1 g.2.1 g.2.2 (fun U V W=>T (U,V,W)) (fun X=>k X.1)) (S,(0:Int),p.2))) (N,(0:Int),(List.replicate (Int.toNat (Ó a)) false)))) ((0:Int),(0:Int))) (ê c (2:Int) fun Y=>Ã (Ë b Y (0:Int)) fun Z=>ifb (ieq 3 (Ó c)) (É (fun(q:Val Â) df=>uQ a (Ó a) b (List.replicate (Int.toNat (Ó a)) false) q.1 q.2 (fun dg dh=>df (dg,dh)) (fun di=>ck (Z+di) fun dj=>É (fun(h:Val aG) dk=>uP (2:Int) a (Ó a) b c a h.1 h.2.1 h.2.2 (fun dl dm dn=>dk (dl,dm,dn)) (fun r=>ck (n+r.1) fun dt=>É (fun(i:Val aG) du=>nn (1:Int) a (Ó a) b c a i.1 i.2.1 i.2.2 (fun dv dw dz=>du (dv,dw,dz)) (fun s=>ck (d+s.1) fun d8=>É (fun(j:Val aG) d9=>kP (0:Int) a (Ó a) b c a j.1 j.2.1 j.2.2 (fun ee eh eo=>d9 (ee,eh,eo)) (fun ez=>k ez.1)) (d8,(0:Int),s.2))) (dt,(0:Int),r.2))) (dj,(0:Int),(List.replicate (Int.toNat (Ó a)) false)))) ((0:Int),(0:Int))) (ê c (3:Int) fun fc=>Ã (Ë b fc (0:Int)) fun fe=>none)))))
def ξ (a:Val ak) (b:Val ab) (c:Val ab):Option (Int):=Hj a b c some
def me (b:Val ab) (c:Int) (d:Val ab) (a:Int) (e:Int→Option ρ) (f:Int→Option ρ) (g:Unit→Option ρ):Option ρ :=
  ifb (ilt a c) (ê b a fun h=>Ã (ė d h) fun i=>ifb i (f a) (ck (a+(1:Int)) fun j=>e j)) (g ())
def md (l:Val aa) (m:Int) (i:Int) (b:Int) (c:Int) (d:Val ae) (e:Val aa) (f:Val af) (g:Val ac) (h:Val aa) (j:Int→Int→Int→Val ae→Val aa→Val af→Val ac→Val aa→Option ρ) (n:Val aI→Option ρ) (o:Val ai→Option ρ):Option ρ :=
  ifb (ilt i m) (ê l i fun k=>Ã (š ((b,c),d,e,f,g,h) k) fun p=>ifb (ieq p.2 0) (ck (i+(1:Int)) fun q=>j q b c d e f g h) (Ã (ki ((b,c),d,e,f,g,h) k) fun a=>ifb (ine a.2 0) (n (a.2,b,c,d,e,f,g,h)) (ck (i+(1:Int)) fun r=>j r a.1.1.1 a.1.1.2 a.1.2.1 a.1.2.2.1 a.1.2.2.2.1 a.1.2.2.2.2.1 a.1.2.2.2.2.2))) (o (b,c,d,e,f,g,h))
def ja (d:Val ak) (e:Val aa) (f:Int) (a:Int) (b:Val ab) (g:Int→Val ab→Option ρ) (h:Val ab→Option ρ):Option ρ :=
  ifb (ilt a f) (ê e a fun i=>Ã (ų d i) fun c=>Þ (â ((List.length b)+(List.length ([c])))) (ck (a+(1:Int)) fun j=>g j (b++([c])))) (h b)
def pG (d:Val ak) (e:Val aa) (f:Int) (a:Int) (b:Val ab) (g:Int→Val ab→Option ρ) (h:Val ab→Option ρ):Option ρ :=
  ifb (ilt a f) (ê e a fun i=>Ã (ų d i) fun c=>Þ (â ((List.length b)+(List.length ([c])))) (ck (a+(1:Int)) fun j=>g j (b++([c])))) (h b)
def KR (a:Val Ä) (e:Int) (b:Val ab) (f:Val ab) (k:Val ĵ→Option ρ):Option ρ :=
  Ã (ù a) fun n=>ifb (ine n 0) (k (((0:Int),(0:Int)),n)) (É (fun(I:Int) J=>me b (Ó b) f I (fun K=>J K) (fun L=>Ã (tf b (3:Int)) fun M=>ifb (!M) (k (((0:Int),(0:Int)),(1:Int))) (Ã (tf f (3:Int)) fun N=>ifb (!N) (k (((0:Int),(0:Int)),(1:Int))) (ck ((Ó b)+(Ó f)) fun O=>ifb (ieq O 0) (k (((0:Int),(0:Int)),(1:Int))) (ifb (ige L 0) (k (((0:Int),(0:Int)),(1:Int))) (Ã (vM e) fun P=>ifb (!P) (k (((0:Int),(0:Int)),(1:Int))) (Ã (Ŵ e ([b,f])) fun o=>Ã (ù a) fun l=>ifb (ine l 0) (ifb (ine l 0) (k (((0:Int),(0:Int)),l)) (Ã (Ŵ e ([b])) fun gk=>none)) (É (fun(g:Val aI) Q=>md o (Ó o) g.1 g.2.1 g.2.2.1 g.2.2.2.1 g.2.2.2.2.1 g.2.2.2.2.2.1 g.2.2.2.2.2.2.1 g.2.2.2.2.2.2.2 (fun R S T U V W X Y=>Q (R,S,T,U,V,W,X,Y)) (fun p=>ifb (ine p.1 0) (k (((0:Int),(0:Int)),p.1)) (Ã (Ŵ e ([b])) fun gn=>none)) (fun c=>Ã (Ė ((c.1,c.2.1),c.2.2)) fun h=>ifb (ine h.2.2 0) (ifb (ine h.2.2 0) (k (((0:Int),(0:Int)),h.2.2)) (Ã (Ŵ e ([b])) fun gp=>none)) (Ã (Ą h.1) fun Z=>ifb (!Z.1) (k (((0:Int),(0:Int)),(9:Int))) (Ã (Ŵ e ([b])) fun q=>É (fun(r:Val au) df=>ja (((c.1,c.2.1),c.2.2),h.1) q (Ó q) r.1 r.2 (fun dg dh=>df (dg,dh)) (fun s=>Ã (Ŵ e ([f])) fun t=>É (fun(u:Val au) di=>pG (((c.1,c.2.1),c.2.2),h.1) t (Ó t) u.1 u.2 (fun dj dk=>di (dj,dk)) (fun v=>ck ((Ó b)-(1:Int)) fun w=>ck ((Ó f)-(1:Int)) fun x=>ck ((BV (0:Int) w)*a.1.1) fun dl=>ck ((BV (0:Int) x)*a.1.2) fun dm=>ck (dl-dm) fun dn=>Ã (ξ (((c.1,c.2.1),c.2.2),h.1) v s) fun dt=>ck (dn-dt) fun du=>ck ((BV (0:Int) w)*a.1.2) fun dv=>ck ((BV (0:Int) x)*a.1.1) fun dw=>ck (dv-dw) fun dz=>Ã (ξ (((c.1,c.2.1),c.2.2),h.1) s v) fun d8=>ck (dz+d8) fun d9=>k ((du,d9),(0:Int)))) ((0:Int),[]))) ((0:Int),[]))))) ((0:Int),a.1.1,a.1.2,a.2.1,a.2.2.1,a.2.2.2.1,a.2.2.2.2.1,a.2.2.2.2.2)))))))) (fun _=>Ã (tf b (3:Int)) fun ee=>ifb (!ee) (k (((0:Int),(0:Int)),(1:Int))) (Ã (tf f (3:Int)) fun eh=>ifb (!eh) (k (((0:Int),(0:Int)),(1:Int))) (ck ((Ó b)+(Ó f)) fun eo=>ifb (ieq eo 0) (k (((0:Int),(0:Int)),(1:Int))) (Ã (vM e) fun ez=>ifb (!ez) (k (((0:Int),(0:Int)),(1:Int))) (Ã (Ŵ e ([b,f])) fun y=>Ã (ù a) fun m=>ifb (ine m 0) (ifb (ine m 0) (k (((0:Int),(0:Int)),m)) (Ã (Ŵ e ([b])) fun gq=>none)) (É (fun(i:Val aI) fc=>md y (Ó y) i.1 i.2.1 i.2.2.1 i.2.2.2.1 i.2.2.2.2.1 i.2.2.2.2.2.1 i.2.2.2.2.2.2.1 i.2.2.2.2.2.2.2 (fun fe ff fg fh fi fj fk fm=>fc (fe,ff,fg,fh,fi,fj,fk,fm)) (fun z=>ifb (ine z.1 0) (k (((0:Int),(0:Int)),z.1)) (Ã (Ŵ e ([b])) fun gr=>none)) (fun d=>Ã (Ė ((d.1,d.2.1),d.2.2)) fun j=>ifb (ine j.2.2 0) (ifb (ine j.2.2 0) (k (((0:Int),(0:Int)),j.2.2)) (Ã (Ŵ e ([b])) fun gu=>none)) (Ã (Ą j.1) fun fo=>ifb (!fo.1) (k (((0:Int),(0:Int)),(9:Int))) (Ã (Ŵ e ([b])) fun A=>É (fun(B:Val au) fp=>ja (((d.1,d.2.1),d.2.2),j.1) A (Ó A) B.1 B.2 (fun fq ft=>fp (fq,ft)) (fun C=>Ã (Ŵ e ([f])) fun D=>É (fun(E:Val au) fu=>pG (((d.1,d.2.1),d.2.2),j.1) D (Ó D) E.1 E.2 (fun f0 f5=>fu (f0,f5)) (fun F=>ck ((Ó b)-(1:Int)) fun G=>ck ((Ó f)-(1:Int)) fun H=>ck ((BV (0:Int) G)*a.1.1) fun f6=>ck ((BV (0:Int) H)*a.1.2) fun f7=>ck (f6-f7) fun f8=>Ã (ξ (((d.1,d.2.1),d.2.2),j.1) F C) fun f9=>ck (f8-f9) fun gc=>ck ((BV (0:Int) G)*a.1.2) fun gd=>ck ((BV (0:Int) H)*a.1.1) fun gg=>ck (gd-gg) fun gh=>Ã (ξ (((d.1,d.2.1),d.2.2),j.1) C F) fun gi=>ck (gh+gi) fun gj=>k ((gc,gj),(0:Int)))) ((0:Int),[]))) ((0:Int),[]))))) ((0:Int),a.1.1,a.1.2,a.2.1,a.2.2.1,a.2.2.2.1,a.2.2.2.2.1,a.2.2.2.2.2)))))))) (0:Int))
def Cc (a:Val Ä) (b:Int) (c:Val ab) (d:Val ab):Option (Val ĵ):=KR a b c d some
def sa (b:Val ab) (a:Int) (d:Int→Option ρ) (c:Bool→Option ρ) (e:Unit→Option ρ):Option ρ :=
  ifb (ilt a (Ó b)) (ê b a fun f=>ifb (ilt f 1) (c false) (ê b a fun g=>ifb (igt g 1099511627776) (c false) (ifb (igt a 0) (ê b a fun h=>ck (a-(1:Int)) fun i=>ê b i fun j=>ifb (ile h j) (c false) (ck (a+(1:Int)) fun k=>d k)) (ck (a+(1:Int)) fun l=>d l)))) (e ())
def PY (a:Val ab) (k:Bool→Option ρ):Option ρ :=
  É (fun(b:Int) c=>sa a b (fun d=>c d) (fun e=>k e) (fun _=>k (ile (Ó a) 6))) (0:Int)
def vF (a:Val ab):Option (Bool):=PY a some
def Yz (a:Int) (k:Bool→Option ρ):Option ρ :=
  ifb (ige a 0) (k (ile a 20000)) (k false)
def I7 (a:Int):Option (Bool):=Yz a some
def ő (c:Val ab) (d:Int) (a:Int) (b:Val aa) (f:Int→Val aa→Option ρ) (g:Val aa→Option ρ):Option ρ :=
  ifb (ilt a (Ó c)) (ê c a fun e=>Þ (â ((List.length b)+(List.length ([(e,d)])))) (ck (a+(1:Int)) fun h=>f h (b++([(e,d)])))) (g b)
def tv (c:Int) (a:Val ab) (k:Val bh→Option ρ):Option ρ :=
  Ã (vF a) fun e=>É (fun(d:Val aC) f=>ő a c d.1 d.2 (fun g h=>f (g,h)) (fun b=>ifb e (Ã (I7 c) fun i=>ifb i (k (b,igt (Ó a) 0)) (k (b,false))) (k (b,false)))) ((0:Int),[])
def nQ (a:Int) (b:Val ab):Option ((Val bh)):=tv a b some
def wB (b:Val ab) (c:Int) (a:Int) (d:Int→Option ρ) (e:Bool→Option ρ) (f:Unit→Option ρ):Option ρ :=
  ifb (ilt a (Ó b)) (ê b a fun g=>ifb (ieq g c) (e true) (ck (a+(1:Int)) fun h=>d h)) (f ())
def Zf (a:Val ab) (b:Int) (k:Bool→Option ρ):Option ρ :=
  É (fun(c:Int) d=>wB a b c (fun e=>d e) (fun f=>k f) (fun _=>k false)) (0:Int)
def O2 (a:Val ab) (b:Int):Option (Bool):=Zf a b some
def ü (b:Val ab) (e:Val ab) (c:Bool) (a:Int) (d:Bool→Int→Option ρ) (f:Bool→Option ρ):Option ρ :=
  ifb (ilt a (Ó b)) (ifb c (ê b a fun g=>Ã (O2 e g) fun h=>ck (a+(1:Int)) fun i=>d (!h) i) (ck (a+(1:Int)) fun j=>d false j)) (f c)
def ē (c:Val ab) (d:Int) (a:Int) (b:Val aa) (f:Int→Val aa→Option ρ) (g:Val aa→Option ρ):Option ρ :=
  ifb (ilt a (Ó c)) (ê c a fun e=>Þ (â ((List.length b)+(List.length ([(e,d)])))) (ck (a+(1:Int)) fun h=>f h (b++([(e,d)])))) (g b)
def Ē (c:Val ab) (d:Int) (a:Int) (b:Val aa) (f:Int→Val aa→Option ρ) (g:Val aa→Option ρ):Option ρ :=
  ifb (ilt a (Ó c)) (ê c a fun e=>Þ (â ((List.length b)+(List.length ([(e,d)])))) (ck (a+(1:Int)) fun h=>f h (b++([(e,d)])))) (g b)
def oO (c:Int) (a:Val ab) (b:Val ab) (k:Val bh→Option ρ):Option ρ :=
  Ã (vF a) fun I=>Ã (vF b) fun J=>ifb I (ifb J (Ã (I7 c) fun K=>ifb K (ifb (ile (Ó a) 3) (ifb (ile (Ó b) 3) (ck ((Ó a)+(Ó b)) fun L=>É (fun(d:Val aP) M=>ü a b d.1 d.2 (fun N O=>M (N,O)) (fun P=>É (fun(e:Val aC) Q=>ē a c e.1 e.2 (fun R S=>Q (R,S)) (fun f=>É (fun(g:Val aC) T=>Ē b c g.1 g.2 (fun U V=>T (U,V)) (fun h=>Þ (â ((List.length f)+(List.length h))) (k ((f++h),P)))) ((0:Int),[]))) ((0:Int),[]))) (igt L 0,(0:Int))) (É (fun(i:Val aP) W=>ü a b i.1 i.2 (fun X Y=>W (X,Y)) (fun Z=>É (fun(j:Val aC) df=>ē a c j.1 j.2 (fun dg dh=>df (dg,dh)) (fun l=>É (fun(m:Val aC) di=>Ē b c m.1 m.2 (fun dj dk=>di (dj,dk)) (fun n=>Þ (â ((List.length l)+(List.length n))) (k ((l++n),Z)))) ((0:Int),[]))) ((0:Int),[]))) (false,(0:Int)))) (É (fun(o:Val aP) dl=>ü a b o.1 o.2 (fun dm dn=>dl (dm,dn)) (fun dt=>É (fun(p:Val aC) du=>ē a c p.1 p.2 (fun dv dw=>du (dv,dw)) (fun q=>É (fun(r:Val aC) dz=>Ē b c r.1 r.2 (fun d8 d9=>dz (d8,d9)) (fun s=>Þ (â ((List.length q)+(List.length s))) (k ((q++s),dt)))) ((0:Int),[]))) ((0:Int),[]))) (false,(0:Int)))) (É (fun(t:Val aP) ee=>ü a b t.1 t.2 (fun eh eo=>ee (eh,eo)) (fun ez=>É (fun(u:Val aC) fc=>ē a c u.1 u.2 (fun fe ff=>fc (fe,ff)) (fun v=>É (fun(w:Val aC) fg=>Ē b c w.1 w.2 (fun fh fi=>fg (fh,fi)) (fun x=>Þ (â ((List.length v)+(List.length x))) (k ((v++x),ez)))) ((0:Int),[]))) ((0:Int),[]))) (false,(0:Int)))) (É (fun(y:Val aP) fj=>ü a b y.1 y.2 (fun fk fm=>fj (fk,fm)) (fun fo=>É (fun(z:Val aC) fp=>ē a c z.1 z.2 (fun fq ft=>fp (fq,ft)) (fun A=>É (fun(B:Val aC) fu=>Ē b c B.1 B.2 (fun f0 f5=>fu (f0,f5)) (fun C=>Þ (â ((List.length A)+(List.length C))) (k ((A++C),fo)))) ((0:Int),[]))) ((0:Int),[]))) (false,(0:Int)))) (É (fun(D:Val aP) f6=>ü a b D.1 D.2 (fun f7 f8=>f6 (f7,f8)) (fun f9=>É (fun(E:Val aC) gc=>ē a c E.1 E.2 (fun gd gg=>gc (gd,gg)) (fun F=>É (fun(G:Val aC) gh=>Ē b c G.1 G.2 (fun gi gj=>gh (gi,gj)) (fun H=>Þ (â ((List.length F)+(List.length H))) (k ((F++H),f9)))) ((0:Int),[]))) ((0:Int),[]))) (false,(0:Int)))
def kR (a:Int) (b:Val ab) (c:Val ab):Option ((Val bh)):=oO a b c some
def zy (a:Val Â) (b:Int) (c:Int) (k:Bool→Option ρ):Option ρ :=
  ifb (ile b a.1) (ifb (ile a.1 a.2) (k (ile a.2 c)) (k false)) (k false)
def jT (a:Val Â) (b:Int) (c:Int):Option (Bool):=zy a b c some
def agF (a:Int) (b:Int) (c:Int) (k:Bool→Option ρ):Option ρ :=
  ifb (ige a b) (k (ile a c)) (k false)
def ml (a:Int) (b:Int) (c:Int):Option (Bool):=agF a b c some
def Zb (a:Int) (k:Bool→Option ρ):Option ρ :=
  Ã (ml a (0:Int) (20000:Int)) fun b=>k b
def xx (a:Int):Option (Bool):=Zb a some
def wC (b:Int) (a:Int) (c:Int→Int→Option ρ) (d:Int→Option ρ):Option ρ :=
  ifb (ine a 0) (ifb (Ě a 0) (none) (c a (Int.tmod b a))) (d b)
def Zq (b:Int) (c:Int) (k:Int→Option ρ):Option ρ :=
  É (fun(a:Val Â) d=>wC a.1 a.2 (fun e f=>d (e,f)) (fun g=>k g)) (b,c)
def B9 (a:Int) (b:Int):Option (Int):=Zq a b some
def Zv (a:Int) (k:Int→Option ρ):Option ρ :=
  ifb (ilt a 0) (ck ((0:Int)-a) fun b=>k b) (k a)
def Je (a:Int):Option (Int):=Zv a some
def Kt (a:Val Â) (k:Bool→Option ρ):Option ρ :=
  ifb (ilt a.2 1) (k false) (ifb (igt a.2 2147483647) (k false) (ifb (ilt a.1 (-2147483647:Int)) (k false) (ifb (igt a.1 2147483647) (k false) (Ã (Je a.1) fun b=>Ã (B9 b a.2) fun c=>k (ieq c 1)))))
def B7 (a:Val Â):Option (Bool):=Kt a some
def Kh (a:Val Ï) (k:Bool→Option ρ):Option ρ :=
  Ã (B7 a.2.2.2.2.1) fun b=>ifb (!b) (k false) (Ã (ml a.2.2.2.2.1.1 (-1000:Int) (1000:Int)) fun c=>ifb (!c) (k false) (ifb (igt a.2.2.2.2.1.2 100) (k false) (Ã (ml a.1 (1:Int) (1099511627776:Int)) fun d=>ifb d (Ã (xx a.2.1) fun e=>ifb e (Ã (ml a.2.2.1 (1:Int) (1125899906842624:Int)) fun f=>ifb f (Ã (jT a.2.2.2.1 (-1073741824:Int) (1073741824:Int)) fun g=>ifb g (Ã (ml a.2.2.2.2.2 (0:Int) (1048576:Int)) fun h=>k h) (k false)) (k false)) (k false)) (k false))))
def B5 (a:Val Ï):Option (Bool):=Kh a some
def sm (c:Int) (b:Val ae) (a:Int) (d:Int→Option ρ) (e:Int→Option ρ) (f:Unit→Option ρ):Option ρ :=
  ifb (ilt a (Ó b)) (ê b a fun g=>ifb (ieq g.1 c) (e a) (ck (a+(1:Int)) fun h=>d h)) (f ())
def Qx (a:Val Ä) (b:Int) (k:Int→Option ρ):Option ρ :=
  É (fun(c:Int) d=>sm b a.2.1 c (fun e=>d e) (fun f=>k f) (fun _=>k (-1:Int))) (0:Int)
def rt (a:Val Ä) (b:Int):Option (Int):=Qx a b some
def Kk (a:Val Ä) (c:Int) (d:Int) (k:Int→Option ρ):Option ρ :=
  Ã (rt a c) fun b=>ifb (ilt b 0) (k (5:Int)) (ê a.2.1 b fun e=>ifb (ilt d e.2.1) (k (4:Int)) (k (0:Int)))
def nz (a:Val Ä) (b:Int) (c:Int):Option (Int):=Kk a b c some
def sc (e:Int) (f:Int) (g:Val ae) (a:Val aa) (h:Val af) (i:Val ac) (j:Val aa) (b:Int) (k:Int→Option ρ) (c:Int→Option ρ) (l:Unit→Option ρ):Option ρ :=
  ifb (ilt b (Ó a)) (ê a b fun m=>Ã (xx m.2) fun n=>ifb (!n) (c (1:Int)) (ê a b fun o=>ê a b fun p=>Ã (nz ((e,f),g,a,h,i,j) o.1 p.2) fun d=>ifb (ine d 0) (c d) (ck (b+(1:Int)) fun q=>k q))) (l ())
def P2 (a:Val Ä) (k:Int→Option ρ):Option ρ :=
  É (fun(b:Int) c=>sc a.1.1 a.1.2 a.2.1 a.2.2.1 a.2.2.2.1 a.2.2.2.2.1 a.2.2.2.2.2 b (fun d=>c d) (fun e=>k e) (fun _=>k (0:Int))) (0:Int)
def I9 (a:Val Ä):Option (Int):=P2 a some
def pu (d:Int) (b:Val af) (e:Int) (f:Int) (g:Int) (a:Int) (c:Int→Option ρ) (h:Int→Option ρ) (i:Unit→Option ρ):Option ρ :=
  ifb (ilt a d) (ê b a fun j=>ifb (ieq j.1 e) (ê b a fun k=>ifb (ile k.2.1.1 g) (ê b a fun l=>ifb (ile f l.2.1.2) (h (9:Int)) (ck (a+(1:Int)) fun m=>c m)) (ck (a+(1:Int)) fun n=>c n)) (ck (a+(1:Int)) fun o=>c o)) (i ())
def lX (b:Val aa) (d:Int) (e:Int) (f:Int) (a:Int) (c:Int→Option ρ) (g:Int→Option ρ) (h:Unit→Option ρ):Option ρ :=
  ifb (ilt a (Ó b)) (ê b a fun i=>ifb (ieq i.1 d) (ê b a fun j=>Ã (ml j.2 e f) fun k=>ifb k (g (9:Int)) (ck (a+(1:Int)) fun l=>c l)) (ck (a+(1:Int)) fun m=>c m)) (h ())
def pv (g:Int) (h:Int) (i:Val ae) (e:Val aa) (c:Val af) (j:Val ac) (k:Val aa) (d:Int) (l:Int→Option ρ) (b:Int→Option ρ) (m:Unit→Option ρ):Option ρ :=
  ifb (ilt d (Ó c)) (ê c d fun a=>Ã (jT a.2.1 (0:Int) (20000:Int)) fun n=>ifb (!n) (b (1:Int)) (Ã (ml a.2.2 (0:Int) (1048576:Int)) fun o=>ifb (!o) (b (1:Int)) (Ã (nz ((g,h),i,e,c,j,k) a.1 a.2.1.1) fun f=>ifb (ine f 0) (b f) (É (fun(p:Int) q=>pu d c a.1 a.2.1.1 a.2.1.2 p (fun r=>q r) (fun s=>b s) (fun _=>É (fun(t:Int) u=>lX e a.1 a.2.1.1 a.2.1.2 t (fun v=>u v) (fun w=>b w) (fun _=>ck (d+(1:Int)) fun x=>l x)) (0:Int))) (0:Int))))) (m ())
def Kf (a:Val Ä) (k:Int→Option ρ):Option ρ :=
  É (fun(b:Int) c=>pv a.1.1 a.1.2 a.2.1 a.2.2.1 a.2.2.2.1 a.2.2.2.2.1 a.2.2.2.2.2 b (fun d=>c d) (fun e=>k e) (fun _=>k (0:Int))) (0:Int)
def B4 (a:Val Ä):Option (Int):=Kf a some
def si (b:Val ab) (a:Int) (c:Int→Option ρ) (d:Bool→Option ρ) (e:Unit→Option ρ):Option ρ :=
  ifb (ilt a (Ó b)) (ê b a fun f=>Ã (ml f (1:Int) (1099511627776:Int)) fun g=>ifb (!g) (d false) (ifb (igt a 0) (ê b a fun h=>ck (a-(1:Int)) fun i=>ê b i fun j=>ifb (ile h j) (d false) (ck (a+(1:Int)) fun k=>c k)) (ck (a+(1:Int)) fun l=>c l))) (e ())
def Qh (a:Val ab) (k:Bool→Option ρ):Option ρ :=
  É (fun(b:Int) c=>si a b (fun d=>c d) (fun e=>k e) (fun _=>k (ile (Ó a) 6))) (0:Int)
def Bb (a:Val ab):Option (Bool):=Qh a some
def Ke (a:Val Ì) (k:Bool→Option ρ):Option ρ :=
  Ã (Bb a.2.2.1) fun b=>Ã (Bb a.2.2.2.1) fun c=>ifb b (ifb c (Ã (ml a.1 (1:Int) (1099511627776:Int)) fun d=>ifb d (Ã (xx a.2.1) fun e=>ifb e (Ã (ml a.2.2.2.2.1 (-1125899906842624:Int) (1125899906842624:Int)) fun f=>ifb f (Ã (ml a.2.2.2.2.2.1 (0:Int) (1073741824:Int)) fun g=>ifb g (Ã (jT a.2.2.2.2.2.2 (-10000:Int) (10000:Int)) fun h=>k h) (k false)) (k false)) (k false)) (k false)) (k false)) (k false)
def B3 (a:Val Ì):Option (Bool):=Ke a some
def sk (j:Int) (h:Int) (i:Val af) (b:Int) (c:Int) (d:Int) (e:Int) (f:Int) (g:Int→Int→Int→Int→Int→Option ρ) (k:(Val (.pair .bool (.pair tI ć)))→Option ρ) (l:(Val (.pair tI ć))→Option ρ):Option ρ :=
  ifb (ilt b (Ó i)) (ê i b fun a=>ifb (ieq a.1 j) (ifb (ile a.2.1.1 h) (ifb (ile h a.2.1.2) (k (true,a.1,a.2.1.1,a.2.1.2,a.2.2)) (ck (b+(1:Int)) fun m=>g m c d e f)) (ck (b+(1:Int)) fun n=>g n c d e f)) (ck (b+(1:Int)) fun o=>g o c d e f)) (l (c,d,e,f))
def Qq (c:Val Ä) (d:Int) (e:Int) (k:Val bi→Option ρ):Option ρ :=
  É (fun(a:Val bn) f=>sk d e c.2.2.2.1 a.1 a.2.1 a.2.2.1 a.2.2.2.1 a.2.2.2.2 (fun g h i j l=>f (g,h,i,j,l)) (fun b=>k ((b.2.1,(b.2.2.1,b.2.2.2.1),b.2.2.2.2),b.1)) (fun m=>k (((0:Int),((0:Int),(0:Int)),(0:Int)),false))) ((0:Int),(0:Int),(0:Int),(0:Int),(0:Int))
def Bc (a:Val Ä) (b:Int) (c:Int):Option ((Val bi)):=Qq a b c some
def wA (b:Val ab) (c:Int) (a:Int) (d:Int→Option ρ) (e:Bool→Option ρ) (f:Unit→Option ρ):Option ρ :=
  ifb (ilt a (Ó b)) (ê b a fun g=>ifb (ieq g c) (e true) (ck (a+(1:Int)) fun h=>d h)) (f ())
def Y7 (a:Val ab) (b:Int) (k:Bool→Option ρ):Option ρ :=
  É (fun(c:Int) d=>wA a b c (fun e=>d e) (fun f=>k f) (fun _=>k false)) (0:Int)
def O1 (a:Val ab) (b:Int):Option (Bool):=Y7 a b some
def sl (c:Val ab) (f:Val ab) (a:Int) (b:Val ab) (d:Int→Val ab→Option ρ) (g:Val ab→Option ρ):Option ρ :=
  ifb (ilt a (Ó c)) (ê c a fun h=>Ã (O1 f h) fun i=>ifb (!i) (ê c a fun e=>Þ (â ((List.length b)+(List.length ([e])))) (ck (a+(1:Int)) fun j=>d j (b++([e])))) (ck (a+(1:Int)) fun k=>d k b)) (g b)
def Qs (b:Val ab) (c:Val ab) (k:Val ab→Option ρ):Option ρ :=
  É (fun(a:Val au) d=>sl b c a.1 a.2 (fun e f=>d (e,f)) (fun g=>k g)) ((0:Int),[])
def kF (a:Val ab) (b:Val ab):Option ((Val ab)):=Qs a b some
def kM (c:Int) (d:Int) (e:Val ae) (f:Val aa) (g:Val af) (h:Val ac) (i:Val aa) (b:Val ab) (a:Int) (j:Int→Option ρ) (k:Int→Option ρ) (l:Unit→Option ρ):Option ρ :=
  ifb (ilt a (Ó b)) (Þ ((ile 0 a)&&(ilt a (ô b))) (Ď b (Int.toNat a) fun m=>Ã (rt ((c,d),e,f,g,h,i) m) fun n=>ifb (ilt n 0) (k (5:Int)) (ck (a+(1:Int)) fun o=>j o))) (l ())
def jo (c:Int) (d:Int) (e:Val ae) (f:Val aa) (g:Val af) (h:Val ac) (i:Val aa) (j:Int) (b:Val ab) (a:Int) (k:Int→Option ρ) (l:Int→Option ρ) (m:Unit→Option ρ):Option ρ :=
  ifb (ilt a (Ó b)) (Þ ((ile 0 a)&&(ilt a (ô b))) (Ď b (Int.toNat a) fun n=>Ã (nz ((c,d),e,f,g,h,i) n j) fun o=>ifb (ine o 0) (l (4:Int)) (ck (a+(1:Int)) fun p=>k p))) (m ())
def Υ (c:Int) (d:Int) (e:Val ae) (f:Val aa) (g:Val af) (h:Val ac) (i:Val aa) (j:Int) (b:Val ab) (a:Int) (k:Int→Option ρ) (l:Int→Option ρ) (m:Unit→Option ρ):Option ρ :=
  ifb (ilt a (Ó b)) (Þ ((ile 0 a)&&(ilt a (ô b))) (Ď b (Int.toNat a) fun n=>Ã (Bc ((c,d),e,f,g,h,i) n j) fun o=>ifb o.2 (l (9:Int)) (ck (a+(1:Int)) fun p=>k p))) (m ())
def ww (a:Val Ä) (b:Val Ì) (k:Int→Option ρ):Option ρ :=
  Þ (â (0+(List.length b.2.2.1))) (Þ (â ((List.length (([])++b.2.2.1))+(List.length b.2.2.2.1))) (É (fun(e:Int) f=>kM a.1.1 a.1.2 a.2.1 a.2.2.1 a.2.2.2.1 a.2.2.2.2.1 a.2.2.2.2.2 ((([])++b.2.2.1)++b.2.2.2.1) e (fun g=>f g) (fun h=>k h) (fun _=>É (fun(i:Int) j=>jo a.1.1 a.1.2 a.2.1 a.2.2.1 a.2.2.2.1 a.2.2.2.2.1 a.2.2.2.2.2 b.2.1 ((([])++b.2.2.1)++b.2.2.2.1) i (fun l=>j l) (fun m=>k m) (fun _=>É (fun(n:Int) o=>Υ a.1.1 a.1.2 a.2.1 a.2.2.1 a.2.2.2.1 a.2.2.2.2.1 a.2.2.2.2.2 b.2.1 ((([])++b.2.2.1)++b.2.2.2.1) n (fun p=>o p) (fun q=>k q) (fun _=>Ã (kF b.2.2.1 b.2.2.2.1) fun c=>Ã (kF b.2.2.2.1 b.2.2.1) fun d=>ifb (igt (Ó c) 1) (k (1:Int)) (ifb (igt (Ó d) 1) (k (1:Int)) (ck ((Ó c)+(Ó d)) fun r=>ifb (ieq r 0) (k (1:Int)) (k (0:Int)))))) (0:Int))) (0:Int))) (0:Int)))
def kg (a:Val Ä) (b:Val Ì):Option (Int):=ww a b some
def YF (b:Val ab) (c:Val ab) (k:Int→Option ρ):Option ρ :=
  Ã (kF b c) fun a=>ifb (ieq (Ó a) 0) (k (0:Int)) (ê a (0:Int) fun d=>k d)
def pN (a:Val ab) (b:Val ab):Option (Int):=YF a b some
def sg (g:Int) (c:Val ac) (d:Int) (b:Int) (e:Int→Option ρ) (f:Bool→Option ρ) (h:Unit→Option ρ):Option ρ :=
  ifb (ilt b (Ó c)) (ê c b fun a=>ifb (ieq a.2.1 g) (Ã (pN a.2.2.1 a.2.2.2.1) fun i=>ifb (ieq i d) (f true) (Ã (pN a.2.2.2.1 a.2.2.1) fun j=>ifb (ieq j d) (f true) (ck (b+(1:Int)) fun k=>e k))) (ck (b+(1:Int)) fun l=>e l)) (h ())
def og (d:Int) (b:Val aa) (e:Int) (a:Int) (c:Int→Option ρ) (f:Bool→Option ρ) (g:Unit→Option ρ):Option ρ :=
  ifb (ilt a (Ó b)) (ê b a fun h=>ifb (ieq h.1 e) (ê b a fun i=>ifb (ieq i.2 d) (f true) (ck (a+(1:Int)) fun j=>c j)) (ck (a+(1:Int)) fun k=>c k)) (g ())
def P9 (c:Val Ä) (a:Val Ï) (b:Int) (k:Bool→Option ρ):Option ρ :=
  ifb (ieq a.2.1 b) (k true) (É (fun(d:Int) e=>sg b c.2.2.2.2.1 a.1 d (fun f=>e f) (fun g=>k g) (fun _=>É (fun(h:Int) i=>og b c.2.2.2.2.2 a.1 h (fun j=>i j) (fun l=>k l) (fun _=>k false)) (0:Int))) (0:Int))
def Ja (a:Val Ä) (b:Val Ï) (c:Int):Option (Bool):=P9 a b c some
def pC (c:Val ae) (a:Int) (b:Val ab) (e:Int→Val ab→Option ρ) (f:Val ab→Option ρ):Option ρ :=
  ifb (ilt a (Ó c)) (ê c a fun d=>Þ (â ((List.length b)+(List.length ([d.2.1])))) (ck (a+(1:Int)) fun g=>e g (b++([d.2.1])))) (f b)
def pB (c:Val ac) (a:Int) (b:Val ab) (e:Int→Val ab→Option ρ) (f:Val ab→Option ρ):Option ρ :=
  ifb (ilt a (Ó c)) (ê c a fun d=>Þ (â ((List.length b)+(List.length ([d.2.1])))) (ck (a+(1:Int)) fun g=>e g (b++([d.2.1])))) (f b)
def pA (c:Val aa) (a:Int) (b:Val ab) (e:Int→Val ab→Option ρ) (f:Val ab→Option ρ):Option ρ :=
  ifb (ilt a (Ó c)) (ê c a fun d=>Þ (â ((List.length b)+(List.length ([d.2])))) (ck (a+(1:Int)) fun g=>e g (b++([d.2])))) (f b)
def lY (e:Int) (b:Val ab) (c:Int) (a:Int) (d:Int→Int→Option ρ) (f:Int→Option ρ):Option ρ :=
  ifb (ilt a (Ó b)) (Þ ((ile 0 a)&&(ilt a (ô b))) (Ď b (Int.toNat a) fun g=>ifb (igt g e) (Þ ((ile 0 a)&&(ilt a (ô b))) (Ď b (Int.toNat a) fun h=>ck (a+(1:Int)) fun i=>d (yK c h) i)) (ck (a+(1:Int)) fun j=>d c j))) (f c)
def lZ (e:Int) (i:Int) (j:Int) (c:Val ae) (k:Val aa) (l:Val af) (m:Val ac) (n:Val aa) (o:Val ab) (f:Int) (b:Val aa) (d:Int→Val aa→Option ρ) (p:Val aa→Option ρ):Option ρ :=
  ifb (ilt f 20001) (É (fun(g:Val Â) q=>lY f o g.1 g.2 (fun r s=>q (r,s)) (fun a=>ifb (ilt a 20001) (ê c e fun t=>Ã (Ja ((i,j),c,k,l,m,n) t a) fun u=>ifb u (ê c e fun h=>Þ (â ((List.length b)+(List.length ([(h.1,a)])))) (d a (b++([(h.1,a)])))) (d a b)) (d a b))) ((20001:Int),(0:Int))) (p b)
def pw (e:Int) (f:Int) (b:Val ae) (g:Val aa) (h:Val af) (i:Val ac) (j:Val aa) (k:Val ab) (a:Int) (c:Val aa) (l:Int→Val aa→Option ρ) (m:Val aa→Option ρ):Option ρ :=
  ifb (ilt a (Ó b)) (É (fun(d:Val aC) n=>lZ a e f b g h i j k d.1 d.2 (fun o p=>n (o,p)) (fun q=>ck (a+(1:Int)) fun r=>l r q)) ((-1:Int),c)) (m c)
def Kl (a:Val Ä) (k:Val aa→Option ρ):Option ρ :=
  É (fun(b:Val au) f=>pC a.2.1 b.1 b.2 (fun g h=>f (g,h)) (fun i=>É (fun(c:Val au) j=>pB a.2.2.2.2.1 c.1 c.2 (fun l m=>j (l,m)) (fun n=>É (fun(d:Val au) o=>pA a.2.2.2.2.2 d.1 d.2 (fun p q=>o (p,q)) (fun r=>É (fun(e:Val aC) s=>pw a.1.1 a.1.2 a.2.1 a.2.2.1 a.2.2.2.1 a.2.2.2.2.1 a.2.2.2.2.2 r e.1 e.2 (fun t u=>s (t,u)) (fun v=>k v)) ((0:Int),[]))) ((0:Int),n))) ((0:Int),i))) ((0:Int),[])
def kh (a:Val Ä):Option ((Val aa)):=Kl a some
def pD (b:Val aa) (d:Int) (e:Int) (a:Int) (f:Int→Option ρ) (g:Int→Option ρ) (h:Unit→Option ρ):Option ρ :=
  ifb (ilt a (Ó b)) (ê b a fun c=>ifb ((Ě c.1 d)&&((Ě c.2 e)&&true)) (ck (a+(1:Int)) fun i=>g i) (ck (a+(1:Int)) fun j=>f j)) (h ())
def Km (b:Val Ä) (a:Val Â) (k:Int→Option ρ):Option ρ :=
  Ã (kh b) fun c=>É (fun(d:Int) e=>pD c a.1 a.2 d (fun f=>e f) (fun g=>k g) (fun _=>k (0:Int))) (0:Int)
def ŕ (a:Val Ä) (b:Val Â):Option (Int):=Km a b some
def sh (d:Int) (e:Int) (b:Val aa) (a:Int) (c:Int→Option ρ) (f:Bool→Option ρ) (g:Unit→Option ρ):Option ρ :=
  ifb (ilt a (Ó b)) (ê b a fun h=>ifb (ieq h.1 d) (ê b a fun i=>ifb (ieq i.2 e) (f true) (ck (a+(1:Int)) fun j=>c j)) (ck (a+(1:Int)) fun k=>c k)) (g ())
def Qb (a:Val Ä) (b:Int) (c:Int) (k:Bool→Option ρ):Option ρ :=
  É (fun(d:Int) e=>sh b c a.2.2.1 d (fun f=>e f) (fun g=>k g) (fun _=>k false)) (0:Int)
def Jb (a:Val Ä) (b:Int) (c:Int):Option (Bool):=Qb a b c some
def sj (d:Int) (m:Int) (n:Int) (e:Int) (f:Int) (g:Val ae) (h:Val aa) (i:Val af) (j:Val ac) (k:Val aa) (b:Int) (a:Int) (c:Int→Int→Option ρ) (o:Int→Option ρ):Option ρ :=
  ifb (ilt a m) (Ã (Bc ((e,f),g,h,i,j,k) d a) fun l=>ifb l.2 (ck (b+l.1.2.2) fun p=>ck (a+(1:Int)) fun q=>c p q) (Ã (Jb ((e,f),g,h,i,j,k) d a) fun r=>ifb r (ck (b+n) fun s=>ck (a+(1:Int)) fun t=>c s t) (ck (a+(1:Int)) fun u=>c b u))) (o b)
def Qm (a:Val Ä) (b:Int) (d:Int) (e:Int) (k:Int→Option ρ):Option ρ :=
  Ã (rt a b) fun f=>ê a.2.1 f fun g=>É (fun(c:Val Â) h=>sj b e g.2.2.2.2.2 a.1.1 a.1.2 a.2.1 a.2.2.1 a.2.2.2.1 a.2.2.2.2.1 a.2.2.2.2.2 c.1 c.2 (fun i j=>h (i,j)) (fun l=>k l)) ((0:Int),d)
def vI (a:Val Ä) (b:Int) (c:Int) (d:Int):Option (Int):=Qm a b c d some
def EQ (b:Int) (a:Int) (k:Val ĵ→Option ρ):Option ρ :=
  ifb (ine b 0) (ifb (Ě a 0) (none) (Ã (Je (Int.tmod b a)) fun h=>Ã (B9 h a) fun c=>ifb (Ě c 0) (none) (ck (Int.tdiv b c) fun d=>ifb (Ě c 0) (none) (ck (Int.tdiv a c) fun f=>ifb (igt f 2147483647) (k (((0:Int),(0:Int)),(3:Int))) (ifb (ilt d (-2147483647:Int)) (k (((0:Int),(0:Int)),(3:Int))) (ifb (igt d 2147483647) (k (((0:Int),(0:Int)),(3:Int))) (k ((d,f),(0:Int))))))))) (ifb (Ě a 0) (none) (ck (Int.tdiv b a) fun e=>ifb (Ě a 0) (none) (ck (Int.tdiv a a) fun g=>ifb (igt g 2147483647) (k (((0:Int),(0:Int)),(3:Int))) (ifb (ilt e (-2147483647:Int)) (k (((0:Int),(0:Int)),(3:Int))) (ifb (igt e 2147483647) (k (((0:Int),(0:Int)),(3:Int))) (k ((e,g),(0:Int))))))))
def ru (a:Int) (b:Int):Option (Val ĵ):=EQ a b some
def Zu (a:Val Â) (b:Val Â) (k:Val ĵ→Option ρ):Option ρ :=
  ck (a.1*b.2) fun c=>ck (b.1*a.2) fun d=>ck (c+d) fun e=>ck (a.2*b.2) fun f=>Ã (ru e f) fun g=>k g
def aa7 (a:Val Â) (b:Val Â):Option (Val ĵ):=Zu a b some
def Zn (a:Val Â) (k:Val Â→Option ρ):Option ρ :=
  ck ((0:Int)-a.1) fun b=>k (b,a.2)
def aa6 (a:Val Â):Option (Val Â):=Zn a some
def Zl (a:Val Â) (b:Val Â) (k:Val ĵ→Option ρ):Option ρ :=
  Ã (aa6 b) fun c=>Ã (aa7 a c) fun d=>k d
def O3 (a:Val Â) (b:Val Â):Option (Val ĵ):=Zl a b some
def Kg (a:Val Ä) (b:Int) (k:Val Â→Option ρ):Option ρ :=
  ifb (ieq b 0) (k ((0:Int),(1:Int))) (Ã (rt a b) fun c=>ê a.2.1 c fun d=>k d.2.2.2.2.1)
def vG (a:Val Ä) (b:Int):Option (Val Â):=Kg a b some
def QM (a:Val ĵ) (b:Val ĵ) (k:Val uk→Option ρ):Option ρ :=
  ifb (ine a.2 0) (k ((((0:Int),(0:Int)),(0:Int),(0:Int)),a.2)) (ifb (ine b.2 0) (k ((((0:Int),(0:Int)),(0:Int),(0:Int)),b.2)) (k ((a.1,b.1),(0:Int))))
def Jc (a:Val ĵ) (b:Val ĵ):Option (Val uk):=QM a b some
def Zo (a:Val Â) (b:Val Â) (k:Val ĵ→Option ρ):Option ρ :=
  ck (a.1*b.1) fun c=>ck (a.2*b.2) fun d=>Ã (ru c d) fun e=>k e
def xy (a:Val Â) (b:Val Â):Option (Val ĵ):=Zo a b some
def Ku (b:Val è) (a:Val Â) (k:Val uk→Option ρ):Option ρ :=
  ifb (ilt a.1 0) (Ã (xy b.2 a) fun c=>Ã (xy b.1 a) fun d=>Ã (Jc c d) fun e=>k e) (Ã (xy b.1 a) fun f=>Ã (xy b.2 a) fun g=>Ã (Jc f g) fun h=>k h)
def B8 (a:Val è) (b:Val Â):Option (Val uk):=Ku a b some
def EO (b:Val Ä) (a:Val Ì) (k:Val è→Option ρ):Option ρ :=
  Ã (pN a.2.2.1 a.2.2.2.1) fun c=>Ã (vG b c) fun d=>Ã (pN a.2.2.2.1 a.2.2.1) fun e=>Ã (vG b e) fun f=>Ã (O3 d f) fun g=>Ã (B8 ((a.2.2.2.2.2.2.1,(1:Int)),a.2.2.2.2.2.2.2,(1:Int)) g.1) fun h=>k h.1
def xw (a:Val Ä) (b:Val Ì):Option (Val è):=EO a b some
def Ko (a:Val Ä) (b:Val Ì) (k:Val Â→Option ρ):Option ρ :=
  ck ((Ó b.2.2.1)-(1:Int)) fun c=>ck ((Ó b.2.2.2.1)-(1:Int)) fun d=>ck ((BV (0:Int) c)*a.1.1) fun e=>ck ((BV (0:Int) d)*a.1.2) fun f=>ck (e-f) fun g=>ck ((BV (0:Int) c)*a.1.2) fun h=>ck ((BV (0:Int) d)*a.1.1) fun i=>ck (h-i) fun j=>k (g,j)
def B6 (a:Val Ä) (b:Val Ì):Option (Val Â):=Ko a b some
def QK (b:Int) (a:Int) (k:Int→Option ρ):Option ρ :=
  ifb (Ě a 0) (none) (ck (Int.tdiv b a) fun c=>ifb (Ě a 0) (none) (ifb (ilt (Int.tmod b a) 0) (ck (c-1) fun d=>k d) (k c)))
def SN (a:Int) (b:Int):Option (Int):=QK a b some
def Kw (a:Val Â) (k:Int→Option ρ):Option ρ :=
  Ã (SN a.1 a.2) fun b=>k b
def Ca (a:Val Â):Option (Int):=Kw a some
def agL (b:Int) (a:Int) (k:Int→Option ρ):Option ρ :=
  ifb (Ě a 0) (none) (ck (Int.tdiv b a) fun c=>ifb (Ě a 0) (none) (ifb (igt (Int.tmod b a) 0) (ck (c+1) fun d=>k d) (k c)))
def ahC (a:Int) (b:Int):Option (Int):=agL a b some
def QO (a:Val Â) (k:Int→Option ρ):Option ρ :=
  Ã (ahC a.1 a.2) fun b=>k b
def Jd (a:Val Â):Option (Int):=QO a some
def Qf (b:Val Ä) (a:Val Ì) (k:Val Â→Option ρ):Option ρ :=
  Ã (xw b a) fun c=>Ã (B6 b a) fun d=>ck (a.2.2.2.2.1-a.2.2.2.2.2.1) fun e=>ck (e-d.2) fun f=>Ã (Ca c.2) fun g=>ck (f-g) fun h=>ck (a.2.2.2.2.1+a.2.2.2.2.2.1) fun i=>ck (i-d.1) fun j=>Ã (Jd c.1) fun l=>ck (j-l) fun m=>k (h,m)
def vH (a:Val Ä) (b:Val Ì):Option (Val Â):=Qf a b some
def qE (e:Val aa) (b:Int) (p:Int) (q:Int) (r:Val ae) (s:Val aa) (t:Val af) (u:Val ac) (v:Val aa) (g:Int) (w:Int) (h:Int) (x:Int) (y:Int) (a:Int) (c:Val ah) (d:Val aa) (f:Int→Val ah→Val aa→Option ρ) (z:Val xO→Option ρ):Option ρ :=
  ifb (ilt a (Ó e)) (ê e a fun A=>ifb (ine A.1 g) (ck (a+(1:Int)) fun B=>f B c d) (ê e a fun C=>ifb (ieq C.2 w) (ck (a+(1:Int)) fun i=>ck (h+y) fun j=>ck (a+(1:Int)) fun k=>ck ((0:Int)-h) fun D=>ck (D-x) fun l=>Þ (â ((List.length c)+(List.length ([((0:Int),i,j),(k,(0:Int),l)])))) (Þ (â ((List.length d)+(List.length ([((1:Int),b),((1:Int),b)])))) (ck (a+(1:Int)) fun E=>f E (c++([((0:Int),i,j),(k,(0:Int),l)])) (d++([((1:Int),b),((1:Int),b)]))))) (ck (a-(1:Int)) fun F=>ê e F fun G=>ê e a fun H=>Ã (vI ((p,q),r,s,t,u,v) g G.2 H.2) fun m=>ck (a+(1:Int)) fun n=>ck (a+(1:Int)) fun o=>Þ (â ((List.length c)+(List.length ([(a,n,(0:Int)),(o,a,m)])))) (Þ (â ((List.length d)+(List.length ([((2:Int),b),((2:Int),b)])))) (ck (a+(1:Int)) fun I=>f I (c++([(a,n,(0:Int)),(o,a,m)])) (d++([((2:Int),b),((2:Int),b)]))))))) (z (c,d))
def wz (h:Val aa) (i:Int) (j:Int) (c:Val ae) (k:Val aa) (l:Val af) (m:Val ac) (n:Val aa) (b:Int) (e:Val ah) (f:Val aa) (o:Int→Val ah→Val aa→Option ρ) (p:Val xO→Option ρ):Option ρ :=
  ifb (ilt b (Ó c)) (ê c b fun a=>É (fun(d:Val aS) q=>qE h b i j c k l m n a.1 a.2.1 a.2.2.1 a.2.2.2.1.1 a.2.2.2.1.2 d.1 d.2.1 d.2.2 (fun r s t=>q (r,s,t)) (fun g=>ck (b+(1:Int)) fun u=>o u g.1 g.2)) ((0:Int),e,f)) (p (e,f))
def wy (f:Int) (g:Int) (h:Val ae) (i:Val aa) (j:Val af) (c:Val ac) (k:Val aa) (a:Int) (l:Val ah) (m:Val aa) (p:Int→Val ah→Val aa→Option ρ) (q:Val xO→Option ρ):Option ρ :=
  ifb (ilt a (Ó c)) (ê c a fun b=>Ã (pN b.2.2.1 b.2.2.2.1) fun r=>Ã (ŕ ((f,g),h,i,j,c,k) (r,b.2.1)) fun d=>Ã (pN b.2.2.2.1 b.2.2.1) fun s=>Ã (ŕ ((f,g),h,i,j,c,k) (s,b.2.1)) fun e=>Ã (vH ((f,g),h,i,j,c,k) b) fun n=>ck ((0:Int)-n.1) fun o=>Þ (â ((List.length l)+(List.length ([(e,d,n.2),(d,e,o)])))) (Þ (â ((List.length m)+(List.length ([((3:Int),a),((3:Int),a)])))) (ck (a+(1:Int)) fun t=>p t (l++([(e,d,n.2),(d,e,o)])) (m++([((3:Int),a),((3:Int),a)]))))) (q (l,m))
def YQ (a:Val Ä) (k:Val xO→Option ρ):Option ρ :=
  Ã (kh a) fun e=>É (fun(b:Val aS) f=>wz e a.1.1 a.1.2 a.2.1 a.2.2.1 a.2.2.2.1 a.2.2.2.2.1 a.2.2.2.2.2 b.1 b.2.1 b.2.2 (fun g h i=>f (g,h,i)) (fun d=>É (fun(c:Val aS) j=>wy a.1.1 a.1.2 a.2.1 a.2.2.1 a.2.2.2.1 a.2.2.2.2.1 a.2.2.2.2.2 c.1 c.2.1 c.2.2 (fun l m n=>j (l,m,n)) (fun o=>k o)) ((0:Int),d.1,d.2))) ((0:Int),[],[])
def xv (a:Val Ä):Option (Val xO):=YQ a some
def pF (b:Val ae) (a:Int) (c:Int→Option ρ) (d:Int→Option ρ) (e:Unit→Option ρ):Option ρ :=
  ifb (ilt a (Ó b)) (ê b a fun f=>Ã (B5 f) fun g=>ifb (!g) (d (1:Int)) (ifb (igt a 0) (ê b a fun h=>ck (a-(1:Int)) fun i=>ê b i fun j=>ifb (ile h.1 j.1) (d (6:Int)) (ck (a+(1:Int)) fun k=>c k)) (ck (a+(1:Int)) fun l=>c l))) (e ())
def pE (b:Int) (c:Val ac) (a:Int) (d:Int→Option ρ) (e:Int→Option ρ) (f:Unit→Option ρ):Option ρ :=
  ifb (ilt a b) (ê c a fun g=>ê c b fun h=>ifb (ieq g.1 h.1) (e (6:Int)) (ck (a+(1:Int)) fun i=>d i)) (f ())
def j5 (e:Int) (f:Int) (g:Val ae) (h:Val aa) (i:Val af) (a:Val ac) (j:Val aa) (b:Int) (k:Int→Option ρ) (c:Int→Option ρ) (l:Unit→Option ρ):Option ρ :=
  ifb (ilt b (Ó a)) (ê a b fun m=>Ã (B3 m) fun n=>ifb (!n) (c (1:Int)) (É (fun(o:Int) p=>pE b a o (fun q=>p q) (fun r=>c r) (fun _=>ê a b fun s=>Ã (kg ((e,f),g,h,i,a,j) s) fun d=>ifb (ine d 0) (c d) (ck (b+(1:Int)) fun t=>k t))) (0:Int))) (l ())
def j4 (e:Int) (f:Int) (g:Val ae) (h:Val aa) (i:Val af) (j:Val ac) (a:Val aa) (b:Int) (k:Int→Option ρ) (c:Int→Option ρ) (l:Unit→Option ρ):Option ρ :=
  ifb (ilt b (Ó a)) (ê a b fun m=>Ã (xx m.2) fun n=>ifb (!n) (c (1:Int)) (ê a b fun o=>ê a b fun p=>Ã (nz ((e,f),g,h,i,j,a) o.1 p.2) fun d=>ifb (ine d 0) (c d) (ck (b+(1:Int)) fun q=>k q))) (l ())
def Kq (a:Val Ä) (k:Int→Option ρ):Option ρ :=
  Ã (jT a.1 (0:Int) (1000000:Int)) fun d=>ifb (!d) (k (1:Int)) (ifb (igt (Ó a.2.1) 12) (k (2:Int)) (ifb (igt (Ó a.2.2.1) 40) (k (2:Int)) (ifb (igt (Ó a.2.2.2.1) 12) (k (2:Int)) (ifb (igt (Ó a.2.2.2.2.1) 40) (k (2:Int)) (ifb (igt (Ó a.2.2.2.2.2) 10) (k (2:Int)) (É (fun(e:Int) f=>pF a.2.1 e (fun g=>f g) (fun h=>k h) (fun _=>Ã (I9 a) fun b=>ifb (ieq b 0) (Ã (B4 a) fun c=>ifb (ine c 0) (k c) (É (fun(i:Int) j=>j5 a.1.1 a.1.2 a.2.1 a.2.2.1 a.2.2.2.1 a.2.2.2.2.1 a.2.2.2.2.2 i (fun l=>j l) (fun m=>k m) (fun _=>É (fun(n:Int) o=>j4 a.1.1 a.1.2 a.2.1 a.2.2.1 a.2.2.2.1 a.2.2.2.2.1 a.2.2.2.2.2 n (fun p=>o p) (fun q=>k q) (fun _=>Ã (kh a) fun r=>ifb (igt (Ó r) 59) (k (2:Int)) (Ã (xv a) fun s=>ifb (igt (Ó s.1) 300) (k (2:Int)) (k (0:Int))))) (0:Int))) (0:Int))) (ifb (ine b 0) (k b) (É (fun(t:Int) u=>j5 a.1.1 a.1.2 a.2.1 a.2.2.1 a.2.2.2.1 a.2.2.2.2.1 a.2.2.2.2.2 t (fun v=>u v) (fun w=>k w) (fun _=>É (fun(x:Int) y=>j4 a.1.1 a.1.2 a.2.1 a.2.2.1 a.2.2.2.1 a.2.2.2.2.1 a.2.2.2.2.2 x (fun z=>y z) (fun A=>k A) (fun _=>Ã (kh a) fun B=>ifb (igt (Ó B) 59) (k (2:Int)) (Ã (xv a) fun C=>ifb (igt (Ó C.1) 300) (k (2:Int)) (k (0:Int))))) (0:Int))) (0:Int))))) (0:Int)))))))
def lE (a:Val Ä):Option (Int):=Kq a some
def EJ (a:Val Ä) (k:Val Î→Option ρ):Option ρ :=
  Ã (kh a) fun b=>ck ((Ó b)+(1:Int)) fun c=>Ã (xv a) fun d=>k (c,d.1)
def rr (a:Val Ä):Option (Val Î):=EJ a some
def Qo (a:Val Ä) (b:Val Â) (k:Val aM→Option ρ):Option ρ :=
  Þ (â (0+(List.length a.2.2.2.2.2))) (Þ (â ((List.length (([])++a.2.2.2.2.2))+(List.length ([b])))) (Ã (lE (a.1,a.2.1,a.2.2.1,a.2.2.2.1,a.2.2.2.2.1,((([])++a.2.2.2.2.2)++([b])))) fun c=>ifb (ine c 0) (k ((((0:Int),(0:Int)),[],[],[],[],[]),c)) (k ((a.1,a.2.1,a.2.2.1,a.2.2.2.1,a.2.2.2.2.1,((([])++a.2.2.2.2.2)++([b]))),(0:Int)))))
def vJ (a:Val Ä) (b:Val Â):Option ((Val aM)):=Qo a b some
def l8 (d:Int) (e:Int) (a:Int) (b:Val ab) (c:Int→Val ab→Option ρ) (f:Val ab→Option ρ):Option ρ :=
  ifb (ilt a d) (Þ ((ile 0 a)&&(ilt a (ô b))) (Ď b (Int.toNat a) fun i=>ifb (ieq e a) (Þ ((ile 0 a)&&(ilt a (ô (List.set b (Int.toNat a) (1152921504606846976:Int))))) (Ď (List.set b (Int.toNat a) (1152921504606846976:Int)) (Int.toNat a) fun j=>ck (a+(1:Int)) fun g=>c g (List.set (List.set b (Int.toNat a) (1152921504606846976:Int)) (Int.toNat a) (0:Int)))) (ck (a+(1:Int)) fun h=>c h (List.set b (Int.toNat a) (1152921504606846976:Int))))) (f b)
def l9 (a:Int) (b:Int) (c:Val am) (f:Int→Val am→Option ρ) (g:Val am→Option ρ):Option ρ :=
  ifb (ilt b a) (Þ ((ile 0 a)&&(â (Int.toNat a))) (É (fun(d:Val au) h=>l8 a b d.1 d.2 (fun i j=>h (i,j)) (fun e=>Þ (â ((List.length c)+(List.length ([e])))) (ck (b+(1:Int)) fun k=>f k (c++([e]))))) ((0:Int),(List.replicate (Int.toNat a) (0:Int))))) (g c)
def l7 (d:Val ah) (c:Int) (b:Val am) (f:Int→Val am→Option ρ) (g:Val am→Option ρ):Option ρ :=
  ifb (ilt c (Ó d)) (ê d c fun a=>Þ ((ile 0 a.1)&&(ilt a.1 (ô b))) (Þ ((ile 0 a.1)&&(ilt a.1 (ô b))) (Ď b (Int.toNat a.1) fun h=>Þ ((ile 0 a.2.1)&&(ilt a.2.1 (ô h))) (Ď b (Int.toNat a.1) fun i=>Ď i (Int.toNat a.2.1) fun j=>Ď b (Int.toNat a.1) fun k=>Þ ((ile 0 a.2.1)&&(ilt a.2.1 (ô k))) (Ď b (Int.toNat a.1) fun e=>Ď e (Int.toNat a.2.1) fun m=>ck (c+(1:Int)) fun l=>f l (List.set b (Int.toNat a.1) (List.set e (Int.toNat a.2.1) (yK j a.2.2)))))))) (g b)
def l5 (d:Int) (c:Int) (g:Int) (b:Int) (a:Val am) (e:Int→Val am→Option ρ) (h:Val am→Option ρ):Option ρ :=
  ifb (ilt b g) (Þ ((ile 0 d)&&(ilt d (ô a))) (Ď a (Int.toNat d) fun i=>Þ ((ile 0 b)&&(ilt b (ô i))) (Ď a (Int.toNat d) fun j=>Ď j (Int.toNat b) fun k=>ifb (ine k 1152921504606846976) (Þ ((ile 0 c)&&(ilt c (ô a))) (Þ ((ile 0 c)&&(ilt c (ô a))) (Ď a (Int.toNat c) fun l=>Þ ((ile 0 b)&&(ilt b (ô l))) (Ď a (Int.toNat c) fun m=>Ď m (Int.toNat b) fun n=>Þ ((ile 0 c)&&(ilt c (ô a))) (Ď a (Int.toNat c) fun o=>Þ ((ile 0 d)&&(ilt d (ô o))) (Ď a (Int.toNat c) fun p=>Ď p (Int.toNat d) fun q=>Þ ((ile 0 d)&&(ilt d (ô a))) (Ď a (Int.toNat d) fun r=>Þ ((ile 0 b)&&(ilt b (ô r))) (Ď a (Int.toNat d) fun s=>Ď s (Int.toNat b) fun t=>ck (q+t) fun u=>Ď a (Int.toNat c) fun v=>Þ ((ile 0 b)&&(ilt b (ô v))) (Ď a (Int.toNat c) fun f=>Ď f (Int.toNat b) fun y=>ck (b+(1:Int)) fun w=>e w (List.set a (Int.toNat c) (List.set f (Int.toNat b) (yK n u)))))))))))) (ck (b+(1:Int)) fun x=>e x a)))) (h a)
def l6 (c:Int) (d:Int) (a:Int) (b:Val am) (e:Int→Val am→Option ρ) (g:Val am→Option ρ):Option ρ :=
  ifb (ilt a d) (Þ ((ile 0 a)&&(ilt a (ô b))) (Ď b (Int.toNat a) fun h=>Þ ((ile 0 c)&&(ilt c (ô h))) (Ď b (Int.toNat a) fun i=>Ď i (Int.toNat c) fun j=>ifb (ieq j 1152921504606846976) (ck (a+(1:Int)) fun k=>e k b) (É (fun(f:Val aT) l=>l5 c a d f.1 f.2 (fun m n=>l (m,n)) (fun o=>ck (a+(1:Int)) fun p=>e p o)) ((0:Int),b))))) (g b)
def i9 (c:Int) (b:Val am) (a:Int) (d:Int→Option ρ) (e:Bool→Option ρ) (f:Unit→Option ρ):Option ρ :=
  ifb (ilt a c) (Þ ((ile 0 a)&&(ilt a (ô b))) (Ď b (Int.toNat a) fun g=>Þ ((ile 0 a)&&(ilt a (ô g))) (Ď b (Int.toNat a) fun h=>Ď h (Int.toNat a) fun i=>ifb (ilt i 0) (e false) (ck (a+(1:Int)) fun j=>d j)))) (f ())
def j6 (a:Int) (b:Int) (d:Val am) (f:Int→Val am→Option ρ) (g:(Val (.pair .bool am))→Option ρ) (h:Val am→Option ρ):Option ρ :=
  ifb (ilt b a) (É (fun(e:Val aT) i=>l6 b a e.1 e.2 (fun j k=>i (j,k)) (fun c=>É (fun(l:Int) m=>i9 a c l (fun n=>m n) (fun o=>g (o,c)) (fun _=>ck (b+(1:Int)) fun p=>f p c)) (0:Int))) ((0:Int),d)) (h d)
def Kr (a:Val Î) (k:(Val (.pair am .bool))→Option ρ):Option ρ :=
  É (fun(b:Val aT) e=>l9 a.1 b.1 b.2 (fun f g=>e (f,g)) (fun h=>É (fun(c:Val aT) i=>l7 a.2 c.1 c.2 (fun j l=>i (j,l)) (fun m=>É (fun(d:Val aT) n=>j6 a.1 d.1 d.2 (fun o p=>n (o,p)) (fun q=>k ([],q.1)) (fun r=>k (r,true))) ((0:Int),m))) ((0:Int),h))) ((0:Int),[])
def vK (a:Val Î):Option ((Val (.pair am .bool))):=Kr a some
def oa (j:Val aa) (b:Int) (c:Int) (d:Int) (e:Val ae) (f:Val aa) (g:Val af) (h:Val ac) (i:Val aa) (k:Int) (l:Int) (m:Int) (n:Int) (o:Int→Int→Int→Val ae→Val aa→Val af→Val ac→Val aa→Int→Int→Int→Int→Option ρ) (p:Val aA→Option ρ) (q:Val aA→Option ρ):Option ρ :=
  ifb (ilt b (Ó j)) (ê j b fun r=>Ã (ŕ ((c,d),e,f,g,h,i) r) fun s=>ifb (igt s 0) (ck (b+(1:Int)) fun t=>o t c d e f g h i k l m n) (ê j b fun u=>Ã (vJ ((c,d),e,f,g,h,i) u) fun a=>ifb (ine a.2 0) (p (c,d,e,f,g,h,i,(0:Int),(0:Int),(0:Int),a.2)) (ck (b+(1:Int)) fun v=>o v a.1.1.1 a.1.1.2 a.1.2.1 a.1.2.2.1 a.1.2.2.2.1 a.1.2.2.2.2.1 a.1.2.2.2.2.2 k l m n))) (q (c,d,e,f,g,h,i,k,l,m,n))
def P0 (c:Val Ä) (h:Val aa) (k:Val å→Option ρ):Option ρ :=
  Ã (lE c) fun e=>ifb (ine e 0) (k ((((0:Int),(0:Int)),[],[],[],[],[]),((0:Int),[]),[],e)) (É (fun(b:(Val (.pair tI aA))) i=>oa h b.1 b.2.1 b.2.2.1 b.2.2.2.1 b.2.2.2.2.1 b.2.2.2.2.2.1 b.2.2.2.2.2.2.1 b.2.2.2.2.2.2.2.1 b.2.2.2.2.2.2.2.2.1 b.2.2.2.2.2.2.2.2.2.1 b.2.2.2.2.2.2.2.2.2.2.1 b.2.2.2.2.2.2.2.2.2.2.2 (fun j l m n o p q r s t u v=>i (j,l,m,n,o,p,q,r,s,t,u,v)) (fun d=>k (((d.2.2.2.2.2.2.2.1,d.2.2.2.2.2.2.2.2.1),[],[],[],[],[]),(d.2.2.2.2.2.2.2.2.2.1,[]),[],d.2.2.2.2.2.2.2.2.2.2)) (fun a=>Ã (rr ((a.1,a.2.1),a.2.2.1,a.2.2.2.1,a.2.2.2.2.1,a.2.2.2.2.2.1,a.2.2.2.2.2.2.1)) fun f=>Ã (vK f) fun g=>ifb (!g.2) (k ((((0:Int),(0:Int)),[],[],[],[],[]),((0:Int),[]),[],(9:Int))) (k (((a.1,a.2.1),a.2.2.1,a.2.2.2.1,a.2.2.2.2.1,a.2.2.2.2.2.1,a.2.2.2.2.2.2.1),f,g.1,(0:Int))))) ((0:Int),c.1.1,c.1.2,c.2.1,c.2.2.1,c.2.2.2.1,c.2.2.2.2.1,c.2.2.2.2.2,(0:Int),(0:Int),(0:Int),(0:Int)))
def I8 (a:Val Ä) (b:Val aa):Option (Val å):=P0 a b some
def J8 (a:Val Ä) (c:Val aa) (d:Bool) (k:Val å→Option ρ):Option ρ :=
  Ã (lE a) fun b=>ifb (ine b 0) (k ((((0:Int),(0:Int)),[],[],[],[],[]),((0:Int),[]),[],b)) (ifb (!d) (k ((((0:Int),(0:Int)),[],[],[],[],[]),((0:Int),[]),[],(1:Int))) (Ã (I8 a c) fun e=>k e))
def vE (a:Val Ä) (b:Val aa) (c:Bool):Option (Val å):=J8 a b c some
def kZ (a:Val å) (b:Int) (k:Val Â→Option ρ):Option ρ :=
  ê a.2.2.1 b fun c=>ê c (0:Int) fun d=>ck ((0:Int)-d) fun e=>ê a.2.2.1 (0:Int) fun f=>ê f b fun g=>k (e,g)
def Ŕ (a:Val å) (b:Int):Option (Val Â):=kZ a b some
def wu (a:Val å) (b:Val Â) (k:Int→Option ρ):Option ρ :=
  Ã (ŕ a.1 b) fun c=>k c
def Ř (a:Val å) (b:Val Â):Option (Int):=wu a b some
def jF (b:Val aa) (c:Int) (d:Int) (e:Val ae) (f:Val aa) (g:Val af) (h:Val ac) (i:Val aa) (j:Int) (k:Val ah) (l:Val am) (m:Int) (a:Int) (n:Int) (o:Int) (q:Int→Int→Int→Option ρ) (r:Val Â→Option ρ):Option ρ :=
  ifb (ilt a (Ó b)) (ê b a fun s=>Ã (Ř (((c,d),e,f,g,h,i),(j,k),l,m) s) fun t=>Ã (Ŕ (((c,d),e,f,g,h,i),(j,k),l,m) t) fun p=>ck (n+p.1) fun u=>ck (o+p.2) fun v=>ck (a+(1:Int)) fun w=>q w u v) (r (n,o))
def qD (a:Val å) (c:Val aa) (k:Val Â→Option ρ):Option ρ :=
  ck ((Ó c)-(1:Int)) fun d=>ck (d*a.1.1.1) fun e=>ck (d*a.1.1.2) fun f=>É (fun(b:Val ć) g=>jF c a.1.1.1 a.1.1.2 a.1.2.1 a.1.2.2.1 a.1.2.2.2.1 a.1.2.2.2.2.1 a.1.2.2.2.2.2 a.2.1.1 a.2.1.2 a.2.2.1 a.2.2.2 b.1 b.2.1 b.2.2 (fun h i j=>g (h,i,j)) (fun l=>k l)) ((0:Int),e,f)
def Š (a:Val å) (b:Val aa):Option (Val Â):=qD a b some
def jL (rec:Val å→Val ab→Val ab→Option Int) (d:Val ab) (a:Val ab) (g:Int) (h:Int) (i:Val ae) (j:Val aa) (k:Val af) (l:Val ac) (m:Val aa) (n:Int) (o:Val ah) (e:Val am) (p:Int) (f:Int) (b:Int) (q:Int→Int→Option ρ) (r:Int→Option ρ):Option ρ :=
  ifb (ilt b (Ó a)) (Þ ((ile 0 b)&&(ile b (ô a))) (Þ (â (0+(List.length (List.take (Int.toNat b) a)))) (ck (b+(1:Int)) fun c=>Þ ((ile 0 c)&&(ile c (ô a))) (Þ (â ((List.length (([])++(List.take (Int.toNat b) a)))+(List.length (List.drop (Int.toNat c) a)))) (Þ (ile 1 (ô d)) (Ã (rec (((g,h),i,j,k,l,m),(n,o),e,p) (List.drop 1 d) ((([])++(List.take (Int.toNat b) a))++(List.drop (Int.toNat c) a))) fun s=>ê d (0:Int) fun t=>ê e t fun u=>ê a b fun v=>ê u v fun w=>ck (w+s) fun x=>ck (b+(1:Int)) fun y=>q (yK f x) y)))))) (r f)
def ũ (rec:Val å→Val ab→Val ab→Option Int) (a:Val å) (b:Val ab) (d:Val ab) (k:Int→Option ρ):Option ρ :=
  ifb (ieq (Ó b) 0) (k (0:Int)) (É (fun(c:Val Â) e=>jL rec b d a.1.1.1 a.1.1.2 a.1.2.1 a.1.2.2.1 a.1.2.2.2.1 a.1.2.2.2.2.1 a.1.2.2.2.2.2 a.2.1.1 a.2.1.2 a.2.2.1 a.2.2.2 c.1 c.2 (fun f g=>e (f,g)) (fun h=>k h)) ((1152921504606846976:Int),(0:Int)))
def Ī:Nat→Val å→Val ab→Val ab→Option Int
  |0=>fun _ _ _=>none
  |n+1=>fun a b c=>ũ (Ī n) a b c some
def mj (a:Val å) (b:Val ab) (c:Val ab):Option (Int):=Ī 100 a b c
def Ũ (c:Val ab) (b:Int) (a:Val ab) (d:Int→Val ab→Option ρ) (e:Val ab→Option ρ):Option ρ :=
  ifb (ilt b (Ó c)) (Þ (â ((List.length a)+(List.length ([(0:Int)])))) (ck (b+(1:Int)) fun f=>d f (a++([(0:Int)])))) (e a)
def lW (c:Val ab) (b:Int) (a:Val ab) (d:Int→Val ab→Option ρ) (e:Val ab→Option ρ):Option ρ :=
  ifb (ilt b (Ó c)) (Þ (â ((List.length a)+(List.length ([(0:Int)])))) (ck (b+(1:Int)) fun f=>d f (a++([(0:Int)])))) (e a)
def qC (e:Val å) (a:Val ab) (b:Val ab) (k:Int→Option ρ):Option ρ :=
  Þ (â (0+(List.length b))) (Þ (â (0+(List.length a))) (É (fun(c:Val au) f=>Ũ a c.1 c.2 (fun g h=>f (g,h)) (fun i=>É (fun(d:Val au) j=>lW b d.1 d.2 (fun l m=>j (l,m)) (fun n=>Ã (mj e i n) fun o=>k o)) ((0:Int),(([])++a)))) ((0:Int),(([])++b))))
def jS (a:Val å) (b:Val ab) (c:Val ab):Option (Int):=qC a b c some
def ň (e:Int) (c:Val ab) (f:Int) (g:Int) (h:Val ae) (i:Val aa) (j:Val af) (k:Val ac) (l:Val aa) (m:Int) (n:Val ah) (o:Val am) (p:Int) (a:Int) (b:Val ab) (q:Int→Val ab→Option ρ) (r:Val ab→Option ρ):Option ρ :=
  ifb (ilt a (Ó c)) (ê c a fun s=>Ã (Ř (((f,g),h,i,j,k,l),(m,n),o,p) (s,e)) fun d=>Þ (â ((List.length b)+(List.length ([d])))) (ck (a+(1:Int)) fun t=>q t (b++([d])))) (r b)
def kq (e:Int) (c:Val ab) (f:Int) (g:Int) (h:Val ae) (i:Val aa) (j:Val af) (k:Val ac) (l:Val aa) (m:Int) (n:Val ah) (o:Val am) (p:Int) (a:Int) (b:Val ab) (q:Int→Val ab→Option ρ) (r:Val ab→Option ρ):Option ρ :=
  ifb (ilt a (Ó c)) (ê c a fun s=>Ã (Ř (((f,g),h,i,j,k,l),(m,n),o,p) (s,e)) fun d=>Þ (â ((List.length b)+(List.length ([d])))) (ck (a+(1:Int)) fun t=>q t (b++([d])))) (r b)
def nl (a:Val å) (b:Int) (c:Val ab) (d:Val ab) (k:Val Â→Option ρ):Option ρ :=
  É (fun(e:Val au) l=>ň b c a.1.1.1 a.1.1.2 a.1.2.1 a.1.2.2.1 a.1.2.2.2.1 a.1.2.2.2.2.1 a.1.2.2.2.2.2 a.2.1.1 a.2.1.2 a.2.2.1 a.2.2.2 e.1 e.2 (fun m n=>l (m,n)) (fun f=>É (fun(g:Val au) o=>kq b d a.1.1.1 a.1.1.2 a.1.2.1 a.1.2.2.1 a.1.2.2.2.1 a.1.2.2.2.2.1 a.1.2.2.2.2.2 a.2.1.1 a.2.1.2 a.2.2.1 a.2.2.2 g.1 g.2 (fun p q=>o (p,q)) (fun h=>ck ((Ó c)-(1:Int)) fun i=>ck ((Ó d)-(1:Int)) fun j=>Ã (jS a f h) fun r=>ck ((BV (0:Int) i)*a.1.1.2) fun s=>ck (r+s) fun t=>ck ((BV (0:Int) j)*a.1.1.1) fun u=>ck (t-u) fun v=>Ã (jS a h f) fun w=>ck ((0:Int)-w) fun x=>ck ((BV (0:Int) i)*a.1.1.1) fun y=>ck (x+y) fun z=>ck ((BV (0:Int) j)*a.1.1.2) fun A=>ck (z-A) fun B=>k (B,v))) ((0:Int),[]))) ((0:Int),[])
def ā (a:Val å) (b:Int) (c:Val ab) (d:Val ab):Option (Val Â):=nl a b c d some
def qA (h:Val Ä) (d:Int) (c:Val ab) (e:Val ab) (k:Bool→Option ρ):Option ρ :=
  Ã (O0 h) fun x=>ifb (!x) (Ã ω fun y=>k y) (ifb (igt (Ó c) 10) (Ã ω fun z=>k z) (ifb (igt (Ó e) 10) (Ã ω fun A=>k A) (Ã (Jg h d c) fun b=>Ã (Cc h d c e) fun a=>Ã (nQ d c) fun g=>Ã (kR d c e) fun j=>Ã (vE h g.1 g.2) fun i=>Ã (vE h j.1 j.2) fun f=>ifb (ine b.2 i.2.2.2) (k false) (ifb (ine a.2 f.2.2.2) (k false) (ifb (ine b.2 0) (ifb (!((Ě b.1.1 (0:Int))&&((Ě b.1.2 (0:Int))&&true))) (k false) (ifb (ine a.2 0) (ifb (!((Ě a.1.1 (0:Int))&&((Ě a.1.2 (0:Int))&&true))) (k false) (Ã ω fun B=>ifb B (ifb (ine b.2 0) (ifb (ine a.2 0) (k true) (Ã (ā f d c e) fun l=>k ((Ě a.1.1 l.1)&&((Ě a.1.2 l.2)&&true)))) (Ã (Š i g.1) fun m=>ifb ((Ě b.1.1 m.1)&&((Ě b.1.2 m.2)&&true)) (ifb (ine a.2 0) (k true) (Ã (ā f d c e) fun n=>k ((Ě a.1.1 n.1)&&((Ě a.1.2 n.2)&&true)))) (k false))) (k false))) (Ã ω fun C=>ifb C (ifb (ine b.2 0) (ifb (ine a.2 0) (k true) (Ã (ā f d c e) fun o=>k ((Ě a.1.1 o.1)&&((Ě a.1.2 o.2)&&true)))) (Ã (Š i g.1) fun p=>ifb ((Ě b.1.1 p.1)&&((Ě b.1.2 p.2)&&true)) (ifb (ine a.2 0) (k true) (Ã (ā f d c e) fun q=>k ((Ě a.1.1 q.1)&&((Ě a.1.2 q.2)&&true)))) (k false))) (k false)))) (ifb (ine a.2 0) (ifb (!((Ě a.1.1 (0:Int))&&((Ě a.1.2 (0:Int))&&true))) (k false) (Ã ω fun D=>ifb D (ifb (ine b.2 0) (ifb (ine a.2 0) (k true) (Ã (ā f d c e) fun r=>k ((Ě a.1.1 r.1)&&((Ě a.1.2 r.2)&&true)))) (Ã (Š i g.1) fun s=>ifb ((Ě b.1.1 s.1)&&((Ě b.1.2 s.2)&&true)) (ifb (ine a.2 0) (k true) (Ã (ā f d c e) fun t=>k ((Ě a.1.1 t.1)&&((Ě a.1.2 t.2)&&true)))) (k false))) (k false))) (Ã ω fun E=>ifb E (ifb (ine b.2 0) (ifb (ine a.2 0) (k true) (Ã (ā f d c e) fun u=>k ((Ě a.1.1 u.1)&&((Ě a.1.2 u.2)&&true)))) (Ã (Š i g.1) fun v=>ifb ((Ě b.1.1 v.1)&&((Ě b.1.2 v.2)&&true)) (ifb (ine a.2 0) (k true) (Ã (ā f d c e) fun w=>k ((Ě a.1.1 w.1)&&((Ě a.1.2 w.2)&&true)))) (k false))) (k false))))))))
def rq (a:Val Ä) (b:Int) (c:Val ab) (d:Val ab):Option (Bool):=qA a b c d some
end Go.Proofs.ZzM
end
