/- lemmas -/
import Derived.Test.YtiochmbenflhhaaGreatAmF
set_option linter.all false
set_option linter.unusedSectionVars false
set_option linter.unusedVariables false
set_option linter.unusedSimpArgs false
noncomputable section
variable {ρ:Type}
set_option maxRecDepth 100000
namespace Go.Proofs.ZzM
open Go Go.Am
abbrev tI:Ty:=.int .i64
abbrev Ã:Ty:=(.pair tI tI)
abbrev ğ:Ty:=(.pair tI Ã)
abbrev ü:Ty:=(.pair Ã Ã)
abbrev jn:Ty:=(.pair Ã tI)
abbrev Ł:Ty:=(.pair tI jn)
abbrev aa8:Ty:=(.pair ü tI)
abbrev Ð:Ty:=(.pair tI (.slice ğ))
abbrev Cd:Ty:=(.pair (.slice ğ) (.slice Ã))
abbrev ŭ:Ty:=(.pair Ã (.pair ğ ğ))
abbrev Ï:Ty:=(.pair tI (.pair tI (.pair tI (.pair Ã jn))))
abbrev Î:Ty:=(.pair tI (.pair tI (.pair (.slice tI) (.pair (.slice tI) (.pair tI ğ)))))
abbrev Ä:Ty:=(.pair Ã (.pair (.slice Ï) (.pair (.slice Ã) (.pair (.slice Ł) (.pair (.slice Î) (.slice Ã))))))
abbrev ι:Ty:=(.pair Ä (.pair Ã (.pair .bool (.pair tI (.slice tI)))))
abbrev afs:Ty:=(.pair Ä Ð)
abbrev afQ:Ty:=(.pair Ä (.pair (.slice Ã) (.pair Ð (.slice Ã))))
abbrev aa:Ty:=(.slice Ã)
abbrev ab:Ty:=(.slice tI)
abbrev ac:Ty:=(.slice Î)
abbrev ae:Ty:=(.slice Ï)
abbrev af:Ty:=(.slice Ł)
abbrev ah:Ty:=(.pair tI (.pair tI (.pair ae (.pair aa (.pair af (.pair ac (.pair aa (.pair tI (.pair tI (.pair ae (.pair aa (.pair af (.pair ac (.pair aa (.pair tI (.pair tI (.pair ae (.pair aa (.pair af (.pair ac (.pair aa (.pair (.map tI .bool) (.pair (.map tI .bool) ae)))))))))))))))))))))))
abbrev ai:Ty:=(.slice ğ)
abbrev aj:Ty:=(.pair tI (.pair tI (.pair ae (.pair aa (.pair af (.pair ac aa))))))
abbrev ak:Ty:=(.ptr afs)
abbrev am:Ty:=(.slice .bool)
abbrev ao:Ty:=(.map tI .bool)
abbrev aq:Ty:=(.pair ab (.pair tI (.pair tI (.pair tI (.pair ae (.pair aa (.pair af (.pair ac (.pair aa (.pair tI (.pair tI (.pair tI (.pair tI (.pair tI (.pair tI (.pair ab (.pair ab (.pair tI (.pair tI (.pair tI (.pair tI (.pair aa (.pair tI (.pair tI (.pair ae (.pair aa (.pair af (.pair ac (.pair aa (.pair tI (.pair ai (.pair tI (.pair tI (.pair tI (.pair tI (.pair tI (.pair tI (.pair tI (.pair tI (.pair (.slice ab) (.pair (.slice ab) (.slice ab))))))))))))))))))))))))))))))))))))))))))
abbrev ar:Ty:=(.slice ab)
abbrev au:Ty:=(.map tI Ï)
abbrev aw:Ty:=(.pair ab (.pair tI (.pair ak (.pair ab (.pair ab am)))))
abbrev ax:Ty:=(.pair tI (.pair tI (.pair tI (.pair ae (.pair aa (.pair af (.pair ac (.pair aa (.pair tI (.pair tI (.pair tI (.pair tI (.pair tI (.pair tI (.pair ab (.pair ab (.pair tI (.pair tI (.pair tI (.pair tI aa))))))))))))))))))))
abbrev ay:Ty:=(.pair tI (.pair tI (.pair tI (.pair tI (.pair tI ğ)))))
abbrev az:Ty:=(.pair tI ab)
abbrev aA:Ty:=(.pair tI (.pair tI (.pair ae (.pair aa (.pair af (.pair ac (.pair aa aj)))))))
abbrev aB:Ty:=(.pair tI (.pair tI am))
abbrev aC:Ty:=(.pair tI (.pair ab (.pair tI (.pair ak (.pair ab ab)))))
abbrev aD:Ty:=(.pair tI aa)
abbrev aE:Ty:=(.pair tI aj)
abbrev aF:Ty:=(.ptr afQ)
abbrev aG:Ty:=(.pair ab tI)
abbrev aH:Ty:=(.pair tI (.pair tI az))
abbrev aI:Ty:=(.pair .bool tI)
abbrev aJ:Ty:=(.pair tI (.pair tI (.pair tI (.pair ae (.pair aa (.pair af (.pair ac (.pair aa (.pair tI ğ)))))))))
abbrev aK:Ty:=(.pair tI Ð)
abbrev aL:Ty:=(.pair Ä Î)
abbrev aM:Ty:=(.pair tI (.pair tI (.pair tI (.pair ae (.pair aa (.pair af (.pair ac (.pair aa ay))))))))
abbrev aO:Ty:=(.pair Ä Ã)
abbrev aP:Ty:=(.pair am ab)
abbrev aQ:Ty:=(.pair ab (.pair am (.pair ab ab)))
abbrev aR:Ty:=(.slice ar)
abbrev aS:Ty:=(.pair Ä tI)
abbrev aT:Ty:=(.pair ak Ã)
abbrev aU:Ty:=(.pair tI aD)
abbrev aV:Ty:=(.ptr Ã)
abbrev aW:Ty:=(.pair Ð ab)
abbrev aX:Ty:=(.pair Ã Î)
abbrev aY:Ty:=(.pair aa Ã)
abbrev aZ:Ty:=(.pair Ð Ã)
abbrev ba:Ty:=(.pair tI .bool)
abbrev bc:Ty:=(.pair ab ab)
abbrev bf:Ty:=(.pair (.int .u64) (.int .u64))
abbrev bg:Ty:=(.pair ab .bool)
abbrev bh:Ty:=(.pair Ä (.pair au tI))
def Gx (a:Val Ã) (b:Int) (c:Int) (k:Bool→Option ρ):Option ρ :=
  ifb (ile b a.1) (ifb (ile a.1 a.2) (k (ile a.2 c)) (k false)) (k false)
def Θ (a:Val Ã) (b:Int) (c:Int):Option (Bool):=Gx a b c some
def Gq (a:Int) (b:Int) (c:Int) (k:Bool→Option ρ):Option ρ :=
  ifb (ile b a) (k (ile a c)) (k false)
def ď (a:Int) (b:Int) (c:Int):Option (Bool):=Gq a b c some
def L6 (a:Int) (k:Bool→Option ρ):Option ρ :=
  Â (ď a (0:Int) (20000:Int)) fun b=>k b
def mO (a:Int):Option (Bool):=L6 a some
def Ru (a:Int) (k:Int→Option ρ):Option ρ :=
  ifb (ilt a 0) (k (IntKind.wrap .u64 (0-(IntKind.wrap .u64 a)))) (k (IntKind.wrap .u64 a))
def qE (a:Int):Option (Int):=Ru a some
def ym (b:Int) (a:Int) (c:Int→Int→Option ρ) (d:Int→Option ρ):Option ρ :=
  ifb (ine a 0) (ifb (ĩ a 0) (none) (c a (Int.tmod b a))) (d b)
def Xh (b:Int) (c:Int) (k:Int→Option ρ):Option ρ :=
  Í (fun(a:Val bf) d=>ym a.1 a.2 (fun e f=>d (e,f)) (fun g=>k g)) (b,c)
def MB (a:Int) (b:Int):Option (Int):=Xh a b some
def LL (a:Val Ã) (k:Bool→Option ρ):Option ρ :=
  ifb (ige a.2 1) (ifb (ile a.2 2147483647) (Â (qE a.1) fun b=>ifb (ile b 2147483647) (Â (qE a.1) fun c=>Â (qE a.2) fun d=>Â (MB c d) fun e=>k (ieq e 1)) (k false)) (k false)) (k false)
def sX (a:Val Ã):Option (Bool):=LL a some
def BM (a:Val Ï) (k:Bool→Option ρ):Option ρ :=
  Â (sX a.2.2.2.2.1) fun b=>ifb b (Â (ď a.2.2.2.2.1.1 (-1000:Int) (1000:Int)) fun c=>ifb c (Â (ď a.1 (1:Int) (1099511627776:Int)) fun d=>ifb d (Â (mO a.2.1) fun e=>ifb e (Â (ď a.2.2.1 (1:Int) (1125899906842624:Int)) fun f=>ifb f (Â (Θ a.2.2.2.1 (-1073741824:Int) (1073741824:Int)) fun g=>ifb g (ifb (ile a.2.2.2.2.1.2 100) (Â (ď a.2.2.2.2.2 (0:Int) (1048576:Int)) fun h=>k h) (k false)) (k false)) (k false)) (k false)) (k false)) (Â (ď a.1 (1:Int) (1099511627776:Int)) fun i=>ifb i (Â (mO a.2.1) fun j=>ifb j (Â (ď a.2.2.1 (1:Int) (1125899906842624:Int)) fun l=>ifb l (Â (Θ a.2.2.2.1 (-1073741824:Int) (1073741824:Int)) fun m=>ifb m (k false) (k false)) (k false)) (k false)) (k false))) (Â (ď a.1 (1:Int) (1099511627776:Int)) fun n=>ifb n (Â (mO a.2.1) fun o=>ifb o (Â (ď a.2.2.1 (1:Int) (1125899906842624:Int)) fun p=>ifb p (Â (Θ a.2.2.2.1 (-1073741824:Int) (1073741824:Int)) fun q=>ifb q (k false) (k false)) (k false)) (k false)) (k false))
def uO (a:Val Ï):Option (Bool):=BM a some
def iO (e:Val ae) (f:Int) (g:Val ae) (a:Int) (b:Int→Option ρ) (c:Int→Option ρ) (h:Unit→Option ρ):Option ρ :=
  ifb (ilt a f) (û e a fun d=>Â (uO d) fun i=>ifb (!i) (c (1:Int)) (ifb (igt a 0) (ck (a-(1:Int)) fun j=>û g j fun k=>ifb (ile d.1 k.1) (c (6:Int)) (ck (a+(1:Int)) fun l=>b l)) (ck (a+(1:Int)) fun m=>b m))) (h ())
def oT (a:Val Ä) (k:Int→Option ρ):Option ρ :=
  Í (fun(b:Int) c=>iO a.2.1 (Ô a.2.1) a.2.1 b (fun d=>c d) (fun e=>k e) (fun _=>k (0:Int))) (0:Int)
def ŵ (a:Val Ä):Option (Int):=oT a some
def mc (d:Val ae) (e:Int) (a:Int) (b:Val au) (f:Int→Val au→Option ρ) (g:Val au→Option ρ):Option ρ :=
  ifb (ilt a e) (û d a fun c=>ck (a+(1:Int)) fun h=>f h (JJ (k:=tI) (v:=Ï) c.1 c b)) (g b)
def BJ (a:Val Ä) (k:Val au→Option ρ):Option ρ :=
  Í (fun(b:(Val (.pair tI au))) c=>mc a.2.1 (Ô a.2.1) b.1 b.2 (fun d e=>c (d,e)) (fun f=>k f)) ((0:Int),[])
def θ (a:Val Ä):Option ((Val au)):=BJ a some
def gH (b:Val ab) (c:Int) (d:Int) (a:Int) (e:Int→Option ρ) (f:Int→Option ρ) (g:Unit→Option ρ):Option ρ :=
  ifb (ilt a d) (û b a fun h=>ifb (ieq c h) (f a) (ck (a+(1:Int)) fun i=>e i)) (g ())
def lC (a:Val ab) (b:Int) (k:Int→Option ρ):Option ρ :=
  Í (fun(c:Int) d=>gH a b (Ô a) c (fun e=>d e) (fun f=>k f) (fun _=>k (-1:Int))) (0:Int)
def jf (a:Val ab) (b:Int):Option (Int):=lC a b some
def jl (a:Val ab) (b:Int) (k:Bool→Option ρ):Option ρ :=
  Â (jf a b) fun c=>k (ige c 0)
def đ (a:Val ab) (b:Int):Option (Bool):=jl a b some
def uz (f:Val ac) (g:Int) (d:Int) (a:Int) (b:Val ab) (e:Int→Val ab→Option ρ) (h:Val ab→Option ρ):Option ρ :=
  ifb (ilt a g) (û f a fun c=>Â (đ c.2.2.1 d) fun i=>Â (đ c.2.2.2.1 d) fun j=>ifb (!(i==j)) (ç (è ((List.length b)+(List.length ([c.2.1])))) (ck (a+(1:Int)) fun k=>e k (b++([c.2.1])))) (ck (a+(1:Int)) fun l=>e l b)) (h b)
def uw (e:Val aa) (f:Int) (g:Int) (a:Int) (b:Val ab) (d:Int→Val ab→Option ρ) (h:Val ab→Option ρ):Option ρ :=
  ifb (ilt a f) (û e a fun c=>ifb (ieq c.1 g) (ç (è ((List.length b)+(List.length ([c.2])))) (ck (a+(1:Int)) fun i=>d i (b++([c.2])))) (ck (a+(1:Int)) fun j=>d j b)) (h b)
def RS (a:Val Ä) (b:Val Ï) (k:Val ab→Option ρ):Option ρ :=
  Í (fun(d:Val az) f=>uz a.2.2.2.2.1 (Ô a.2.2.2.2.1) b.1 d.1 d.2 (fun g h=>f (g,h)) (fun i=>Í (fun(e:Val az) j=>uw a.2.2.2.2.2 (Ô a.2.2.2.2.2) b.1 e.1 e.2 (fun l m=>j (l,m)) (fun c=>ç (è (List.length c)) (ç (è (List.length (Cg c))) (k (yG (Cg c)))))) ((0:Int),i))) ((0:Int),[b.2.1])
def nD (a:Val Ä) (b:Val Ï):Option ((Val ab)):=RS a b some
def qr (e:Val ab) (f:Int) (c:Int) (a:Int) (b:Val aa) (g:Int→Val aa→Option ρ) (h:Val aa→Option ρ):Option ρ :=
  ifb (ilt a f) (û e a fun d=>ç (è ((List.length b)+(List.length ([(c,d)])))) (ck (a+(1:Int)) fun i=>g i (b++([(c,d)])))) (h b)
def qt (f:Val ae) (g:Int) (h:Int) (i:Int) (j:Val ae) (k:Val aa) (l:Val af) (m:Val ac) (n:Val aa) (a:Int) (b:Val aa) (o:Int→Val aa→Option ρ) (p:Val aa→Option ρ):Option ρ :=
  ifb (ilt a g) (û f a fun c=>Â (nD ((h,i),j,k,l,m,n) c) fun d=>Í (fun(e:Val aD) q=>qr d (Ô d) c.1 e.1 e.2 (fun r s=>q (r,s)) (fun t=>ck (a+(1:Int)) fun u=>o u t)) ((0:Int),b)) (p b)
def L1 (a:Val Ä) (k:Val aa→Option ρ):Option ρ :=
  Í (fun(b:Val aD) c=>qt a.2.1 (Ô a.2.1) a.1.1 a.1.2 a.2.1 a.2.2.1 a.2.2.2.1 a.2.2.2.2.1 a.2.2.2.2.2 b.1 b.2 (fun d e=>c (d,e)) (fun f=>k f)) ((0:Int),[])
def pf (a:Val Ä):Option ((Val aa)):=L1 a some
def rf (a:Val au) (b:Int) (c:Int) (k:Int→Option ρ):Option ρ :=
  S6 (k:=tI) (v:=Ï) b a (fun d=>ifb (ilt c d.2.1) (k (4:Int)) (k (0:Int))) (k (5:Int))
def iF (a:Val au) (b:Int) (c:Int):Option (Int):=rf a b c some
def BL (b:Int) (a:Int) (c:(Val (.ptr au))) (k:Int→Option ρ):Option ρ :=
  Â (mO a) fun d=>ifb (!d) (k (1:Int)) (Â (iF c b a) fun e=>k e)
def ĸ (a:Int) (b:Int) (c:(Val (.ptr au))):Option (Int):=BL a b c some
def jB (d:Val af) (e:Int) (f:Int) (g:Int) (h:Int) (a:Int) (b:Int→Option ρ) (i:Int→Option ρ) (j:Unit→Option ρ):Option ρ :=
  ifb (ilt a e) (û d a fun c=>ifb (ieq c.1 f) (ifb (ile c.2.1.1 h) (ifb (ile g c.2.1.2) (i a) (ck (a+(1:Int)) fun k=>b k)) (ck (a+(1:Int)) fun l=>b l)) (ck (a+(1:Int)) fun m=>b m)) (j ())
def Η (d:Val aa) (e:Int) (f:Int) (g:Int) (h:Int) (a:Int) (b:Int→Option ρ) (i:Int→Option ρ) (j:Unit→Option ρ):Option ρ :=
  ifb (ilt a e) (û d a fun c=>ifb (ieq c.1 f) (Â (ď c.2 g h) fun k=>ifb k (i a) (ck (a+(1:Int)) fun l=>b l)) (ck (a+(1:Int)) fun m=>b m)) (j ())
def uA (b:Val Ä) (e:Val au) (c:Int) (k:Int→Option ρ):Option ρ :=
  û b.2.2.2.1 c fun a=>Â (Θ a.2.1 (0:Int) (20000:Int)) fun f=>ifb (!f) (k (1:Int)) (Â (ď a.2.2 (0:Int) (1048576:Int)) fun g=>ifb (!g) (k (1:Int)) (Â (iF e a.1 a.2.1.1) fun d=>ifb (ine d 0) (k d) (ç ((ile 0 c)&&(ile c (ą b.2.2.2.1))) (Í (fun(h:Int) i=>jB (List.take (Int.toNat c) b.2.2.2.1) (Ô (List.take (Int.toNat c) b.2.2.2.1)) a.1 a.2.1.1 a.2.1.2 h (fun j=>i j) (fun l=>ifb (ige l 0) (k (9:Int)) (Í (fun(m:Int) n=>Η b.2.2.1 (Ô b.2.2.1) a.1 a.2.1.1 a.2.1.2 m (fun o=>n o) (fun p=>ifb (ige p 0) (k (9:Int)) (k (0:Int))) (fun _=>k (0:Int))) (0:Int))) (fun _=>Í (fun(q:Int) r=>Η b.2.2.1 (Ô b.2.2.1) a.1 a.2.1.1 a.2.1.2 q (fun s=>r s) (fun t=>ifb (ige t 0) (k (9:Int)) (k (0:Int))) (fun _=>k (0:Int))) (0:Int))) (0:Int)))))
def Τ (a:Val Ä) (b:Val au) (c:Int):Option (Int):=uA a b c some
def Ī (d:Val ar) (e:Int) (b:Int) (a:Int) (f:Int→Int→Option ρ) (g:Int→Option ρ):Option ρ :=
  ifb (ilt a e) (û d a fun h=>ck (b+(Ô h)) fun c=>ifb (ilt c 0) (none) (ck (a+(1:Int)) fun i=>f c i)) (g b)
def î (d:Val ar) (e:Int) (a:Int) (b:Val ab) (f:Int→Val ab→Option ρ) (g:Val ab→Option ρ):Option ρ :=
  ifb (ilt a e) (û d a fun c=>ç (è ((List.length b)+(List.length c))) (ck (a+(1:Int)) fun h=>f h (b++c))) (g b)
def iM (a:Val ar) (k:Val ab→Option ρ):Option ρ :=
  Í (fun(c:Val Ã) g=>Ī a (Ô a) c.1 c.2 (fun h i=>g (h,i)) (fun d=>ifb (ilt d 0) (none) (ck (d-(0:Int)) fun b=>ifb (igt b 0) (ç ((ilt 0 b)&&(è (Int.toNat b))) (ç (ile 0 (ą (List.replicate (Int.toNat b) (0:Int)))) (Í (fun(e:Val az) j=>î a (Ô a) e.1 e.2 (fun l m=>j (l,m)) (fun n=>k n)) ((0:Int),(List.take 0 (List.replicate (Int.toNat b) (0:Int))))))) (Í (fun(f:Val az) o=>î a (Ô a) f.1 f.2 (fun p q=>o (p,q)) (fun r=>k r)) ((0:Int),[]))))) ((0:Int),(0:Int))
def ì (a:Val ar):Option ((Val ab)):=iM a some
def nv (e:Val ab) (f:Val ab) (g:Int) (a:Int) (b:Int→Option ρ) (c:Bool→Option ρ) (h:Unit→Option ρ):Option ρ :=
  ifb (ilt a g) (û f a fun d=>Â (ď d (1:Int) (1099511627776:Int)) fun i=>ifb (!i) (c false) (ifb (igt a 0) (ck (a-(1:Int)) fun j=>û e j fun k=>ifb (ile d k) (c false) (ck (a+(1:Int)) fun l=>b l)) (ck (a+(1:Int)) fun m=>b m))) (h ())
def Gw (a:Val ab) (k:Bool→Option ρ):Option ρ :=
  Í (fun(b:Int) c=>nv a a (Ô a) b (fun d=>c d) (fun e=>k e) (fun _=>k (ile (Ô a) 6))) (0:Int)
def lW (a:Val ab):Option (Bool):=Gw a some
def ut (c:Int) (d:Val ab) (b:Val ab) (a:Int) (e:Int→Option ρ) (f:Int→Option ρ) (g:Unit→Option ρ):Option ρ :=
  ifb (ilt a c) (ç ((ile 0 a)&&(ilt a (ą b))) (ĭ b (Int.toNat a) fun h=>Â (đ d h) fun i=>ifb i (f a) (ck (a+(1:Int)) fun j=>e j))) (g ())
def jO (f:Val ab) (b:Int) (c:Int) (a:Val ab) (d:Int→Int→Val ab→Option ρ) (g:Val az→Option ρ):Option ρ :=
  ifb (ilt c (Ô a)) (ç ((ile 0 c)&&(ilt c (ą a))) (ĭ a (Int.toNat c) fun e=>Â (đ f e) fun h=>ifb (!h) (ç ((ile 0 b)&&(ilt b (ą a))) (ĭ a (Int.toNat b) fun l=>ck (b+(1:Int)) fun i=>ck (c+(1:Int)) fun j=>d i j (List.set a (Int.toNat b) e))) (ck (c+(1:Int)) fun k=>d b k a))) (g (b,a))
def RK (b:Val ab) (e:Val ab) (k:Val ab→Option ρ):Option ρ :=
  ç (è (List.length b)) (Í (fun(f:Int) g=>ut (Ô b) e b f (fun h=>g h) (fun c=>ifb (ieq c (-1:Int)) (k b) (ck (c+(1:Int)) fun i=>Í (fun(d:(Val (.pair tI az))) j=>jO e d.1 d.2.1 d.2.2 (fun l m n=>j (l,m,n)) (fun a=>ç ((ile 0 a.1)&&(ile a.1 (ą a.2))) (ç ((ile 0 a.1)&&(ile a.1 (ą (List.take (Int.toNat a.1) a.2++List.replicate (List.length a.2-(Int.toNat a.1)) (0:Int)++List.drop ((Int.toNat a.1)+(List.length a.2-(Int.toNat a.1))) a.2)))) (k (List.take (Int.toNat a.1) (List.drop 0 (List.take (Int.toNat a.1) a.2++List.replicate (List.length a.2-(Int.toNat a.1)) (0:Int)++List.drop ((Int.toNat a.1)+(List.length a.2-(Int.toNat a.1))) a.2))))))) (c,i,b))) (fun _=>k b)) (0:Int))
def Ŧ (a:Val ab) (b:Val ab):Option ((Val ab)):=RK a b some
def uB (d:Val af) (e:Int) (f:Int) (g:Int) (a:Int) (c:Int→Option ρ) (h:Int→Option ρ) (i:Unit→Option ρ):Option ρ :=
  ifb (ilt a e) (û d a fun b=>ifb (ieq b.1 f) (Â (ď g b.2.1.1 b.2.1.2) fun j=>ifb j (h a) (ck (a+(1:Int)) fun k=>c k)) (ck (a+(1:Int)) fun l=>c l)) (i ())
def RT (a:Val Ä) (c:Int) (d:Int) (k:(Val (.pair Ł .bool))→Option ρ):Option ρ :=
  Í (fun(e:Int) f=>uB a.2.2.2.1 (Ô a.2.2.2.1) c d e (fun g=>f g) (fun b=>ifb (ilt b 0) (k (((0:Int),((0:Int),(0:Int)),(0:Int)),false)) (û a.2.2.2.1 b fun h=>k (h,true))) (fun _=>k (((0:Int),((0:Int),(0:Int)),(0:Int)),false))) (0:Int)
def yB (a:Val Ä) (b:Int) (c:Int):Option ((Val (.pair Ł .bool))):=RT a b c some
def ik (b:Val ac) (c:Int) (d:Int) (a:Int) (e:Int→Option ρ) (f:Int→Option ρ) (g:Unit→Option ρ):Option ρ :=
  ifb (ilt a c) (û b a fun h=>ifb (ieq h.1 d) (f a) (ck (a+(1:Int)) fun i=>e i)) (g ())
def ij (c:Val au) (b:Int) (d:Val ab) (e:Int) (f:Int) (a:Int) (g:Int→Option ρ) (h:Int→Option ρ) (i:Unit→Option ρ):Option ρ :=
  ifb (ilt a e) (û d a fun j=>Â (iF c j f) fun k=>ifb (ieq k b) (h b) (ck (a+(1:Int)) fun l=>g l)) (i ())
def ň (d:Val au) (b:Val ab) (e:Int) (f:Int) (c:Val ab) (a:Int) (g:Int→Option ρ) (h:Int→Option ρ) (i:Unit→Option ρ):Option ρ :=
  ifb (ilt a e) (ç ((ile 0 a)&&(ilt a (ą c))) (ĭ c (Int.toNat a) fun j=>Í (fun(k:Int) l=>ij d j b (Ô b) f k (fun m=>l m) (fun n=>h n) (fun _=>ck (a+(1:Int)) fun o=>g o)) (0:Int))) (i ())
def Ň (b:Val ab) (c:Int) (d:Int) (e:Int) (f:Val ae) (g:Val aa) (h:Val af) (i:Val ac) (j:Val aa) (k:Int) (a:Int) (l:Int→Option ρ) (m:Int→Option ρ) (n:Unit→Option ρ):Option ρ :=
  ifb (ilt a c) (û b a fun o=>Â (yB ((d,e),f,g,h,i,j) o k) fun p=>ifb p.2 (m (9:Int)) (ck (a+(1:Int)) fun q=>l q)) (n ())
def mZ (b:Val Ä) (f:Val au) (c:Int) (k:Int→Option ρ):Option ρ :=
  û b.2.2.2.2.1 c fun a=>Â (ď a.1 (1:Int) (1099511627776:Int)) fun l=>ifb (!l) (k (1:Int)) (Â (mO a.2.1) fun m=>ifb (!m) (k (1:Int)) (Â (ď a.2.2.2.2.1 (-1125899906842624:Int) (1125899906842624:Int)) fun n=>ifb (!n) (k (1:Int)) (Â (ď a.2.2.2.2.2.1 (0:Int) (1073741824:Int)) fun o=>ifb (!o) (k (1:Int)) (Â (Θ a.2.2.2.2.2.2 (-10000:Int) (10000:Int)) fun p=>ifb (!p) (k (1:Int)) (Â (lW a.2.2.1) fun q=>ifb (!q) (k (1:Int)) (Â (lW a.2.2.2.1) fun r=>ifb (!r) (k (1:Int)) (ç ((ile 0 c)&&(ile c (ą b.2.2.2.2.1))) (Í (fun(s:Int) t=>ik (List.take (Int.toNat c) b.2.2.2.2.1) (Ô (List.take (Int.toNat c) b.2.2.2.2.1)) a.1 s (fun u=>t u) (fun v=>ifb (ige v 0) (k (6:Int)) (Â (ì ([a.2.2.1,a.2.2.2.1])) fun d=>Í (fun(w:Int) x=>ň f d (Ô ([(5:Int),(4:Int)])) a.2.1 ([(5:Int),(4:Int)]) w (fun y=>x y) (fun z=>k z) (fun _=>Í (fun(A:Int) B=>Ň d (Ô d) b.1.1 b.1.2 b.2.1 b.2.2.1 b.2.2.2.1 b.2.2.2.2.1 b.2.2.2.2.2 a.2.1 A (fun C=>B C) (fun D=>k D) (fun _=>Â (Ŧ a.2.2.1 a.2.2.2.1) fun g=>Â (Ŧ a.2.2.2.1 a.2.2.1) fun h=>ifb (igt (Ô g) 1) (k (1:Int)) (ifb (igt (Ô h) 1) (k (1:Int)) (ck ((Ô g)+(Ô h)) fun E=>ifb (ieq E 0) (k (1:Int)) (k (0:Int)))))) (0:Int))) (0:Int))) (fun _=>Â (ì ([a.2.2.1,a.2.2.2.1])) fun e=>Í (fun(F:Int) G=>ň f e (Ô ([(5:Int),(4:Int)])) a.2.1 ([(5:Int),(4:Int)]) F (fun H=>G H) (fun I=>k I) (fun _=>Í (fun(J:Int) K=>Ň e (Ô e) b.1.1 b.1.2 b.2.1 b.2.2.1 b.2.2.2.1 b.2.2.2.2.1 b.2.2.2.2.2 a.2.1 J (fun L=>K L) (fun M=>k M) (fun _=>Â (Ŧ a.2.2.1 a.2.2.2.1) fun i=>Â (Ŧ a.2.2.2.1 a.2.2.1) fun j=>ifb (igt (Ô i) 1) (k (1:Int)) (ifb (igt (Ô j) 1) (k (1:Int)) (ck ((Ô i)+(Ô j)) fun N=>ifb (ieq N 0) (k (1:Int)) (k (0:Int)))))) (0:Int))) (0:Int))) (0:Int)))))))))
def Ļ (a:Val Ä) (b:Val au) (c:Int):Option (Int):=mZ a b c some
def mK (b:Val Ä) (s:Val au):Option (List Int) :=
  Â (KN (fun u=>ĸ u.1 u.2 s) (b.2.2.1:List (Int×Int))) fun a=>Â (KN (fun i=>Τ b s i) (vY (b.2.2.2.1:List (Val Ł)).length)) fun c =>
    Â (KN (fun i=>Ļ b s i) (vY (b.2.2.2.2.1:List (Val Î)).length)) fun d=>Â (KN (fun u=>ĸ u.1 u.2 s) (b.2.2.2.2.2:List (Int×Int))) fun e=>some (a++(c++(d++e)))
def Mc (a:Val Ä) (k:Int→Option ρ):Option ρ :=
  Â (Θ a.1 (0:Int) (1000000:Int)) fun d=>ifb (!d) (k (1:Int)) (ifb (igt (Ô a.2.1) 12) (k (2:Int)) (ifb (igt (Ô a.2.2.1) 40) (k (2:Int)) (ifb (igt (Ô a.2.2.2.1) 12) (k (2:Int)) (ifb (igt (Ô a.2.2.2.2.1) 40) (k (2:Int)) (ifb (igt (Ô a.2.2.2.2.2) 10) (k (2:Int)) (Â (ŵ a) fun b=>ifb (ine b 0) (k b) (Â (θ a) fun e=>TE (mK a e) (fun f=>k f) (Â (pf a) fun c=>ifb (igt (Ô c) 59) (k (2:Int)) (ck ((2:Int)*(Ô a.2.1)) fun g=>ck ((Ô c)-(Ô a.2.1)) fun h=>ck ((2:Int)*h) fun i=>ck (g+i) fun j=>ck ((2:Int)*(Ô a.2.2.2.2.1)) fun l=>ck (j+l) fun m=>ifb (igt m 300) (k (2:Int)) (k (0:Int)))))))))))
def ñ (a:Val Ä):Option (Int):=Mc a some
def yr (l:List (Val Ï)) (m:List (Int×Bool)):Option (List (Val Ï)) :=
  ç (è l.length) (some (l.filter fun g=>(rI (k:=tI) (v:=.bool) g.1 m).getD false))
def si (c:Val ab) (d:Int) (a:Int) (b:Val ao) (e:Int→Val ao→Option ρ) (f:Val ao→Option ρ):Option ρ :=
  ifb (ilt a d) (û c a fun g=>ck (a+(1:Int)) fun h=>e h (JJ (k:=tI) (v:=.bool) g true b)) (f b)
def yi (j:Val aa) (l:Int) (f:Val ae) (g:Val ac) (b:Int) (c:Val ao) (d:Val ao) (e:Int→Val ao→Val ao→Option ρ) (m:(Val (.pair ao ao))→Option ρ):Option ρ :=
  ifb (ilt b l) (û j b fun a=>ifb (ĩ a.1 0) (none) (ifb (ĩ a.1 1) (û f a.2 fun n=>ck (b+(1:Int)) fun o=>e o (JJ (k:=tI) (v:=.bool) n.1 true c) d) (ifb (ĩ a.1 2) (û f a.2 fun p=>ck (b+(1:Int)) fun q=>e q (JJ (k:=tI) (v:=.bool) p.1 true c) d) (ç (ĩ a.1 3) (û g a.2 fun r=>û g a.2 fun s=>Â (ì ([r.2.2.1,s.2.2.2.1])) fun h=>Í (fun(i:(Val (.pair tI ao))) t=>si h (Ô h) i.1 i.2 (fun u w=>t (u,w)) (fun x=>ck (b+(1:Int)) fun y=>e y x (JJ (k:=tI) (v:=.bool) a.2 true d))) ((0:Int),c)))))) (m (c,d))
def sh (c:Val aa) (d:Int) (a:Int) (b:Val ao) (e:Int→Val ao→Option ρ) (f:Val ao→Option ρ):Option ρ :=
  ifb (ilt a d) (û c a fun g=>ck (a+(1:Int)) fun h=>e h (JJ (k:=tI) (v:=.bool) g.1 true b)) (f b)
def sg (e:Val aa) (f:Int) (g:Val ao) (a:Int) (b:Val aa) (c:Int→Val aa→Option ρ) (h:Val aa→Option ρ):Option ρ :=
  ifb (ilt a f) (û e a fun d=>S6 (k:=tI) (v:=.bool) d.1 g (fun i=>ifb i (ç (è ((List.length b)+(List.length ([d])))) (ck (a+(1:Int)) fun j=>c j (b++([d])))) (ck (a+(1:Int)) fun l=>c l b)) (ck (a+(1:Int)) fun m=>c m b)) (h b)
def sf (e:Val af) (f:Int) (g:Val ao) (a:Int) (b:Val af) (c:Int→Val af→Option ρ) (h:Val af→Option ρ):Option ρ :=
  ifb (ilt a f) (û e a fun d=>S6 (k:=tI) (v:=.bool) d.1 g (fun i=>ifb i (ç (è ((List.length b)+(List.length ([d])))) (ck (a+(1:Int)) fun j=>c j (b++([d])))) (ck (a+(1:Int)) fun l=>c l b)) (ck (a+(1:Int)) fun m=>c m b)) (h b)
def se (e:Val ac) (f:Int) (g:Val ao) (a:Int) (b:Val ac) (d:Int→Val ac→Option ρ) (h:Val ac→Option ρ):Option ρ :=
  ifb (ilt a f) (û e a fun c=>S6 (k:=tI) (v:=.bool) a g (fun i=>ifb i (ç (è (List.length c.2.2.1)) (ç (è (List.length c.2.2.2.1)) (ç (è ((List.length b)+(List.length ([c])))) (ck (a+(1:Int)) fun j=>d j (b++([c])))))) (ck (a+(1:Int)) fun l=>d l b)) (ck (a+(1:Int)) fun m=>d m b)) (h b)
def mw (p:Val aU) (v:Val ah) (k:Val Ä→Option ρ):Option ρ :=
  Í (fun(a:Val aD) d=>sg v.2.2.2.1 (Ô v.2.2.2.1) v.2.2.2.2.2.2.2.2.2.2.2.2.2.2.2.2.2.2.2.2.2.1 a.1 a.2 (fun e f=>d (e,f)) (fun g=>Í (fun(b:(Val (.pair tI af))) h=>sf v.2.2.2.2.1 (Ô v.2.2.2.2.1) v.2.2.2.2.2.2.2.2.2.2.2.2.2.2.2.2.2.2.2.2.2.1 b.1 b.2 (fun i j=>h (i,j)) (fun l=>Í (fun(c:(Val (.pair tI ac))) m=>se v.2.2.2.2.2.1 (Ô v.2.2.2.2.2.1) v.2.2.2.2.2.2.2.2.2.2.2.2.2.2.2.2.2.2.2.2.2.2.1 c.1 c.2 (fun n o=>m (n,o)) (fun q=>k ((p.1,p.2.1),v.2.2.2.2.2.2.2.2.2.2.2.2.2.2.2.2.2.2.2.2.2.2.2,g,l,q,p.2.2))) ((0:Int),[]))) ((0:Int),[]))) ((0:Int),[])
def Dv (a:Val Ä) (d:Val aa) (b:Val aa) (kA:Val aU→Val ah→Option ρ):Option ρ :=
  Í (fun(c:(Val (.pair tI (.pair ao ao)))) g=>yi d (Ô d) a.2.1 a.2.2.2.2.1 c.1 c.2.1 c.2.2 (fun h i j=>g (h,i,j)) (fun e=>Í (fun(f:(Val (.pair tI ao))) k=>sh b (Ô b) f.1 f.2 (fun l m=>k (l,m)) (fun n=>kA (a.1.1,a.1.2,b) (a.1.1,a.1.2,a.2.1,a.2.2.1,a.2.2.2.1,a.2.2.2.2.1,a.2.2.2.2.2,(0:Int),(0:Int),[],[],[],[],[],a.1.1,a.1.2,a.2.1,a.2.2.1,a.2.2.2.1,a.2.2.2.2.1,a.2.2.2.2.2,n,e.2,[]))) ((0:Int),e.1))) ((0:Int),[],[])
def ab5 (a:Val Ä) (b:Val aa) (c:Val aa) (k:Val Ä→Option ρ):Option ρ :=
  Dv a b c fun p v=>Â (yr v.2.2.2.2.2.2.2.2.2.2.2.2.2.2.2.2.1 v.2.2.2.2.2.2.2.2.2.2.2.2.2.2.2.2.2.2.2.2.2.1) fun z=>mw p (v.1,v.2.1,v.2.2.1,v.2.2.2.1,v.2.2.2.2.1,v.2.2.2.2.2.1,v.2.2.2.2.2.2.1,v.2.2.2.2.2.2.2.1,v.2.2.2.2.2.2.2.2.1,v.2.2.2.2.2.2.2.2.2.1,v.2.2.2.2.2.2.2.2.2.2.1,v.2.2.2.2.2.2.2.2.2.2.2.1,v.2.2.2.2.2.2.2.2.2.2.2.2.1,v.2.2.2.2.2.2.2.2.2.2.2.2.2.1,v.2.2.2.2.2.2.2.2.2.2.2.2.2.2.1,v.2.2.2.2.2.2.2.2.2.2.2.2.2.2.2.1,v.2.2.2.2.2.2.2.2.2.2.2.2.2.2.2.2.1,v.2.2.2.2.2.2.2.2.2.2.2.2.2.2.2.2.2.1,v.2.2.2.2.2.2.2.2.2.2.2.2.2.2.2.2.2.2.1,v.2.2.2.2.2.2.2.2.2.2.2.2.2.2.2.2.2.2.2.1,v.2.2.2.2.2.2.2.2.2.2.2.2.2.2.2.2.2.2.2.2.1,v.2.2.2.2.2.2.2.2.2.2.2.2.2.2.2.2.2.2.2.2.2.1,v.2.2.2.2.2.2.2.2.2.2.2.2.2.2.2.2.2.2.2.2.2.2.1,z) k
def MA (a:Val Ä) (b:Val aa) (c:Val aa):Option (Val Ä):=ab5 a b c some
def FT (a:Val Î) (k:Bool→Option ρ):Option ρ :=
  ifb (ile (Ô a.2.2.1) 10) (k (ile (Ô a.2.2.2.1) 10)) (k false)
def yw (a:Val Î):Option (Bool):=FT a some
def tB (b:Val ac) (a:Int) (d:Int→Option ρ) (e:Bool→Option ρ) (c:Unit→Option ρ):Option ρ :=
  ifb (ilt a (Ô b)) (ifb (ilt a 50) (û b a fun f=>Â (yw f) fun g=>ifb (!g) (e false) (ck (a+(1:Int)) fun h=>d h)) (c ())) (c ())
def QV (a:Val Ä) (k:Bool→Option ρ):Option ρ :=
  Í (fun(b:Int) c=>tB a.2.2.2.2.1 b (fun d=>c d) (fun e=>k e) (fun _=>ifb (ile (Ô a.2.1) 14) (ifb (ile (Ô a.2.2.1) 45) (ifb (ile (Ô a.2.2.2.1) 14) (ifb (ile (Ô a.2.2.2.2.1) 42) (k (ile (Ô a.2.2.2.2.2) 12)) (k false)) (k false)) (k false)) (k false))) (0:Int)
def JU (a:Val Ä):Option (Bool):=QV a some
def Ģ (c:Val aa) (d:Int) (e:Int) (f:Int) (a:Int) (g:Int→Option ρ) (h:Int→Option ρ) (i:Unit→Option ρ):Option ρ :=
  ifb (ilt a d) (û c a fun b=>ifb ((ĩ e b.1)&&((ĩ f b.2)&&true)) (h a) (ck (a+(1:Int)) fun j=>g j)) (i ())
def ű (a:Val aa) (b:Val Ã) (k:Int→Option ρ):Option ρ :=
  Í (fun(c:Int) d=>Ģ a (Ô a) b.1 b.2 c (fun e=>d e) (fun f=>k f) (fun _=>k (-1:Int))) (0:Int)
def ö (a:Val aa) (b:Val Ã):Option (Int):=ű a b some
def Mb (a:Val Ä) (d:Val Ã) (k:Val Ã→Option ρ):Option ρ :=
  Â (ñ a) fun b=>ifb (ine b 0) (k ((0:Int),b)) (Â (pf a) fun e=>Â (ö e d) fun c=>ifb (ilt c 0) (k ((0:Int),(5:Int))) (ck (c+(1:Int)) fun f=>k (f,(0:Int))))
def ĝ (a:Val Ä) (b:Val Ã):Option (Val Ã):=Mb a b some
def Bt (a:Val ak) (b:Val Ã) (k:Int→Option ρ):Option ρ :=
  Â (ĝ a.1 b) fun c=>k c.1
def š (a:Val ak) (b:Val Ã):Option (Int):=Bt a b some
def Ri (b:Val Ð) (a:Int) (k:Bool→Option ρ):Option ρ :=
  ifb (ige a 0) (k (ilt a b.1)) (k false)
def qD (a:Val Ð) (b:Int):Option (Bool):=Ri a b some
def qi (f:Val ai) (g:Int) (d:Int) (e:Val ai) (a:Int) (h:Int→Option ρ) (c:Val Ã→Option ρ) (i:Unit→Option ρ):Option ρ :=
  ifb (ilt a g) (û f a fun b=>Â (qD (d,e) b.1) fun j=>ifb (!j) (c ((1:Int),a)) (Â (qD (d,e) b.2.1) fun k=>ifb (!k) (c ((1:Int),a)) (ifb (ieq b.1 b.2.1) (c ((1:Int),a)) (ifb (ilt b.2.2 (-4503599627370496:Int)) (c ((1:Int),a)) (ifb (igt b.2.2 4503599627370496) (c ((1:Int),a)) (ck (a+(1:Int)) fun l=>h l)))))) (i ())
def Lu (a:Val Ð) (k:Val Ã→Option ρ):Option ρ :=
  ifb (ilt a.1 1) (k ((1:Int),(-1:Int))) (ifb (igt a.1 60) (k ((1:Int),(-1:Int))) (ifb (igt (Ô a.2) 300) (k ((2:Int),(-1:Int))) (Í (fun(c:Int) d=>qi a.2 (Ô a.2) a.1 a.2 c (fun e=>d e) (fun b=>k (b.1,b.2)) (fun _=>k ((0:Int),(-1:Int)))) (0:Int))))
def kP (a:Val Ð):Option (Val Ã):=Lu a some
def gQ (c:Val ai) (d:Int) (b:Int) (a:Int) (e:Int→Int→Option ρ) (f:Int→Option ρ):Option ρ :=
  ifb (ilt a d) (û c a fun g=>ck (b+(Cb g.2.2 (0:Int))) fun h=>ck (a+(1:Int)) fun i=>e h i) (f b)
def Œ (f:Int) (d:Val ab) (a:Int) (b:Val am) (c:Val ab) (e:Int→Val am→Val ab→Option ρ) (g:Val aP→Option ρ):Option ρ :=
  ifb (ilt a f) (ç ((ile 0 a)&&(ilt a (ą d))) (ĭ d (Int.toNat a) fun h=>ifb (ine h 1152921504606846976) (ç (è ((List.length c)+(List.length ([a])))) (ç ((ile 0 a)&&(ilt a (ą b))) (ĭ b (Int.toNat a) fun k=>ck (a+(1:Int)) fun i=>e i (List.set b (Int.toNat a) true) (c++([a]))))) (ck (a+(1:Int)) fun j=>e j b c))) (g (b,c))
def iV (m:Val ao) (j:Int) (d:Int) (n:Val ai) (o:Int) (f:Int) (b:Val ab) (c:Val am) (e:Val ab) (g:Int→Val ab→Val am→Val ab→Option ρ) (l:(Val (.pair .bool (.pair ab aP)))→Option ρ) (p:(Val (.pair ab aP))→Option ρ):Option ρ :=
  ifb (ilt f o) (û n f fun a=>ifb (ine a.1 d) (ck (f+(1:Int)) fun q=>g q b c e) (S6 (k:=tI) (v:=.bool) f m (fun r=>ifb r (ck (f+(1:Int)) fun s=>g s b c e) (ç ((ile 0 d)&&(ilt d (ą b))) (ĭ b (Int.toNat d) fun t=>ck (t+a.2.2) fun u=>ç ((ile 0 a.2.1)&&(ilt a.2.1 (ą b))) (ĭ b (Int.toNat a.2.1) fun w=>ifb (ige u w) (ck (f+(1:Int)) fun x=>g x b c e) (ç ((ile 0 d)&&(ilt d (ą b))) (ĭ b (Int.toNat d) fun y=>ck (y+a.2.2) fun h=>ç ((ile 0 a.2.1)&&(ilt a.2.1 (ą b))) (ĭ b (Int.toNat a.2.1) fun M=>ç ((ile 0 a.2.1)&&(ilt a.2.1 (ą (List.set b (Int.toNat a.2.1) h)))) (ĭ (List.set b (Int.toNat a.2.1) h) (Int.toNat a.2.1) fun z=>ifb (ilt z j) (l (false,(List.set b (Int.toNat a.2.1) h),c,e)) (ç ((ile 0 a.2.1)&&(ilt a.2.1 (ą c))) (ĭ c (Int.toNat a.2.1) fun A=>ifb (!A) (ç (è ((List.length e)+(List.length ([a.2.1])))) (ç ((ile 0 a.2.1)&&(ilt a.2.1 (ą c))) (ĭ c (Int.toNat a.2.1) fun N=>ck (f+(1:Int)) fun B=>g B (List.set b (Int.toNat a.2.1) h) (List.set c (Int.toNat a.2.1) true) (e++([a.2.1]))))) (ck (f+(1:Int)) fun C=>g C (List.set b (Int.toNat a.2.1) h) c e))))))))))) (ç ((ile 0 d)&&(ilt d (ą b))) (ĭ b (Int.toNat d) fun D=>ck (D+a.2.2) fun E=>ç ((ile 0 a.2.1)&&(ilt a.2.1 (ą b))) (ĭ b (Int.toNat a.2.1) fun F=>ifb (ige E F) (ck (f+(1:Int)) fun G=>g G b c e) (ç ((ile 0 d)&&(ilt d (ą b))) (ĭ b (Int.toNat d) fun H=>ck (H+a.2.2) fun i=>ç ((ile 0 a.2.1)&&(ilt a.2.1 (ą b))) (ĭ b (Int.toNat a.2.1) fun O=>ç ((ile 0 a.2.1)&&(ilt a.2.1 (ą (List.set b (Int.toNat a.2.1) i)))) (ĭ (List.set b (Int.toNat a.2.1) i) (Int.toNat a.2.1) fun I=>ifb (ilt I j) (l (false,(List.set b (Int.toNat a.2.1) i),c,e)) (ç ((ile 0 a.2.1)&&(ilt a.2.1 (ą c))) (ĭ c (Int.toNat a.2.1) fun J=>ifb (!J) (ç (è ((List.length e)+(List.length ([a.2.1])))) (ç ((ile 0 a.2.1)&&(ilt a.2.1 (ą c))) (ĭ c (Int.toNat a.2.1) fun P=>ck (f+(1:Int)) fun K=>g K (List.set b (Int.toNat a.2.1) i) (List.set c (Int.toNat a.2.1) true) (e++([a.2.1]))))) (ck (f+(1:Int)) fun L=>g L (List.set b (Int.toNat a.2.1) i) c e)))))))))))) (p (b,c,e))
def Ħ (l:Val ao) (m:Int) (n:Int) (k:Val ai) (h:Val ab) (d:Val am) (b:Val ab) (c:Val ab) (o:Val ab→Val am→Val ab→Val ab→Option ρ) (i:(Val (.pair .bool aQ))→Option ρ):Option ρ :=
  ifb (ieq (Ô c) 0) (i (true,h,d,b,c)) (ç (ilt 0 (ą c)) (ĭ c 0 fun a=>ç (ile 1 (ą c)) (ç (decide (1+(List.length c-1)=List.length c)) (ç ((ile 0 a)&&(ilt a (ą d))) (ĭ d (Int.toNat a) fun x=>ç ((ile 0 a)&&(ilt a (ą b))) (ĭ b (Int.toNat a) fun p=>ck (p+(1:Int)) fun e=>ç ((ile 0 a)&&(ilt a (ą b))) (ĭ b (Int.toNat a) fun y=>ç ((ile 0 a)&&(ilt a (ą (List.set b (Int.toNat a) e)))) (ĭ (List.set b (Int.toNat a) e) (Int.toNat a) fun q=>ck (n+(1:Int)) fun r=>ifb (igt q r) (i (false,h,(List.set d (Int.toNat a) false),(List.set b (Int.toNat a) e),(List.drop 1 c))) (Í (fun(f:(Val (.pair tI (.pair ab aP)))) s=>iV l m a k (Ô k) f.1 f.2.1 f.2.2.1 f.2.2.2 (fun t u v w=>s (t,u,v,w)) (fun g=>i (g.1,g.2.1,g.2.2.1,(List.set b (Int.toNat a) e),g.2.2.2)) (fun j=>o j.1 j.2.1 (List.set b (Int.toNat a) e) j.2.2)) ((0:Int),h,(List.set d (Int.toNat a) false),(List.drop 1 c)))))))))))
def iU (c:Int) (d:Int) (a:Int) (b:Val ab) (e:Int→Val ab→Option ρ) (f:Val ab→Option ρ):Option ρ :=
  ifb (ilt a d) (ç ((ile 0 a)&&(ilt a (ą b))) (ĭ b (Int.toNat a) fun g=>ck (g-c) fun h=>ç ((ile 0 a)&&(ilt a (ą b))) (ĭ b (Int.toNat a) fun j=>ck (a+(1:Int)) fun i=>e i (List.set b (Int.toNat a) h)))) (f b)
def xa (a:Val Ð) (h:Val ao) (k:Val bg→Option ρ):Option ρ :=
  ç ((ile 0 a.1)&&(è (Int.toNat a.1))) (ç ((ile 0 a.1)&&(è (Int.toNat a.1))) (ç ((ile 0 a.1)&&(è (Int.toNat a.1))) (Í (fun(e:Val Ã) i=>gQ a.2 (Ô a.2) e.1 e.2 (fun j l=>i (j,l)) (fun m=>Í (fun(d:(Val (.pair tI aP))) n=>Œ a.1 (List.replicate (Int.toNat a.1) (0:Int)) d.1 d.2.1 d.2.2 (fun o p q=>n (o,p,q)) (fun f=>Í (fun(c:Val aQ) r=>Ħ h m a.1 a.2 c.1 c.2.1 c.2.2.1 c.2.2.2 (fun s t u v=>r (s,t,u,v)) (fun b=>ifb (!b.1) (k ([],false)) (ç (ilt 0 (ą b.2.1)) (ĭ b.2.1 0 fun w=>Í (fun(g:Val az) x=>iU w (Ô b.2.1) g.1 g.2 (fun y z=>x (y,z)) (fun A=>k (A,true))) ((0:Int),b.2.1))))) ((List.replicate (Int.toNat a.1) (0:Int)),f.1,(List.replicate (Int.toNat a.1) (0:Int)),f.2))) ((0:Int),(List.replicate (Int.toNat a.1) false),[]))) ((0:Int),(0:Int)))))
def j9 (a:Val Ð) (b:Val ao):Option ((Val bg)):=xa a b some
def qf (b:Val ab) (c:Int) (d:Int) (e:Val ai) (a:Int) (f:Int→Option ρ) (g:Int→Option ρ) (h:Unit→Option ρ):Option ρ :=
  ifb (ilt a c) (û b a fun i=>Â (qD (d,e) i) fun j=>ifb (!j) (g (1:Int)) (ck (a+(1:Int)) fun k=>f k)) (h ())
def Ll (a:Val Ð) (b:Val ab) (k:Int→Option ρ):Option ρ :=
  Â (kP a) fun c=>ifb (ine c.1 0) (k c.1) (Í (fun(d:Int) e=>qf b (Ô b) a.1 a.2 d (fun f=>e f) (fun g=>k g) (fun _=>Â (j9 a ([])) fun h=>ifb (!h.2) (k (9:Int)) (k (0:Int)))) (0:Int))
def E8 (a:Val Ð) (b:Val ab):Option (Int):=Ll a b some
def nu (c:Int) (a:Int) (b:Val ab) (d:Int→Val ab→Option ρ) (e:Val ab→Option ρ):Option ρ :=
  ifb (ilt a c) (ç ((ile 0 a)&&(ilt a (ą b))) (ĭ b (Int.toNat a) fun g=>ck (a+(1:Int)) fun f=>d f (List.set b (Int.toNat a) (1152921504606846976:Int)))) (e b)
def tZ (c:Val ai) (d:Int) (b:Int) (a:Int) (e:Int→Int→Option ρ) (f:Int→Option ρ):Option ρ :=
  ifb (ilt a d) (û c a fun g=>ck (b+(Cb g.2.2 (0:Int))) fun h=>ck (a+(1:Int)) fun i=>e h i) (f b)
def tY (f:Int) (d:Val ab) (a:Int) (b:Val am) (c:Val ab) (e:Int→Val am→Val ab→Option ρ) (g:Val aP→Option ρ):Option ρ :=
  ifb (ilt a f) (ç ((ile 0 a)&&(ilt a (ą d))) (ĭ d (Int.toNat a) fun h=>ifb (ine h 1152921504606846976) (ç (è ((List.length c)+(List.length ([a])))) (ç ((ile 0 a)&&(ilt a (ą b))) (ĭ b (Int.toNat a) fun k=>ck (a+(1:Int)) fun i=>e i (List.set b (Int.toNat a) true) (c++([a]))))) (ck (a+(1:Int)) fun j=>e j b c))) (g (b,c))
def DR (m:Val ao) (j:Int) (d:Int) (n:Val ai) (o:Int) (f:Int) (b:Val ab) (c:Val am) (e:Val ab) (g:Int→Val ab→Val am→Val ab→Option ρ) (l:(Val (.pair .bool (.pair ab aP)))→Option ρ) (p:(Val (.pair ab aP))→Option ρ):Option ρ :=
  ifb (ilt f o) (û n f fun a=>ifb (ine a.1 d) (ck (f+(1:Int)) fun q=>g q b c e) (S6 (k:=tI) (v:=.bool) f m (fun r=>ifb r (ck (f+(1:Int)) fun s=>g s b c e) (ç ((ile 0 d)&&(ilt d (ą b))) (ĭ b (Int.toNat d) fun t=>ck (t+a.2.2) fun u=>ç ((ile 0 a.2.1)&&(ilt a.2.1 (ą b))) (ĭ b (Int.toNat a.2.1) fun w=>ifb (ige u w) (ck (f+(1:Int)) fun x=>g x b c e) (ç ((ile 0 d)&&(ilt d (ą b))) (ĭ b (Int.toNat d) fun y=>ck (y+a.2.2) fun h=>ç ((ile 0 a.2.1)&&(ilt a.2.1 (ą b))) (ĭ b (Int.toNat a.2.1) fun M=>ç ((ile 0 a.2.1)&&(ilt a.2.1 (ą (List.set b (Int.toNat a.2.1) h)))) (ĭ (List.set b (Int.toNat a.2.1) h) (Int.toNat a.2.1) fun z=>ifb (ilt z j) (l (false,(List.set b (Int.toNat a.2.1) h),c,e)) (ç ((ile 0 a.2.1)&&(ilt a.2.1 (ą c))) (ĭ c (Int.toNat a.2.1) fun A=>ifb (!A) (ç (è ((List.length e)+(List.length ([a.2.1])))) (ç ((ile 0 a.2.1)&&(ilt a.2.1 (ą c))) (ĭ c (Int.toNat a.2.1) fun N=>ck (f+(1:Int)) fun B=>g B (List.set b (Int.toNat a.2.1) h) (List.set c (Int.toNat a.2.1) true) (e++([a.2.1]))))) (ck (f+(1:Int)) fun C=>g C (List.set b (Int.toNat a.2.1) h) c e))))))))))) (ç ((ile 0 d)&&(ilt d (ą b))) (ĭ b (Int.toNat d) fun D=>ck (D+a.2.2) fun E=>ç ((ile 0 a.2.1)&&(ilt a.2.1 (ą b))) (ĭ b (Int.toNat a.2.1) fun F=>ifb (ige E F) (ck (f+(1:Int)) fun G=>g G b c e) (ç ((ile 0 d)&&(ilt d (ą b))) (ĭ b (Int.toNat d) fun H=>ck (H+a.2.2) fun i=>ç ((ile 0 a.2.1)&&(ilt a.2.1 (ą b))) (ĭ b (Int.toNat a.2.1) fun O=>ç ((ile 0 a.2.1)&&(ilt a.2.1 (ą (List.set b (Int.toNat a.2.1) i)))) (ĭ (List.set b (Int.toNat a.2.1) i) (Int.toNat a.2.1) fun I=>ifb (ilt I j) (l (false,(List.set b (Int.toNat a.2.1) i),c,e)) (ç ((ile 0 a.2.1)&&(ilt a.2.1 (ą c))) (ĭ c (Int.toNat a.2.1) fun J=>ifb (!J) (ç (è ((List.length e)+(List.length ([a.2.1])))) (ç ((ile 0 a.2.1)&&(ilt a.2.1 (ą c))) (ĭ c (Int.toNat a.2.1) fun P=>ck (f+(1:Int)) fun K=>g K (List.set b (Int.toNat a.2.1) i) (List.set c (Int.toNat a.2.1) true) (e++([a.2.1]))))) (ck (f+(1:Int)) fun L=>g L (List.set b (Int.toNat a.2.1) i) c e)))))))))))) (p (b,c,e))
def tX (l:Val ao) (m:Int) (n:Int) (k:Val ai) (h:Val ab) (d:Val am) (b:Val ab) (c:Val ab) (o:Val ab→Val am→Val ab→Val ab→Option ρ) (i:(Val (.pair .bool aQ))→Option ρ):Option ρ :=
  ifb (ieq (Ô c) 0) (i (true,h,d,b,c)) (ç (ilt 0 (ą c)) (ĭ c 0 fun a=>ç (ile 1 (ą c)) (ç (decide (1+(List.length c-1)=List.length c)) (ç ((ile 0 a)&&(ilt a (ą d))) (ĭ d (Int.toNat a) fun x=>ç ((ile 0 a)&&(ilt a (ą b))) (ĭ b (Int.toNat a) fun p=>ck (p+(1:Int)) fun e=>ç ((ile 0 a)&&(ilt a (ą b))) (ĭ b (Int.toNat a) fun y=>ç ((ile 0 a)&&(ilt a (ą (List.set b (Int.toNat a) e)))) (ĭ (List.set b (Int.toNat a) e) (Int.toNat a) fun q=>ck (n+(1:Int)) fun r=>ifb (igt q r) (i (false,h,(List.set d (Int.toNat a) false),(List.set b (Int.toNat a) e),(List.drop 1 c))) (Í (fun(f:(Val (.pair tI (.pair ab aP)))) s=>DR l m a k (Ô k) f.1 f.2.1 f.2.2.1 f.2.2.2 (fun t u v w=>s (t,u,v,w)) (fun g=>i (g.1,g.2.1,g.2.2.1,(List.set b (Int.toNat a) e),g.2.2.2)) (fun j=>o j.1 j.2.1 (List.set b (Int.toNat a) e) j.2.2)) ((0:Int),h,(List.set d (Int.toNat a) false),(List.drop 1 c)))))))))))
def Gk (a:Val Ð) (i:Val ao) (b:Int) (k:Val ab→Option ρ):Option ρ :=
  ç ((ile 0 a.1)&&(è (Int.toNat a.1))) (Í (fun(f:Val az) j=>nu (Ô (List.replicate (Int.toNat a.1) (0:Int))) f.1 f.2 (fun l m=>j (l,m)) (fun c=>ç ((ile 0 b)&&(ilt b (ą c))) (ĭ c (Int.toNat b) fun B=>ç ((ile 0 a.1)&&(è (Int.toNat a.1))) (ç ((ile 0 a.1)&&(è (Int.toNat a.1))) (Í (fun(g:Val Ã) n=>tZ a.2 (Ô a.2) g.1 g.2 (fun o p=>n (o,p)) (fun q=>Í (fun(e:(Val (.pair tI aP))) r=>tY a.1 (List.set c (Int.toNat b) (0:Int)) e.1 e.2.1 e.2.2 (fun s t u=>r (s,t,u)) (fun h=>Í (fun(d:Val aQ) v=>tX i q a.1 a.2 d.1 d.2.1 d.2.2.1 d.2.2.2 (fun w x y z=>v (w,x,y,z)) (fun A=>k A.2.1)) ((List.set c (Int.toNat b) (0:Int)),h.1,(List.replicate (Int.toNat a.1) (0:Int)),h.2))) ((0:Int),(List.replicate (Int.toNat a.1) false),[]))) ((0:Int),(0:Int))))))) ((0:Int),(List.replicate (Int.toNat a.1) (0:Int))))
def yy (a:Val Ð) (b:Val ao) (c:Int):Option ((Val ab)):=Gk a b c some
def LA (a:Val Ð) (b:Int) (c:Int) (k:Val Ã→Option ρ):Option ρ :=
  Â (E8 a ([b,c])) fun d=>ifb (ine d 0) (k ((0:Int),d)) (Â (yy a ([]) b) fun f=>û f c fun e=>ifb (ieq e 1152921504606846976) (k ((0:Int),(5:Int))) (k (e,(0:Int))))
def pb (a:Val Ð) (b:Int) (c:Int):Option (Val Ã):=LA a b c some
def qQ (a:Val ak) (b:Int) (c:Int) (k:Int→Option ρ):Option ρ :=
  Â (pb a.2 c b) fun d=>k d.1
def É (a:Val ak) (b:Int) (c:Int):Option (Int):=qQ a b c some
def qP (a:Val ak) (b:Val Ã) (k:Int→Option ρ):Option ρ :=
  Â (š a b) fun c=>Â (É a (0:Int) c) fun d=>ck (0-d) fun e=>k e
def η (a:Val ak) (b:Val Ã):Option (Int):=qP a b some
def lL (a:Val ak) (b:Val Ã) (k:Int→Option ρ):Option ρ :=
  Â (š a b) fun c=>Â (É a c (0:Int)) fun d=>k d
def gT (a:Val ak) (b:Val Ã):Option (Int):=lL a b some
def lK (a:Val ak) (b:Val Ã) (k:Val Ã→Option ρ):Option ρ :=
  Â (η a b) fun c=>Â (gT a b) fun d=>k (c,d)
def Ŭ (a:Val ak) (b:Val Ã):Option (Val Ã):=lK a b some
def uD (f:Int) (a:Int) (c:Val ac) (g:Int→Val ac→Option ρ) (h:Val ac→Option ρ):Option ρ :=
  ifb (ilt a f) (ç ((ile 0 a)&&(ilt a (ą c))) (ĭ c (Int.toNat a) fun d=>ç (è (List.length d.2.2.1)) (ç (è (List.length d.2.2.2.1)) (ç ((ile 0 a)&&(ilt a (ą c))) (ĭ c (Int.toNat a) fun b=>ç ((ile 0 a)&&(ilt a (ą (List.set c (Int.toNat a) (b.1,b.2.1,d.2.2.1,b.2.2.2))))) (ĭ (List.set c (Int.toNat a) (b.1,b.2.1,d.2.2.1,b.2.2.2)) (Int.toNat a) fun e=>ck (a+(1:Int)) fun i=>g i (List.set (List.set c (Int.toNat a) (b.1,b.2.1,d.2.2.1,b.2.2.2)) (Int.toNat a) (e.1,e.2.1,e.2.2.1,d.2.2.2.1,e.2.2.2.2)))))))) (h c)
def RX (a:Val Ä) (b:Val Ã) (k:Val aS→Option ρ):Option ρ :=
  Â (ñ a) fun c=>ifb (ine c 0) (k ((((0:Int),(0:Int)),[],[],[],[],[]),c)) (ç (è (List.length a.2.1)) (ç (è (List.length a.2.2.1)) (ç (è (List.length a.2.2.2.1)) (ç (è (List.length a.2.2.2.2.2)) (ç (è (List.length a.2.2.2.2.1)) (Í (fun(d:(Val (.pair tI ac))) g=>uD (Ô a.2.2.2.2.1) d.1 d.2 (fun h i=>g (h,i)) (fun e=>ç (è ((List.length a.2.2.2.2.2)+(List.length ([b])))) (Â (ñ (a.1,a.2.1,a.2.2.1,a.2.2.2.1,e,(a.2.2.2.2.2++([b])))) fun f=>ifb (ine f 0) (k ((((0:Int),(0:Int)),[],[],[],[],[]),f)) (k ((a.1,a.2.1,a.2.2.1,a.2.2.2.1,e,(a.2.2.2.2.2++([b]))),(0:Int)))))) ((0:Int),a.2.2.2.2.1)))))))
def ŷ (a:Val Ä) (b:Val Ã):Option ((Val aS)):=RX a b some
def xu (b:Val aF) (a:Val ab) (c:Int) (k:Int→Option ρ):Option ρ :=
  ifb (ieq (Ô a) 0) (k (0:Int)) (û a (0:Int) fun d=>Â (ö b.2.1 (d,c)) fun e=>ck (e+(1:Int)) fun f=>k f)
def g9 (a:Val aF) (b:Val ab) (c:Int):Option (Int):=xu a b c some
def ur (f:Int) (g:Int) (h:Val af) (i:Int) (j:Int) (b:Int) (a:Int) (d:Int→Int→Option ρ) (k:Int→Option ρ):Option ρ :=
  ifb (ilt a i) (û h a fun c=>ck (g-(1:Int)) fun l=>ck ((Cb c.2.1.2 l)-(Ir c.2.1.1 f)) fun m=>ck (m+1) fun e=>ifb (ieq c.1 j) (ifb (igt e 0) (ck (e*c.2.2) fun n=>ck (b+n) fun o=>ck (a+(1:Int)) fun p=>d o p) (ck (a+(1:Int)) fun q=>d b q)) (ck (a+(1:Int)) fun r=>d b r)) (k b)
def uq (e:Int) (f:Int) (g:Val aa) (h:Int) (i:Int) (a:Int) (b:Val ab) (d:Int→Val ab→Option ρ) (j:Val ab→Option ρ):Option ρ :=
  ifb (ilt a h) (û g a fun c=>ifb (ieq c.1 i) (ck (f-(1:Int)) fun k=>Â (ď c.2 e k) fun l=>ifb l (ç (è ((List.length b)+(List.length ([c.2])))) (ck (a+(1:Int)) fun m=>d m (b++([c.2])))) (ck (a+(1:Int)) fun n=>d n b)) (ck (a+(1:Int)) fun o=>d o b)) (j b)
def RH (a:Val Ä) (b:Val Ï) (d:Int) (e:Int) (k:Int→Option ρ):Option ρ :=
  Í (fun(f:Val Ã) h=>ur d e a.2.2.2.1 (Ô a.2.2.2.1) b.1 f.1 f.2 (fun i j=>h (i,j)) (fun l=>Í (fun(g:Val az) m=>uq d e a.2.2.1 (Ô a.2.2.1) b.1 g.1 g.2 (fun n o=>m (n,o)) (fun c=>ç (è (List.length c)) (ç (è (List.length (Cg c))) (ck ((Ô (yG (Cg c)))*b.2.2.2.2.2) fun p=>ck (l+p) fun q=>k q)))) ((0:Int),[]))) ((0:Int),(0:Int))
def yA (a:Val Ä) (b:Val Ï) (c:Int) (d:Int):Option (Int):=RH a b c d some
def mY (b:Val au) (a:Val ab) (k:Val Ã→Option ρ):Option ρ :=
  ifb (ieq (Ô a) 0) (k ((0:Int),(1:Int))) (û a (0:Int) fun c=>S6 (k:=tI) (v:=Ï) c b (fun d=>k d.2.2.2.2.1) (k ((0:Int),(0:Int))))
def iB (a:Val au) (b:Val ab):Option (Val Ã):=mY a b some
def qn (b:Val aa) (c:Int) (a:Int) (d:Int→Option ρ) (e:Int→Option ρ) (f:Unit→Option ρ):Option ρ :=
  ifb (ilt a c) (û b a fun g=>Â (sX g) fun h=>ifb (!h) (e (1:Int)) (ck (a+(1:Int)) fun i=>d i)) (f ())
def LC (a:Val aa) (k:Int→Option ρ):Option ρ :=
  Í (fun(b:Int) c=>qn a (Ô a) b (fun d=>c d) (fun e=>k e) (fun _=>k (0:Int))) (0:Int)
def jw (a:Val aa):Option (Int):=LC a some
def BH (d:Int) (e:Int) (k:Val jn→Option ρ):Option ρ :=
  Â (qE d) fun b=>Â (qE e) fun c=>Â (MB b c) fun a=>ifb (ĩ a 0) (none) (ifb (ĩ a 0) (none) (ifb (igt (IntKind.wrap .u64 (Int.tdiv b a)) 2147483647) (k (((0:Int),(0:Int)),(3:Int))) (ifb (igt (IntKind.wrap .u64 (Int.tdiv c a)) 2147483647) (k (((0:Int),(0:Int)),(3:Int))) (ifb (!((ilt d 0)==(ilt e 0))) (ck (0-(IntKind.wrap .i64 (IntKind.wrap .u64 (Int.tdiv b a)))) fun f=>k ((f,(IntKind.wrap .i64 (IntKind.wrap .u64 (Int.tdiv c a)))),(0:Int))) (k (((IntKind.wrap .i64 (IntKind.wrap .u64 (Int.tdiv b a))),(IntKind.wrap .i64 (IntKind.wrap .u64 (Int.tdiv c a)))),(0:Int)))))))
def pd (a:Int) (b:Int):Option (Val jn):=BH a b some
def Xl (a:Val Ã) (b:Val Ã) (k:Val jn→Option ρ):Option ρ :=
  Â (jw ([a,b])) fun c=>ifb (ine c 0) (k (((0:Int),(0:Int)),c)) (ck (a.1*b.2) fun e=>ck (b.1*a.2) fun f=>ck (e-f) fun g=>ck (a.2*b.2) fun h=>Â (pd g h) fun d=>k (d.1,d.2))
def Ss (a:Val Ã) (b:Val Ã):Option (Val jn):=Xl a b some
def uf (a:Val Ã) (b:Val Ã) (k:Val Ã→Option ρ):Option ρ :=
  Â (Ss a b) fun c=>k c.1
def uN (a:Val Ã) (b:Val Ã):Option (Val Ã):=uf a b some
def Xj (a:Val Ã) (b:Val Ã) (k:Int→Option ρ):Option ρ :=
  ck (a.1*b.2) fun c=>ck (b.1*a.2) fun d=>ifb ((ĩ a.1 b.1)&&((ĩ a.2 b.2)&&true)) (k (0:Int)) (ifb (ilt c d) (k (-1:Int)) (ifb (igt c d) (k (1:Int)) (k (0:Int))))
def MC (a:Val Ã) (b:Val Ã):Option (Int):=Xj a b some
def re (a:Val ü) (k:Bool→Option ρ):Option ρ :=
  Â (jw ([a.1,a.2])) fun b=>ifb (ieq b 0) (Â (MC a.1 a.2) fun c=>k (ile c 0)) (k false)
def ro (a:Val ü):Option (Bool):=re a some
def Xn (a:Val Ã) (b:Val Ã) (k:Val jn→Option ρ):Option ρ :=
  Â (jw ([a,b])) fun c=>ifb (ine c 0) (k (((0:Int),(0:Int)),c)) (ck (a.1*b.1) fun e=>ck (a.2*b.2) fun f=>Â (pd e f) fun d=>k (d.1,d.2))
def ME (a:Val Ã) (b:Val Ã):Option (Val jn):=Xn a b some
def LN (c:Val ü) (d:Val Ã) (k:Val aa8→Option ρ):Option ρ :=
  Â (ro c) fun e=>ifb (!e) (k ((((0:Int),(0:Int)),(0:Int),(0:Int)),(1:Int))) (Â (sX d) fun f=>ifb (!f) (k ((((0:Int),(0:Int)),(0:Int),(0:Int)),(1:Int))) (Â (ME d c.1) fun a=>ifb (ine a.2 0) (k ((((0:Int),(0:Int)),(0:Int),(0:Int)),a.2)) (Â (ME d c.2) fun b=>ifb (ine b.2 0) (k ((((0:Int),(0:Int)),(0:Int),(0:Int)),b.2)) (Â (MC a.1 b.1) fun g=>ifb (igt g 0) (k ((b.1,a.1),(0:Int))) (k ((a.1,b.1),(0:Int)))))))
def MD (a:Val ü) (b:Val Ã):Option (Val aa8):=LN a b some
def ue (b:Val Ã) (a:Val Ã) (k:Val ü→Option ρ):Option ρ :=
  Â (MD ((a.1,(1:Int)),a.2,(1:Int)) b) fun c=>k c.1
def nB (a:Val Ã) (b:Val Ã):Option (Val ü):=ue a b some
def Gy (c:Val Ä) (a:Val Î) (k:Val ü→Option ρ):Option ρ :=
  Â (θ c) fun b=>Â (Ŧ a.2.2.1 a.2.2.2.1) fun d=>Â (iB b d) fun e=>Â (Ŧ a.2.2.2.1 a.2.2.1) fun f=>Â (iB b f) fun g=>Â (uN e g) fun h=>Â (nB h a.2.2.2.2.2.2) fun i=>k i
def nY (a:Val Ä) (b:Val Î):Option (Val ü):=Gy a b some
def L8 (a:Val Ä) (b:Val Î) (k:Val Ã→Option ρ):Option ρ :=
  ck ((Ô b.2.2.1)-(1:Int)) fun c=>ck ((Ô b.2.2.2.1)-(1:Int)) fun d=>ck ((Ir (0:Int) c)*a.1.1) fun e=>ck ((Ir (0:Int) d)*a.1.2) fun f=>ck (e-f) fun g=>ck ((Ir (0:Int) c)*a.1.2) fun h=>ck ((Ir (0:Int) d)*a.1.1) fun i=>ck (h-i) fun j=>k (g,j)
def sZ (a:Val Ä) (b:Val Î):Option (Val Ã):=L8 a b some
def LI (b:Int) (a:Int) (k:Int→Option ρ):Option ρ :=
  ifb (ĩ a 0) (none) (ck (Int.tdiv b a) fun c=>ifb (ĩ a 0) (none) (ifb (ilt (Int.tmod b a) 0) (ck (c-1) fun d=>k d) (k c)))
def xM (a:Int) (b:Int):Option (Int):=LI a b some
def LQ (a:Val Ã) (k:Val Ã→Option ρ):Option ρ :=
  Â (jw ([a])) fun b=>ifb (ine b 0) (k ((0:Int),b)) (Â (xM a.1 a.2) fun c=>k (c,(0:Int)))
def xN (a:Val Ã):Option (Val Ã):=LQ a some
def RA (a:Val Ã) (k:Val Ã→Option ρ):Option ρ :=
  Â (jw ([a])) fun b=>ifb (ine b 0) (k ((0:Int),b)) (ck (0-a.1) fun c=>Â (xM c a.2) fun d=>ck (0-d) fun e=>k (e,(0:Int)))
def E9 (a:Val Ã):Option (Val Ã):=RA a some
def RE (b:Val Ä) (a:Val Î) (k:Val Ã→Option ρ):Option ρ :=
  Â (nY b a) fun c=>Â (sZ b a) fun d=>Â (xN c.2) fun e=>Â (E9 c.1) fun f=>ck (a.2.2.2.2.1-a.2.2.2.2.2.1) fun g=>ck (g-d.2) fun h=>ck (h-e.1) fun i=>ck (a.2.2.2.2.1+a.2.2.2.2.2.1) fun j=>ck (j-d.1) fun l=>ck (l-f.1) fun m=>k (i,m)
def uM (a:Val Ä) (b:Val Î):Option (Val Ã):=RE a b some
def uk (b:Int) (e:Val ab) (h:Int) (j:Int) (k:Int) (l:Val ae) (m:Val aa) (n:Val af) (o:Val ac) (p:Val aa) (q:Int) (r:Int) (s:Int) (t:Int) (u:Int) (v:Int) (w:Int) (x:Int) (a:Int) (f:Val ai) (g:Val aa) (y:Int→Val ai→Val aa→Option ρ) (z:Val Cd→Option ρ):Option ρ :=
  ifb (ilt a (Ô e)) (ck (h+a) fun A=>ck (A-1) fun c=>ck (h+a) fun d=>ck (a-(1:Int)) fun B=>û e B fun C=>û e a fun D=>Â (yA ((j,k),l,m,n,o,p) (q,r,s,(t,u),(v,w),x) C D) fun E=>ck (0-E) fun F=>ck (0-F) fun i=>ç (è ((List.length f)+(List.length ([(c,d,(0:Int)),(d,c,i)])))) (ç (è ((List.length g)+(List.length ([((2:Int),b),((2:Int),b)])))) (ck (a+(1:Int)) fun G=>y G (f++([(c,d,(0:Int)),(d,c,i)])) (g++([((2:Int),b),((2:Int),b)]))))) (z (f,g))
def un (q:Val ae) (r:Int) (f:Int) (g:Int) (h:Val ae) (i:Val aa) (j:Val af) (k:Val ac) (l:Val aa) (s:Val aa) (t:Int) (b:Int) (d:Val ai) (e:Val aa) (u:Int→Val ai→Val aa→Option ρ) (v:Val Cd→Option ρ):Option ρ :=
  ifb (ilt b r) (û q b fun a=>Â (nD ((f,g),h,i,j,k,l) a) fun w=>Â (g9 (((f,g),h,i,j,k,l),s,(t,d),e) ([a.1]) a.2.1) fun c=>ck (a.2.2.1+a.2.2.2.1.1) fun x=>ck (a.2.2.1+a.2.2.2.1.2) fun n=>ck (0-x) fun o=>ç (è ((List.length d)+(List.length ([((0:Int),c,n),(c,(0:Int),o)])))) (ç (è ((List.length e)+(List.length ([((1:Int),b),((1:Int),b)])))) (Í (fun(m:(Val (.pair tI Cd))) y=>uk b w c f g h i j k l a.1 a.2.1 a.2.2.1 a.2.2.2.1.1 a.2.2.2.1.2 a.2.2.2.2.1.1 a.2.2.2.2.1.2 a.2.2.2.2.2 m.1 m.2.1 m.2.2 (fun z A B=>y (z,A,B)) (fun p=>ck (b+(1:Int)) fun C=>u C p.1 p.2)) ((1:Int),(d++([((0:Int),c,n),(c,(0:Int),o)])),(e++([((1:Int),b),((1:Int),b)])))))) (v (d,e))
def uj (r:Val ac) (s:Int) (g:Int) (h:Int) (i:Val ae) (j:Val aa) (k:Val af) (l:Val ac) (m:Val aa) (o:Val aa) (p:Int) (a:Int) (c:Val ai) (d:Val aa) (t:Int→Val ai→Val aa→Option ρ) (u:Val Cd→Option ρ):Option ρ :=
  ifb (ilt a s) (û r a fun b=>Â (Ŧ b.2.2.2.1 b.2.2.1) fun v=>Â (g9 (((g,h),i,j,k,l,m),o,(p,c),d) v b.2.1) fun e=>Â (Ŧ b.2.2.1 b.2.2.2.1) fun w=>Â (g9 (((g,h),i,j,k,l,m),o,(p,c),d) w b.2.1) fun f=>Â (uM ((g,h),i,j,k,l,m) b) fun n=>ck (0-n.1) fun q=>ç (è ((List.length c)+(List.length ([(e,f,n.2),(f,e,q)])))) (ç (è ((List.length d)+(List.length ([((3:Int),a),((3:Int),a)])))) (ck (a+(1:Int)) fun x=>t x (c++([(e,f,n.2),(f,e,q)])) (d++([((3:Int),a),((3:Int),a)]))))) (u (c,d))
def RG (a:Val Ä) (k:Val aF→Option ρ):Option ρ :=
  Â (pf a) fun b=>ck ((Ô b)+(1:Int)) fun c=>Í (fun(d:(Val (.pair tI Cd))) h=>un a.2.1 (Ô a.2.1) a.1.1 a.1.2 a.2.1 a.2.2.1 a.2.2.2.1 a.2.2.2.2.1 a.2.2.2.2.2 b c d.1 d.2.1 d.2.2 (fun i j l=>h (i,j,l)) (fun f=>Í (fun(e:(Val (.pair tI Cd))) m=>uj a.2.2.2.2.1 (Ô a.2.2.2.2.1) a.1.1 a.1.2 a.2.1 a.2.2.1 a.2.2.2.1 a.2.2.2.2.1 a.2.2.2.2.2 b c e.1 e.2.1 e.2.2 (fun n o p=>m (n,o,p)) (fun g=>k (a,b,(c,g.1),g.2))) ((0:Int),f.1,f.2))) ((0:Int),[],[])
def yz (a:Val Ä):Option ((Val aF)):=RG a some
def GC (a:Val Ä) (k:(Val (.pair Ð (.pair aa tI)))→Option ρ):Option ρ :=
  Â (ñ a) fun b=>ifb (ine b 0) (k (((0:Int),[]),[],b)) (Â (yz a) fun c=>k (c.2.2.1,c.2.2.2,(0:Int)))
def Đ (a:Val Ä):Option ((Val (.pair Ð (.pair aa tI)))):=GC a some
def qY (a:Val Ð) (k:Val aI→Option ρ):Option ρ :=
  Â (kP a) fun b=>ifb (ine b.1 0) (k (false,b.1)) (Â (j9 a ([])) fun c=>k (c.2,(0:Int)))
def þ (a:Val Ð):Option ((Val aI)):=qY a some
def ā (m:Int) (j:Val aa) (b:Int) (c:Int) (d:Int) (e:Val ae) (f:Val aa) (g:Val af) (h:Val ac) (i:Val aa) (k:Int→Int→Int→Val ae→Val aa→Val af→Val ac→Val aa→Option ρ) (n:Val aE→Option ρ) (o:Val aj→Option ρ):Option ρ :=
  ifb (ilt b m) (ç ((ile 0 b)&&(ilt b (ą j))) (ĭ j (Int.toNat b) fun l=>Â (ĝ ((c,d),e,f,g,h,i) l) fun p=>ifb (ieq p.2 0) (ck (b+(1:Int)) fun q=>k q c d e f g h i) (Â (ŷ ((c,d),e,f,g,h,i) l) fun a=>ifb (ine a.2 0) (n (a.2,c,d,e,f,g,h,i)) (ck (b+(1:Int)) fun r=>k r a.1.1.1 a.1.1.2 a.1.2.1 a.1.2.2.1 a.1.2.2.2.1 a.1.2.2.2.2.1 a.1.2.2.2.2.2)))) (o (c,d,e,f,g,h,i))
def wQ (a:Val Ä) (e:Val Ã) (k:Val jn→Option ρ):Option ρ :=
  Â (ñ a) fun f=>ifb (ine f 0) (ç (ine f 0) (k (((0:Int),(0:Int)),f))) (Í (fun(b:Val aE) h=>ā (Ô ([e])) ([e]) b.1 b.2.1 b.2.2.1 b.2.2.2.1 b.2.2.2.2.1 b.2.2.2.2.2.1 b.2.2.2.2.2.2.1 b.2.2.2.2.2.2.2 (fun i j l m n o p q=>h (i,j,l,m,n,o,p,q)) (fun g=>ç (ine g.1 0) (k (((0:Int),(0:Int)),g.1))) (fun c=>Â (Đ ((c.1,c.2.1),c.2.2)) fun d=>ifb (ine d.2.2 0) (ç (ine d.2.2 0) (k (((0:Int),(0:Int)),d.2.2))) (Â (þ d.1) fun r=>ifb (!r.1) (k (((0:Int),(0:Int)),(9:Int))) (Â (Ŭ (((c.1,c.2.1),c.2.2),d.1) e) fun s=>k (s,(0:Int)))))) ((0:Int),a.1.1,a.1.2,a.2.1,a.2.2.1,a.2.2.2.1,a.2.2.2.2.1,a.2.2.2.2.2))
def mN (a:Val Ä) (b:Val Ã):Option (Val jn):=wQ a b some
def GF (a:Val ab) (b:Val ab) (k:(Val (.pair ab aG))→Option ρ):Option ρ :=
  Â (lW a) fun c=>ifb (!c) (k ([],[],(1:Int))) (Â (lW b) fun d=>ifb (!d) (k ([],[],(1:Int))) (Â (Ŧ a b) fun e=>Â (Ŧ b a) fun f=>k (e,f,(0:Int))))
def s7 (a:Val ab) (b:Val ab):Option ((Val (.pair ab aG))):=GF a b some
def QX (a:Val ab) (b:Int) (k:Bool→Option ρ):Option ρ :=
  Â (s7 a ([])) fun c=>ifb (ieq c.2.2 0) (k (ile (Ô a) b)) (k false)
def qC (a:Val ab) (b:Int):Option (Bool):=QX a b some
def K3 (a:Int) (k:Bool→Option ρ):Option ρ :=
  ifb (ige a 0) (k (ile a 20000)) (k false)
def sV (a:Int):Option (Bool):=K3 a some
def pU (c:Int) (e:Val ab) (f:Int) (a:Int) (b:Val aa) (g:Int→Val aa→Option ρ) (h:Val aa→Option ρ):Option ρ :=
  ifb (ilt a f) (û e a fun d=>ç (è ((List.length b)+(List.length ([(d,c)])))) (ck (a+(1:Int)) fun i=>g i (b++([(d,c)])))) (h b)
def KW (c:Int) (d:Val ar) (k:Val aa→Option ρ):Option ρ :=
  Â (ì d) fun a=>Í (fun(b:Val aD) e=>pU c a (Ô a) b.1 b.2 (fun f g=>e (f,g)) (fun h=>k h)) ((0:Int),[])
def Ţ (a:Int) (b:Val ar):Option ((Val aa)):=KW a b some
def oQ (l:Val aa) (m:Int) (i:Int) (b:Int) (c:Int) (d:Val ae) (e:Val aa) (f:Val af) (g:Val ac) (h:Val aa) (j:Int→Int→Int→Val ae→Val aa→Val af→Val ac→Val aa→Option ρ) (n:Val aE→Option ρ) (o:Val aj→Option ρ):Option ρ :=
  ifb (ilt i m) (û l i fun k=>Â (ĝ ((b,c),d,e,f,g,h) k) fun p=>ifb (ieq p.2 0) (ck (i+(1:Int)) fun q=>j q b c d e f g h) (Â (ŷ ((b,c),d,e,f,g,h) k) fun a=>ifb (ine a.2 0) (n (a.2,b,c,d,e,f,g,h)) (ck (i+(1:Int)) fun r=>j r a.1.1.1 a.1.1.2 a.1.2.1 a.1.2.2.1 a.1.2.2.2.1 a.1.2.2.2.2.1 a.1.2.2.2.2.2))) (o (b,c,d,e,f,g,h))
def tR (e:Val ak) (f:Val aa) (g:Int) (a:Int) (b:Int) (c:Int) (h:Int→Int→Int→Option ρ) (i:Val Ã→Option ρ):Option ρ :=
  ifb (ilt a g) (û f a fun j=>Â (Ŭ e j) fun d=>ck (b+d.1) fun k=>ck (c+d.2) fun l=>ck (a+(1:Int)) fun m=>h m k l) (i (b,c))
def Rb (a:Val Ä) (i:Int) (c:Val ab) (k:Val jn→Option ρ):Option ρ :=
  Â (ñ a) fun j=>ifb (ine j 0) (k (((0:Int),(0:Int)),j)) (ifb (ieq (Ô c) 0) (k (((0:Int),(0:Int)),(1:Int))) (Â (qC c (6:Int)) fun q=>ifb (!q) (k (((0:Int),(0:Int)),(1:Int))) (Â (sV i) fun r=>ifb (!r) (k (((0:Int),(0:Int)),(1:Int))) (Â (Ţ i ([c])) fun f=>Â (ñ a) fun g=>ifb (ine g 0) (ifb (ine g 0) (k (((0:Int),(0:Int)),g)) (ck ((Ô c)-(1:Int)) fun l=>ck (l*a.1.1) fun J=>ck (l*a.1.2) fun K=>none)) (Í (fun(b:Val aE) s=>oQ f (Ô f) b.1 b.2.1 b.2.2.1 b.2.2.2.1 b.2.2.2.2.1 b.2.2.2.2.2.1 b.2.2.2.2.2.2.1 b.2.2.2.2.2.2.2 (fun t u v w x y z A=>s (t,u,v,w,x,y,z,A)) (fun m=>ifb (ine m.1 0) (k (((0:Int),(0:Int)),m.1)) (ck ((Ô c)-(1:Int)) fun n=>ck (n*a.1.1) fun L=>ck (n*a.1.2) fun M=>none)) (fun d=>Â (Đ ((d.1,d.2.1),d.2.2)) fun e=>ifb (ine e.2.2 0) (ifb (ine e.2.2 0) (k (((0:Int),(0:Int)),e.2.2)) (ck ((Ô c)-(1:Int)) fun o=>ck (o*a.1.1) fun N=>ck (o*a.1.2) fun O=>none)) (Â (þ e.1) fun B=>ifb (!B.1) (k (((0:Int),(0:Int)),(9:Int))) (ck ((Ô c)-(1:Int)) fun p=>ck (p*a.1.1) fun C=>ck (p*a.1.2) fun D=>Í (fun(h:Val ğ) E=>tR (((d.1,d.2.1),d.2.2),e.1) f (Ô f) h.1 h.2.1 h.2.2 (fun F G H=>E (F,G,H)) (fun I=>k (I,(0:Int)))) ((0:Int),C,D))))) ((0:Int),a.1.1,a.1.2,a.2.1,a.2.2.1,a.2.2.2.1,a.2.2.2.2.1,a.2.2.2.2.2))))))
def E4 (a:Val Ä) (b:Int) (c:Val ab):Option (Val jn):=Rb a b c some
def qX (m:Int) (j:Val aa) (b:Int) (c:Int) (d:Int) (e:Val ae) (f:Val aa) (g:Val af) (h:Val ac) (i:Val aa) (k:Int→Int→Int→Val ae→Val aa→Val af→Val ac→Val aa→Option ρ) (n:Val aE→Option ρ) (o:Val aj→Option ρ):Option ρ :=
  ifb (ilt b m) (ç ((ile 0 b)&&(ilt b (ą j))) (ĭ j (Int.toNat b) fun l=>Â (ĝ ((c,d),e,f,g,h,i) l) fun p=>ifb (ieq p.2 0) (ck (b+(1:Int)) fun q=>k q c d e f g h i) (Â (ŷ ((c,d),e,f,g,h,i) l) fun a=>ifb (ine a.2 0) (n (a.2,c,d,e,f,g,h,i)) (ck (b+(1:Int)) fun r=>k r a.1.1.1 a.1.1.2 a.1.2.1 a.1.2.2.1 a.1.2.2.2.1 a.1.2.2.2.2.1 a.1.2.2.2.2.2)))) (o (c,d,e,f,g,h,i))
def BB (b:Val Ä) (e:Val Ã) (f:Val Ã) (k:Val jn→Option ρ):Option ρ :=
  Â (ñ b) fun g=>ifb (ine g 0) (ç (ine g 0) (k (((0:Int),(0:Int)),g))) (Í (fun(c:Val aE) l=>qX (Ô ([e,f])) ([e,f]) c.1 c.2.1 c.2.2.1 c.2.2.2.1 c.2.2.2.2.1 c.2.2.2.2.2.1 c.2.2.2.2.2.2.1 c.2.2.2.2.2.2.2 (fun m n o p q r s t=>l (m,n,o,p,q,r,s,t)) (fun h=>ç (ine h.1 0) (k (((0:Int),(0:Int)),h.1))) (fun a=>Â (Đ ((a.1,a.2.1),a.2.2)) fun d=>ifb (ine d.2.2 0) (ç (ine d.2.2 0) (k (((0:Int),(0:Int)),d.2.2))) (Â (þ d.1) fun u=>ifb (!u.1) (k (((0:Int),(0:Int)),(9:Int))) (Â (š (((a.1,a.2.1),a.2.2),d.1) e) fun i=>Â (š (((a.1,a.2.1),a.2.2),d.1) f) fun j=>Â (É (((a.1,a.2.1),a.2.2),d.1) j i) fun v=>ck (0-v) fun w=>Â (É (((a.1,a.2.1),a.2.2),d.1) i j) fun x=>k ((w,x),(0:Int)))))) ((0:Int),b.1.1,b.1.2,b.2.1,b.2.2.1,b.2.2.2.1,b.2.2.2.2.1,b.2.2.2.2.2))
def uL (a:Val Ä) (b:Val Ã) (c:Val Ã):Option (Val jn):=BB a b c some
def yk (c:Int) (a:Int) (b:Val ab) (d:Int→Val ab→Option ρ) (e:Val ab→Option ρ):Option ρ :=
  ifb (ilt a c) (ç ((ile 0 a)&&(ilt a (ą b))) (ĭ b (Int.toNat a) fun g=>ck (a+(1:Int)) fun f=>d f (List.set b (Int.toNat a) (1152921504606846976:Int)))) (e b)
def Rj (c:Int) (a:Int) (b:Val ab) (d:Int→Val ab→Option ρ) (e:Val ab→Option ρ):Option ρ :=
  ifb (ilt a c) (ç ((ile 0 a)&&(ilt a (ą b))) (ĭ b (Int.toNat a) fun g=>ck (a+(1:Int)) fun f=>d f (List.set b (Int.toNat a) (1152921504606846976:Int)))) (e b)
def DQ (d:Val ab) (f:Val ai) (g:Int) (c:Int) (b:Val ab) (e:Int→Val ab→Option ρ) (h:Val ab→Option ρ):Option ρ :=
  ifb (ilt c g) (û f c fun a=>û d a.2.1 fun i=>ifb (ine i 1152921504606846976) (ç ((ile 0 a.1)&&(ilt a.1 (ą b))) (ĭ b (Int.toNat a.1) fun j=>û d a.2.1 fun k=>ck (a.2.2+k) fun l=>ç ((ile 0 a.1)&&(ilt a.1 (ą b))) (ĭ b (Int.toNat a.1) fun o=>ck (c+(1:Int)) fun m=>e m (List.set b (Int.toNat a.1) (Cb j l))))) (ck (c+(1:Int)) fun n=>e n b)) (h b)
def JN (i:Int) (b:Int) (d:Val ai) (e:Int) (a:Val ar) (j:Int→Val ar→Option ρ) (k:Val ar→Option ρ):Option ρ :=
  ifb (ilt e i) (ck ((Ô a)-(1:Int)) fun c=>ç ((ile 0 c)&&(ilt c (ą a))) (ĭ a (Int.toNat c) fun l=>ç ((ile 0 b)&&(è (Int.toNat b))) (Í (fun(f:Val az) m=>Rj (Ô (List.replicate (Int.toNat b) (0:Int))) f.1 f.2 (fun n o=>m (n,o)) (fun p=>Í (fun(g:Val az) q=>DQ l d (Ô d) g.1 g.2 (fun r s=>q (r,s)) (fun h=>ç (è ((List.length a)+(List.length ([h])))) (ck (e+(1:Int)) fun t=>j t (a++([h]))))) ((0:Int),p))) ((0:Int),(List.replicate (Int.toNat b) (0:Int)))))) (k a)
def Li (a:Val Ð) (b:Int) (f:Int) (k:Val ar→Option ρ):Option ρ :=
  ç ((ile 0 a.1)&&(è (Int.toNat a.1))) (Í (fun(d:Val az) g=>yk (Ô (List.replicate (Int.toNat a.1) (0:Int))) d.1 d.2 (fun h i=>g (h,i)) (fun c=>ç ((ile 0 b)&&(ilt b (ą c))) (ĭ c (Int.toNat b) fun o=>Í (fun(e:(Val (.pair tI ar))) j=>JN f a.1 a.2 e.1 e.2 (fun l m=>j (l,m)) (fun n=>k n)) ((0:Int),[(List.set c (Int.toNat b) (0:Int))])))) ((0:Int),(List.replicate (Int.toNat a.1) (0:Int))))
def xJ (a:Val Ð) (b:Int) (c:Int):Option ((Val ar)):=Li a b c some
def HU (d:Int) (c:Int) (e:Val ai) (a:Int) (b:Val aR) (f:Int→Val aR→Option ρ) (g:Val aR→Option ρ):Option ρ :=
  ifb (ilt a d) (Â (xJ (c,e) a c) fun h=>ç ((ile 0 a)&&(ilt a (ą b))) (ĭ b (Int.toNat a) fun j=>ck (a+(1:Int)) fun i=>f i (List.set b (Int.toNat a) h))) (g b)
def HP (g:Int) (h:Val ar) (j:Val ai) (k:Int) (e:Int) (b:Int) (a:Int) (c:Val ab) (f:Int→Int→Int→Val ab→Option ρ) (i:(Val (.pair tI az))→Option ρ):Option ρ :=
  ifb (ilt a k) (û j a fun d=>ifb (ieq d.1 e) (ck (g-(1:Int)) fun l=>û h l fun m=>û m d.2.1 fun n=>ifb (ine n 1152921504606846976) (ck (b+d.2.2) fun o=>ck (g-(1:Int)) fun p=>û h p fun q=>û q d.2.1 fun r=>ck (o+r) fun s=>ifb (ilt s 0) (ç (è ((List.length c)+(List.length ([a])))) (ck (b+d.2.2) fun t=>i (d.2.1,t,(c++([a]))))) (ck (a+(1:Int)) fun u=>f e b u c)) (ck (a+(1:Int)) fun v=>f e b v c)) (ck (a+(1:Int)) fun w=>f e b w c)) (i (e,b,c))
def HQ (f:Val ar) (d:Val ai) (g:Int) (b:Int) (h:Int) (e:Val ab) (i:Int→Int→Int→Val ab→Option ρ) (j:Val ab→Option ρ):Option ρ :=
  ifb (igt b 0) (Í (fun(a:Val aH) k=>HP b f d (Ô d) a.1 a.2.1 a.2.2.1 a.2.2.2 (fun l m n o=>k (l,m,n,o)) (fun c=>ck (b-(1:Int)) fun p=>i c.1 p c.2.1 c.2.2)) (g,h,(0:Int),e)) (j e)
def HS (e:Int) (h:Val ai) (i:Int) (j:Int) (k:Val ai) (b:Val aR) (c:Int) (f:Int→Option ρ) (l:Unit→Option ρ) (m:Val az→Option ρ) (n:Unit→Option ρ):Option ρ :=
  ifb (ilt c i) (û h c fun a=>ç ((ile 0 a.1)&&(ilt a.1 (ą b))) (ĭ b (Int.toNat a.1) fun o=>ck (e-(1:Int)) fun p=>û o p fun q=>û q a.2.1 fun g=>ifb (ieq g 1152921504606846976) (ck (c+(1:Int)) fun r=>f r) (ck (a.2.2+g) fun s=>ifb (ige s 0) (ck (c+(1:Int)) fun t=>f t) (ifb (igt e j) (l ()) (ç ((ile 0 a.1)&&(ilt a.1 (ą b))) (ĭ b (Int.toNat a.1) fun u=>Í (fun(d:Val aH) v=>HQ u k d.1 d.2.1 d.2.2.1 d.2.2.2 (fun w x y z=>v (w,x,y,z)) (fun A=>m ((0:Int),A))) (a.1,e,(0:Int),[]))))))) (n ())
def HT (d:Int) (a:Val ai) (e:Val aR) (b:Int) (f:Int→Option ρ) (g:Unit→Option ρ) (h:Val az→Option ρ):Option ρ :=
  Í (fun(i:Int) j=>HS b a (Ô a) d a e i (fun k=>j k) (fun _=>g ()) (fun c=>h (c.1,c.2)) (fun _=>ck (b+(1:Int)) fun l=>f l)) (0:Int)
def Ls (a:Val Ð) (k:Val aG→Option ρ):Option ρ :=
  Â (kP a) fun b=>ifb (ine b.1 0) (k ([],b.1)) (Â (j9 a ([])) fun e=>ifb e.2 (k ([],(5:Int))) (ç ((ile 0 a.1)&&(è (Int.toNat a.1))) (Í (fun(c:(Val (.pair tI aR))) f=>HU (Ô (List.replicate (Int.toNat a.1) ([]:Val ar))) a.1 a.2 c.1 c.2 (fun g h=>f (g,h)) (fun i=>Í (fun(j:Int) l=>HT a.1 a.2 i j (fun m=>l m) (fun _=>k ([],(5:Int))) (fun d=>k (d.2,d.1))) (1:Int))) ((0:Int),(List.replicate (Int.toNat a.1) ([]:Val ar))))))
def xK (a:Val Ð):Option ((Val aG)):=Ls a some
def l7 (d:Val aa) (e:Val ab) (f:Int) (a:Int) (b:Val aa) (g:Int→Val aa→Option ρ) (h:Val aa→Option ρ):Option ρ :=
  ifb (ilt a f) (û e a fun i=>û d i fun c=>ç (è ((List.length b)+(List.length ([c])))) (ck (a+(1:Int)) fun j=>g j (b++([c])))) (h b)
def A5 (c:Val Ä) (a:Val ab) (k:Val aa→Option ρ):Option ρ :=
  Â (Đ c) fun d=>Í (fun(b:Val aD) e=>l7 d.2.1 a (Ô a) b.1 b.2 (fun f g=>e (f,g)) (fun h=>k h)) ((0:Int),[])
def oZ (a:Val Ä) (b:Val ab):Option ((Val aa)):=A5 a b some
def Ld (a:Val Ä) (k:(Val (.pair ι tI))→Option ρ):Option ρ :=
  Â (Đ a) fun b=>ifb (ine b.2.2 0) (k (((((0:Int),(0:Int)),[],[],[],[],[]),((0:Int),(0:Int)),false,(0:Int),[]),b.2.2)) (Â (xK b.1) fun c=>ifb (ine c.2 0) (k (((((0:Int),(0:Int)),[],[],[],[],[]),((0:Int),(0:Int)),false,(0:Int),[]),c.2)) (Â (oZ a c.1) fun f=>Â (MA a f ([])) fun e=>Â (Đ e) fun g=>Â (xK g.1) fun d=>ifb (ine d.2 0) (k (((((0:Int),(0:Int)),[],[],[],[],[]),((0:Int),(0:Int)),false,(0:Int),[]),d.2)) (k ((e,((0:Int),(0:Int)),false,(0:Int),d.1),(0:Int)))))
def E6 (a:Val Ä):Option ((Val (.pair ι tI))):=Ld a some
def wy (k:Val Ä→Option ρ):Option ρ :=
  k (((0:Int),(2:Int)),[((1:Int),(0:Int),(1000:Int),((-5:Int),(5:Int)),((1:Int),(10:Int)),(1:Int)),((2:Int),(0:Int),(1000:Int),((-50:Int),(50:Int)),((1:Int),(4:Int)),(0:Int))],[((1:Int),(10:Int))],[((1:Int),((20:Int),(29:Int)),(3:Int))],[((7:Int),(10:Int),[(1:Int)],[(2:Int)],(-20:Int),(1:Int),(100:Int),(200:Int))],[])
def xH:Option (Val Ä):=wy some
def A4 (a:Val Ã) (b:Val Ã) (k:Int→Option ρ):Option ρ :=
  ifb (ile b.1 a.1) (ifb (ile a.2 b.2) (k (1:Int)) (ifb (ilt a.2 b.1) (k (2:Int)) (ifb (ilt b.2 a.1) (k (2:Int)) (k (3:Int))))) (ifb (ilt a.2 b.1) (k (2:Int)) (ifb (ilt b.2 a.1) (k (2:Int)) (k (3:Int))))
def oY (a:Val Ã) (b:Val Ã):Option (Int):=A4 a b some
def wP (m:Int) (j:Val aa) (b:Int) (c:Int) (d:Int) (e:Val ae) (f:Val aa) (g:Val af) (h:Val ac) (i:Val aa) (k:Int→Int→Int→Val ae→Val aa→Val af→Val ac→Val aa→Option ρ) (n:Val aE→Option ρ) (o:Val aj→Option ρ):Option ρ :=
  ifb (ilt b m) (ç ((ile 0 b)&&(ilt b (ą j))) (ĭ j (Int.toNat b) fun l=>Â (ĝ ((c,d),e,f,g,h,i) l) fun p=>ifb (ieq p.2 0) (ck (b+(1:Int)) fun q=>k q c d e f g h i) (Â (ŷ ((c,d),e,f,g,h,i) l) fun a=>ifb (ine a.2 0) (n (a.2,c,d,e,f,g,h,i)) (ck (b+(1:Int)) fun r=>k r a.1.1.1 a.1.1.2 a.1.2.1 a.1.2.2.1 a.1.2.2.2.1 a.1.2.2.2.2.1 a.1.2.2.2.2.2)))) (o (c,d,e,f,g,h,i))
def La (b:Val Ä) (f:Val Ã) (a:Val Ã) (k:Val Ã→Option ρ):Option ρ :=
  Â (ñ b) fun g=>ifb (ine g 0) (ifb (ine g 0) (k ((0:Int),g)) (ç (igt a.1 a.2) (k ((0:Int),(1:Int))))) (Í (fun(c:Val aE) i=>wP (Ô ([f])) ([f]) c.1 c.2.1 c.2.2.1 c.2.2.2.1 c.2.2.2.2.1 c.2.2.2.2.2.1 c.2.2.2.2.2.2.1 c.2.2.2.2.2.2.2 (fun j l m n o p q r=>i (j,l,m,n,o,p,q,r)) (fun h=>ifb (ine h.1 0) (k ((0:Int),h.1)) (ç (igt a.1 a.2) (k ((0:Int),(1:Int))))) (fun d=>Â (Đ ((d.1,d.2.1),d.2.2)) fun e=>ifb (ine e.2.2 0) (ifb (ine e.2.2 0) (k ((0:Int),e.2.2)) (ç (igt a.1 a.2) (k ((0:Int),(1:Int))))) (Â (þ e.1) fun s=>ifb (!s.1) (k ((0:Int),(9:Int))) (ifb (igt a.1 a.2) (k ((0:Int),(1:Int))) (Â (Ŭ (((d.1,d.2.1),d.2.2),e.1) f) fun t=>Â (oY t a) fun u=>k (u,(0:Int))))))) ((0:Int),b.1.1,b.1.2,b.2.1,b.2.2.1,b.2.2.2.1,b.2.2.2.2.1,b.2.2.2.2.2))
def E5 (a:Val Ä) (b:Val Ã) (c:Val Ã):Option (Val Ã):=La a b c some
def qm (b:Val ar) (c:Int) (d:Int) (e:Int) (a:Int) (f:Int→Option ρ) (g:Int→Option ρ) (h:Unit→Option ρ):Option ρ :=
  ifb (ilt a c) (û b a fun i=>û i d fun j=>ifb (ieq j e) (g a) (ck (a+(1:Int)) fun k=>f k)) (h ())
def HV (g:Int) (h:Val ar) (j:Val ai) (k:Int) (l:Int) (e:Int) (b:Int) (a:Int) (c:Val ab) (f:Int→Int→Int→Val ab→Option ρ) (i:(Val (.pair tI az))→Option ρ):Option ρ :=
  ifb (ilt a k) (û j a fun d=>ifb (ieq d.1 e) (ck (g-(1:Int)) fun m=>û h m fun n=>û n d.2.1 fun o=>ifb (ine o 1152921504606846976) (ck (b+d.2.2) fun p=>ck (g-(1:Int)) fun q=>û h q fun r=>û r d.2.1 fun s=>ck (p+s) fun t=>ifb (ieq t l) (ç (è ((List.length c)+(List.length ([a])))) (ck (b+d.2.2) fun u=>i (d.2.1,u,(c++([a]))))) (ck (a+(1:Int)) fun v=>f e b v c)) (ck (a+(1:Int)) fun w=>f e b w c)) (ck (a+(1:Int)) fun x=>f e b x c)) (i (e,b,c))
def ql (f:Val ar) (g:Int) (d:Val ai) (h:Int) (b:Int) (i:Int) (e:Val ab) (j:Int→Int→Int→Val ab→Option ρ) (k:Val ab→Option ρ):Option ρ :=
  ifb (igt b 0) (Í (fun(a:Val aH) l=>HV b f d (Ô d) g a.1 a.2.1 a.2.2.1 a.2.2.2 (fun m n o p=>l (m,n,o,p)) (fun c=>ck (b-(1:Int)) fun q=>j c.1 q c.2.1 c.2.2)) (h,i,(0:Int),e)) (k e)
def Ly (a:Val Ð) (c:Int) (g:Int) (k:Val aG→Option ρ):Option ρ :=
  Â (pb a c g) fun b=>ifb (ine b.2 0) (k ([],b.2)) (Â (xJ a g a.1) fun d=>Í (fun(h:Int) i=>qm d (Ô d) c b.1 h (fun j=>i j) (fun l=>Í (fun(e:Val aH) m=>ql d b.1 a.2 e.1 e.2.1 e.2.2.1 e.2.2.2 (fun n o p q=>m (n,o,p,q)) (fun r=>k (r,(0:Int)))) (c,l,(0:Int),[])) (fun _=>Í (fun(f:Val aH) s=>ql d b.1 a.2 f.1 f.2.1 f.2.2.1 f.2.2.2 (fun t u v w=>s (t,u,v,w)) (fun x=>k (x,(0:Int)))) (c,(-1:Int),(0:Int),[]))) (0:Int))
def xL (a:Val Ð) (b:Int) (c:Int):Option ((Val aG)):=Ly a b c some
def tT (a:Val ak) (c:Val aV) (d:(Val (.ptr .bool))) (k:Val ab→Option ρ):Option ρ :=
  Â (š a c) fun b=>ifb d (Â (xL a.2 (0:Int) b) fun e=>k e.1) (Â (xL a.2 b (0:Int)) fun f=>k f.1)
def kO (a:Val ak) (b:Val aV) (c:(Val (.ptr .bool))):Option ((Val ab)):=tT a b c some
def qW (m:Int) (j:Val aa) (b:Int) (c:Int) (d:Int) (e:Val ae) (f:Val aa) (g:Val af) (h:Val ac) (i:Val aa) (k:Int→Int→Int→Val ae→Val aa→Val af→Val ac→Val aa→Option ρ) (n:Val aE→Option ρ) (o:Val aj→Option ρ):Option ρ :=
  ifb (ilt b m) (ç ((ile 0 b)&&(ilt b (ą j))) (ĭ j (Int.toNat b) fun l=>Â (ĝ ((c,d),e,f,g,h,i) l) fun p=>ifb (ieq p.2 0) (ck (b+(1:Int)) fun q=>k q c d e f g h i) (Â (ŷ ((c,d),e,f,g,h,i) l) fun a=>ifb (ine a.2 0) (n (a.2,c,d,e,f,g,h,i)) (ck (b+(1:Int)) fun r=>k r a.1.1.1 a.1.1.2 a.1.2.1 a.1.2.2.1 a.1.2.2.2.1 a.1.2.2.2.2.1 a.1.2.2.2.2.2)))) (o (c,d,e,f,g,h,i))
def qV (a:Int) (b:Int) (d:Int→Option ρ) (c:Unit→Option ρ):Option ρ :=
  ifb (ilt b a) (none) (c ())
def BA (d:Val Ä) (b:Val Ã) (f:Bool) (k:(Val (.pair ι tI))→Option ρ):Option ρ :=
  Â (ñ d) fun i=>ifb (ine i 0) (ç (ine i 0) (k (((((0:Int),(0:Int)),[],[],[],[],[]),((0:Int),(0:Int)),false,(0:Int),[]),i))) (Í (fun(e:Val aE) n=>qW (Ô ([b])) ([b]) e.1 e.2.1 e.2.2.1 e.2.2.2.1 e.2.2.2.2.1 e.2.2.2.2.2.1 e.2.2.2.2.2.2.1 e.2.2.2.2.2.2.2 (fun o p q r s t u v=>n (o,p,q,r,s,t,u,v)) (fun l=>ç (ine l.1 0) (k (((((0:Int),(0:Int)),[],[],[],[],[]),((0:Int),(0:Int)),false,(0:Int),[]),l.1))) (fun a=>Â (Đ ((a.1,a.2.1),a.2.2)) fun c=>ifb (ine c.2.2 0) (ç (ine c.2.2 0) (k (((((0:Int),(0:Int)),[],[],[],[],[]),((0:Int),(0:Int)),false,(0:Int),[]),c.2.2))) (Â (þ c.1) fun w=>ifb (!w.1) (k (((((0:Int),(0:Int)),[],[],[],[],[]),((0:Int),(0:Int)),false,(0:Int),[]),(9:Int))) (Â (kO (((a.1,a.2.1),a.2.2),c.1) b f) fun x=>Â (oZ ((a.1,a.2.1),a.2.2) x) fun y=>Â (MA ((a.1,a.2.1),a.2.2) y ([b])) fun g=>Â (ñ g) fun j=>ifb (ine j 0) (ifb (ine j 0) (k (((((0:Int),(0:Int)),[],[],[],[],[]),((0:Int),(0:Int)),false,(0:Int),[]),j)) (Â (η (((a.1,a.2.1),a.2.2),c.1) b) fun F=>none)) (Í (fun(z:Int) A=>qV (0:Int) z (fun B=>A B) (fun _=>Â (Đ g) fun h=>ifb (ine h.2.2 0) (ifb (ine h.2.2 0) (k (((((0:Int),(0:Int)),[],[],[],[],[]),((0:Int),(0:Int)),false,(0:Int),[]),h.2.2)) (Â (η (((a.1,a.2.1),a.2.2),c.1) b) fun G=>none)) (Â (þ h.1) fun C=>ifb (!C.1) (k (((((0:Int),(0:Int)),[],[],[],[],[]),((0:Int),(0:Int)),false,(0:Int),[]),(9:Int))) (Â (η (((a.1,a.2.1),a.2.2),c.1) b) fun D=>Â (kO (g,h.1) b f) fun m=>ifb f (Â (gT (((a.1,a.2.1),a.2.2),c.1) b) fun E=>k ((g,b,f,E,m),(0:Int))) (k ((g,b,f,D,m),(0:Int))))))) (0:Int)))))) ((0:Int),d.1.1,d.1.2,d.2.1,d.2.2.1,d.2.2.2.1,d.2.2.2.2.1,d.2.2.2.2.2))
def uK (a:Val Ä) (b:Val Ã) (c:Bool):Option ((Val (.pair ι tI))):=BA a b c some
def uC (f:Int) (a:Int) (c:Val ac) (g:Int→Val ac→Option ρ) (h:Val ac→Option ρ):Option ρ :=
  ifb (ilt a f) (ç ((ile 0 a)&&(ilt a (ą c))) (ĭ c (Int.toNat a) fun d=>ç (è (List.length d.2.2.1)) (ç (è (List.length d.2.2.2.1)) (ç ((ile 0 a)&&(ilt a (ą c))) (ĭ c (Int.toNat a) fun b=>ç ((ile 0 a)&&(ilt a (ą (List.set c (Int.toNat a) (b.1,b.2.1,d.2.2.1,b.2.2.2))))) (ĭ (List.set c (Int.toNat a) (b.1,b.2.1,d.2.2.1,b.2.2.2)) (Int.toNat a) fun e=>ck (a+(1:Int)) fun i=>g i (List.set (List.set c (Int.toNat a) (b.1,b.2.1,d.2.2.1,b.2.2.2)) (Int.toNat a) (e.1,e.2.1,e.2.2.1,d.2.2.2.1,e.2.2.2.2)))))))) (h c)
def RU (a:Val Ä) (b:Val Î) (k:Val aS→Option ρ):Option ρ :=
  ç (è (List.length b.2.2.1)) (ç (è (List.length b.2.2.2.1)) (Â (ñ a) fun d=>ifb (ine d 0) (k ((((0:Int),(0:Int)),[],[],[],[],[]),d)) (ç (è (List.length a.2.1)) (ç (è (List.length a.2.2.1)) (ç (è (List.length a.2.2.2.1)) (ç (è (List.length a.2.2.2.2.2)) (ç (è (List.length a.2.2.2.2.1)) (Í (fun(e:(Val (.pair tI ac))) g=>uC (Ô a.2.2.2.2.1) e.1 e.2 (fun h i=>g (h,i)) (fun c=>ç (è ((List.length c)+(List.length ([b])))) (Â (ñ (a.1,a.2.1,a.2.2.1,a.2.2.2.1,(c++([b])),a.2.2.2.2.2)) fun f=>ifb (ine f 0) (k ((((0:Int),(0:Int)),[],[],[],[],[]),f)) (k ((a.1,a.2.1,a.2.2.1,a.2.2.2.1,(c++([b])),a.2.2.2.2.2),(0:Int)))))) ((0:Int),a.2.2.2.2.1)))))))))
def nE (a:Val Ä) (b:Val Î):Option ((Val aS)):=RU a b some
def LV (b:Val Ä) (a:Val Î) (c:Val Ã) (k:Val jn→Option ρ):Option ρ :=
  Â (nY b a) fun d=>Â (sZ b a) fun e=>Â (E9 d.1) fun h=>Â (xN d.2) fun i=>ck (h.1+e.1) fun j=>ck (j-a.2.2.2.2.2.1) fun f=>ck (i.1+e.2) fun l=>ck (l+a.2.2.2.2.2.1) fun g=>ifb (igt f g) (k (((0:Int),(0:Int)),(5:Int))) (ck (c.1+f) fun m=>ck (c.2+g) fun n=>k ((m,n),(0:Int)))
def sY (a:Val Ä) (b:Val Î) (c:Val Ã):Option (Val jn):=LV a b c some
def BS (g:Val Ä) (a:Val Î) (k:Val jn→Option ρ):Option ρ :=
  Â (nE g (a.1,a.2.1,a.2.2.1,a.2.2.2.1,(0:Int),a.2.2.2.2.2)) fun d=>ifb (ine d.2 0) (k (((0:Int),(0:Int)),d.2)) (Â (yz d.1) fun b=>ck ((Ô b.2.2.1.2)-(2:Int)) fun c=>ç ((ile 0 c)&&(ile c (ą b.2.2.1.2))) (Â (Ŧ a.2.2.1 a.2.2.2.1) fun l=>Â (g9 b l a.2.1) fun h=>Â (Ŧ a.2.2.2.1 a.2.2.1) fun m=>Â (g9 b m a.2.1) fun i=>Â (pb (b.2.2.1.1,(List.take (Int.toNat c) b.2.2.1.2)) i h) fun e=>ifb (ine e.2 0) (k (((0:Int),(0:Int)),e.2)) (Â (pb (b.2.2.1.1,(List.take (Int.toNat c) b.2.2.1.2)) h i) fun f=>ifb (ine f.2 0) (k (((0:Int),(0:Int)),f.2)) (ck (0-f.1) fun n=>Â (sY g (a.1,a.2.1,a.2.2.1,a.2.2.2.1,(0:Int),a.2.2.2.2.2) (n,e.1)) fun j=>k (j.1,j.2)))))
def uP (a:Val Ä) (b:Val Î):Option (Val jn):=BS a b some
def LS (a:Val Ä) (b:Int) (k:(Val (.pair Î tI))→Option ρ):Option ρ :=
  Â (ñ a) fun c=>ifb (ine c 0) (k (((0:Int),(0:Int),[],[],(0:Int),(0:Int),(0:Int),(0:Int)),c)) (ifb (ilt b 0) (k (((0:Int),(0:Int),[],[],(0:Int),(0:Int),(0:Int),(0:Int)),(1:Int))) (ifb (ige b (Ô a.2.2.2.2.1)) (k (((0:Int),(0:Int),[],[],(0:Int),(0:Int),(0:Int),(0:Int)),(1:Int))) (û a.2.2.2.2.1 b fun d=>k (d,(0:Int)))))
def Fc (a:Val Ä) (b:Int):Option ((Val (.pair Î tI))):=LS a b some
def RW (b:Val Ä) (c:Int) (k:Val jn→Option ρ):Option ρ :=
  Â (Fc b c) fun a=>ifb (ine a.2 0) (k (((0:Int),(0:Int)),a.2)) (Â (uM b a.1) fun d=>k (d,(0:Int)))
def JW (a:Val Ä) (b:Int):Option (Val jn):=RW a b some
def wK (a:Val ab) (b:Val ak) (c:(Val (.ptr Î))) (k:Int→Option ρ):Option ρ :=
  ifb (ieq (Ô a) 0) (k (0:Int)) (û a (0:Int) fun d=>Â (š b (d,c.2.1)) fun e=>k e)
def mM (a:Val ab) (b:Val ak) (c:(Val (.ptr Î))):Option (Int):=wK a b c some
def wJ (b:Int) (c:Int) (a:Val ak) (d:(Val (.ptr tI))) (e:Val aV) (f:(Val (.ptr tI))) (k:Val ğ→Option ρ):Option ρ :=
  Â (É a b c) fun g=>Â (É a d c) fun h=>ck (h+e.2) fun i=>Â (É a b f) fun j=>ck (i+j) fun l=>Â (É a f c) fun m=>ck (m-e.1) fun n=>Â (É a b d) fun o=>ck (n+o) fun p=>k (g,l,p)
def mL (a:Int) (b:Int) (c:Val ak) (d:(Val (.ptr tI))) (e:Val aV) (f:(Val (.ptr tI))):Option (Val ğ):=wJ a b c d e f some
def kB (f:Int) (g:Val aa) (h:Val ai) (i:Int) (a:Int) (b:Val ai) (c:Int→Val ai→Option ρ) (j:Val ai→Option ρ):Option ρ :=
  ifb (ilt a i) (û h a fun d=>û g a fun e=>ifb (!((ĩ e.1 (3:Int))&&((ĩ e.2 f)&&true))) (ç (è ((List.length b)+(List.length ([d])))) (ck (a+(1:Int)) fun k=>c k (b++([d])))) (ck (a+(1:Int)) fun l=>c l b)) (j b)
def F0 (f:Val ak) (o:Val Ã) (a:Val Î) (k:(Val (.pair ŭ tI))→Option ρ):Option ρ :=
  Â (uP f.1 a) fun e=>ifb (ine e.2 0) (k ((((0:Int),(0:Int)),((0:Int),(0:Int),(0:Int)),(0:Int),(0:Int),(0:Int)),e.2)) (Â (nE f.1 (a.1,a.2.1,a.2.2.1,a.2.2.2.1,(0:Int),a.2.2.2.2.2)) fun b=>ifb (ine b.2 0) (k ((((0:Int),(0:Int)),((0:Int),(0:Int),(0:Int)),(0:Int),(0:Int),(0:Int)),b.2)) (ck ((Ô b.1.2.2.2.2.1)-(1:Int)) fun g=>Â (JW b.1 g) fun h=>Â (s7 a.2.2.1 a.2.2.2.1) fun i=>Â (Đ b.1) fun c=>Í (fun(j:Val Ð) p=>kB g c.2.1 c.1.2 (Ô c.1.2) j.1 j.2 (fun q r=>p (q,r)) (fun d=>Â (mM i.1 (b.1,c.1.1,d) (a.1,a.2.1,a.2.2.1,a.2.2.2.1,(0:Int),a.2.2.2.2.2)) fun l=>Â (mM i.2.1 (b.1,c.1.1,d) (a.1,a.2.1,a.2.2.1,a.2.2.2.1,(0:Int),a.2.2.2.2.2)) fun m=>Â (š (b.1,c.1.1,d) o) fun n=>Â (mL n (0:Int) (b.1,c.1.1,d) m h.1 l) fun s=>Â (mL (0:Int) n (b.1,c.1.1,d) m h.1 l) fun t=>k ((e.1,s,t),(0:Int)))) ((0:Int),[])))
def sU (a:Val ak) (b:Val Ã) (c:Val Î):Option ((Val (.pair ŭ tI))):=F0 a b c some
def tM (a:Val ğ) (k:Val ab→Option ρ):Option ρ :=
  ck (a.2.2-a.2.1) fun c=>ck (Int.tdiv c (2:Int)) fun b=>ck (a.1-a.2.1) fun d=>ck (a.2.2-a.1) fun e=>ck (b-1) fun f=>ck (b+1) fun g=>k ([d,e,b,f,g])
def iq (a:Val ğ):Option ((Val ab)):=tM a some
def F3 (a:Val ğ) (b:Int) (k:Int→Option ρ):Option ρ :=
  ck (a.2.1+b) fun c=>ck (a.2.2-b) fun d=>k (Cb (Cb a.1 c) d)
def sW (a:Val ğ) (b:Int):Option (Int):=F3 a b some
def qN (a:Val ŭ) (b:Int) (k:Val Ã→Option ρ):Option ρ :=
  Â (sW a.2.2 b) fun c=>ck (0-c) fun d=>Â (sW a.2.1 b) fun e=>k (d,e)
def Ŏ (a:Val ŭ) (b:Int):Option (Val Ã):=qN a b some
def gP (d:Int) (e:Int) (f:Int) (a:Int) (b:Val ab) (c:Int→Val ab→Option ρ) (g:Val ab→Option ρ):Option ρ :=
  ck (d+(2:Int)) fun h=>ifb (ile a h) (ifb (igt a e) (ifb (ilt a f) (ç (è ((List.length b)+(List.length ([a])))) (ck (a+(1:Int)) fun i=>c i (b++([a])))) (ck (a+(1:Int)) fun j=>c j b)) (ck (a+(1:Int)) fun k=>c k b)) (g b)
def jb (e:Val ab) (f:Int) (g:Int) (h:Int) (a:Int) (b:Val ab) (i:Int→Val ab→Option ρ) (j:Val ab→Option ρ):Option ρ :=
  ifb (ilt a f) (û e a fun c=>ck (c-(2:Int)) fun k=>Í (fun(d:Val az) l=>gP c g h d.1 d.2 (fun m n=>l (m,n)) (fun o=>ck (a+(1:Int)) fun p=>i p o)) (k,b)) (j b)
def qO (a:Val ŭ) (b:Val ab) (k:Val ab→Option ρ):Option ρ :=
  Í (fun(c:Val az) d=>jb b (Ô b) a.1.1 a.1.2 c.1 c.2 (fun e f=>d (e,f)) (fun g=>k g)) ((0:Int),[a.1.1,a.1.2])
def ju (a:Val ŭ) (b:Val ab):Option ((Val ab)):=qO a b some
def iN (d:Val ab) (e:Int) (f:Int) (g:Int) (h:Int) (i:Int) (j:Int) (k:Int) (l:Int) (m:Int) (b:Int) (a:Int) (n:Int→Int→Option ρ) (o:Int→Option ρ):Option ρ :=
  ifb (ilt a e) (û d a fun p=>Â (Ŏ ((f,g),(h,i,j),k,l,m) p) fun c=>ck (c.2-c.1) fun q=>ck (a+(1:Int)) fun r=>n (Ir b q) r) (o b)
def ot (a:Val ŭ) (k:Int→Option ρ):Option ρ :=
  Â (iq a.2.1) fun d=>Â (iq a.2.2) fun e=>Â (ì ([d,e])) fun f=>Â (ju a f) fun b=>Í (fun(c:Val Ã) g=>iN b (Ô b) a.1.1 a.1.2 a.2.1.1 a.2.1.2.1 a.2.1.2.2 a.2.2.1 a.2.2.2.1 a.2.2.2.2 c.1 c.2 (fun h i=>g (h,i)) (fun j=>k j)) ((-1:Int),(0:Int))
def kK (a:Val ŭ):Option (Int):=ot a some
def wN (m:Int) (j:Val aa) (b:Int) (c:Int) (d:Int) (e:Val ae) (f:Val aa) (g:Val af) (h:Val ac) (i:Val aa) (k:Int→Int→Int→Val ae→Val aa→Val af→Val ac→Val aa→Option ρ) (n:Val aE→Option ρ) (o:Val aj→Option ρ):Option ρ :=
  ifb (ilt b m) (ç ((ile 0 b)&&(ilt b (ą j))) (ĭ j (Int.toNat b) fun l=>Â (ĝ ((c,d),e,f,g,h,i) l) fun p=>ifb (ieq p.2 0) (ck (b+(1:Int)) fun q=>k q c d e f g h i) (Â (ŷ ((c,d),e,f,g,h,i) l) fun a=>ifb (ine a.2 0) (n (a.2,c,d,e,f,g,h,i)) (ck (b+(1:Int)) fun r=>k r a.1.1.1 a.1.1.2 a.1.2.1 a.1.2.2.1 a.1.2.2.2.1 a.1.2.2.2.2.1 a.1.2.2.2.2.2)))) (o (c,d,e,f,g,h,i))
def K7 (a:Val Ä) (e:Val Ã) (i:Val Î) (k:Val Ã→Option ρ):Option ρ :=
  Â (ñ a) fun f=>ifb (ine f 0) (ç (ine f 0) (k ((0:Int),f))) (Í (fun(b:Val aE) j=>wN (Ô ([e])) ([e]) b.1 b.2.1 b.2.2.1 b.2.2.2.1 b.2.2.2.2.1 b.2.2.2.2.2.1 b.2.2.2.2.2.2.1 b.2.2.2.2.2.2.2 (fun l m n o p q r s=>j (l,m,n,o,p,q,r,s)) (fun h=>ç (ine h.1 0) (k ((0:Int),h.1))) (fun c=>Â (Đ ((c.1,c.2.1),c.2.2)) fun d=>ifb (ine d.2.2 0) (ç (ine d.2.2 0) (k ((0:Int),d.2.2))) (Â (þ d.1) fun t=>ifb (!t.1) (k ((0:Int),(9:Int))) (Â (sU (((c.1,c.2.1),c.2.2),d.1) e i) fun g=>ifb (ine g.2 0) (k ((0:Int),g.2)) (Â (kK g.1) fun u=>k (u,(0:Int))))))) ((0:Int),a.1.1,a.1.2,a.2.1,a.2.2.1,a.2.2.2.1,a.2.2.2.2.1,a.2.2.2.2.2))
def xI (a:Val Ä) (b:Val Ã) (c:Val Î):Option (Val Ã):=K7 a b c some
def tQ (a:Int) (k:Int→Option ρ):Option ρ :=
  k (Ir (-288230376151711744:Int) (Cb a (288230376151711744:Int)))
def kL (a:Int):Option (Int):=tQ a some
def tN (a:Val ğ) (b:Int) (k:Val ab→Option ρ):Option ρ :=
  ck (b-a.2.1) fun c=>ck (a.2.2-b) fun d=>k ([c,d])
def ir (a:Val ğ) (b:Int):Option ((Val ab)):=tN a b some
def qS (m:Int) (j:Val aa) (b:Int) (c:Int) (d:Int) (e:Val ae) (f:Val aa) (g:Val af) (h:Val ac) (i:Val aa) (k:Int→Int→Int→Val ae→Val aa→Val af→Val ac→Val aa→Option ρ) (n:Val aE→Option ρ) (o:Val aj→Option ρ):Option ρ :=
  ifb (ilt b m) (ç ((ile 0 b)&&(ilt b (ą j))) (ĭ j (Int.toNat b) fun l=>Â (ĝ ((c,d),e,f,g,h,i) l) fun p=>ifb (ieq p.2 0) (ck (b+(1:Int)) fun q=>k q c d e f g h i) (Â (ŷ ((c,d),e,f,g,h,i) l) fun a=>ifb (ine a.2 0) (n (a.2,c,d,e,f,g,h,i)) (ck (b+(1:Int)) fun r=>k r a.1.1.1 a.1.1.2 a.1.2.1 a.1.2.2.1 a.1.2.2.2.1 a.1.2.2.2.2.1 a.1.2.2.2.2.2)))) (o (c,d,e,f,g,h,i))
def l8 (b:Val ab) (c:Int) (d:Int) (e:Int) (f:Int) (g:Int) (h:Int) (i:Int) (j:Int) (k:Int) (l:Int) (m:Int) (a:Int) (n:Int→Option ρ) (o:Int→Option ρ) (p:Unit→Option ρ):Option ρ :=
  ifb (ilt a c) (û b a fun q=>Â (Ŏ ((f,g),(h,i,j),k,l,m) q) fun r=>Â (oY r (d,e)) fun s=>ifb (ieq s 3) (o a) (ck (a+(1:Int)) fun t=>n t)) (p ())
def By (c:Val Ä) (g:Val Ã) (b:Val Ã) (n:Val Î) (k:Val aI→Option ρ):Option ρ :=
  Â (ñ c) fun h=>ifb (ine h 0) (ifb (ine h 0) (k (false,h)) (ç (igt b.1 b.2) (k (false,(1:Int))))) (Í (fun(d:Val aE) o=>qS (Ô ([g])) ([g]) d.1 d.2.1 d.2.2.1 d.2.2.2.1 d.2.2.2.2.1 d.2.2.2.2.2.1 d.2.2.2.2.2.2.1 d.2.2.2.2.2.2.2 (fun p q r s t u v w=>o (p,q,r,s,t,u,v,w)) (fun l=>ifb (ine l.1 0) (k (false,l.1)) (ç (igt b.1 b.2) (k (false,(1:Int))))) (fun e=>Â (Đ ((e.1,e.2.1),e.2.2)) fun f=>ifb (ine f.2.2 0) (ifb (ine f.2.2 0) (k (false,f.2.2)) (ç (igt b.1 b.2) (k (false,(1:Int))))) (Â (þ f.1) fun x=>ifb (!x.1) (k (false,(9:Int))) (ifb (igt b.1 b.2) (k (false,(1:Int))) (Â (sU (((e.1,e.2.1),e.2.2),f.1) g n) fun a=>ifb (ine a.2 0) (k (false,a.2)) (Â (iq a.1.2.1) fun y=>Â (iq a.1.2.2) fun z=>Â (ì ([y,z])) fun A=>Â (kL b.1) fun i=>Â (kL b.2) fun j=>Â (ir a.1.2.1 i) fun B=>ck (0-i) fun C=>Â (ir a.1.2.2 C) fun D=>Â (ì ([A,B,D])) fun E=>Â (ir a.1.2.1 j) fun F=>ck (0-j) fun G=>Â (ir a.1.2.2 G) fun H=>Â (ì ([E,F,H])) fun I=>Â (ju a.1 I) fun m=>Í (fun(J:Int) K=>l8 m (Ô m) i j a.1.1.1 a.1.1.2 a.1.2.1.1 a.1.2.1.2.1 a.1.2.1.2.2 a.1.2.2.1 a.1.2.2.2.1 a.1.2.2.2.2 J (fun L=>K L) (fun M=>k ((!(ige M 0)),(0:Int))) (fun _=>k (true,(0:Int)))) (0:Int))))))) ((0:Int),c.1.1,c.1.2,c.2.1,c.2.2.1,c.2.2.2.1,c.2.2.2.2.1,c.2.2.2.2.2))
def o8 (a:Val Ä) (b:Val Ã) (c:Val Ã) (d:Val Î):Option ((Val aI)):=By a b c d some
def l9 (d:Val ab) (e:Int) (f:Val ai) (a:Int) (g:Int→Option ρ) (b:Int→Option ρ) (h:Unit→Option ρ):Option ρ :=
  ifb (ilt a e) (û d a fun c=>ifb (ilt c 0) (b a) (ifb (ige c (Ô f)) (b a) (ck (a+(1:Int)) fun i=>g i))) (h ())
def BC (b:Val Ð) (a:Val ab) (k:Int→Option ρ):Option ρ :=
  ifb (igt (Ô a) 80) (k (2:Int)) (Í (fun(c:Int) d=>l9 a (Ô a) b.2 c (fun e=>d e) (fun f=>ifb (ige f 0) (k (1:Int)) (k (0:Int))) (fun _=>k (0:Int))) (0:Int))
def o9 (a:Val Ð) (b:Val ab):Option (Int):=BC a b some
def tV (e:Val ab) (f:Int) (g:Val ai) (c:Int) (d:Int) (a:Int) (h:Int→Int→Int→Option ρ) (i:(Val (.pair tI ba))→Option ρ) (j:Val Ã→Option ρ):Option ρ :=
  ifb (ilt a f) (û e a fun k=>û g k fun b=>ifb (ine b.1 c) (i ((0:Int),(0:Int),false)) (ck (d+b.2.2) fun l=>ck (a+(1:Int)) fun m=>h b.2.1 l m)) (j (c,d))
def Rh (e:Val Ð) (f:Int) (c:Val ab) (k:(Val (.pair tI ba))→Option ρ):Option ρ :=
  Í (fun(a:Val ğ) g=>tV c (Ô c) e.2 a.1 a.2.1 a.2.2 (fun h i j=>g (h,i,j)) (fun b=>k (b.1,b.2.1,b.2.2)) (fun d=>k (d.1,d.2,true))) (f,(0:Int),(0:Int))
def E7 (a:Val Ð) (b:Int) (c:Val ab):Option ((Val (.pair tI ba))):=Rh a b c some
def qZ (a:Val Ð) (b:Val ab) (k:Int→Option ρ):Option ρ :=
  Â (kP a) fun d=>ifb (ine d.1 0) (k d.1) (Â (o9 a b) fun e=>ifb (ine e 0) (k e) (ifb (ieq (Ô b) 0) (k (8:Int)) (û b (0:Int) fun g=>û a.2 g fun f=>Â (E7 a f.1 b) fun c=>ifb (!c.2.2) (k (8:Int)) (ifb (ine c.1 f.1) (k (8:Int)) (ifb (ige c.2.1 0) (k (8:Int)) (k (0:Int)))))))
def me (a:Val Ð) (b:Val ab):Option (Int):=qZ a b some
def qU (a:Val ι) (k:Int→Option ρ):Option ρ :=
  Â (ñ a.1) fun b=>ifb (ine b 0) (k b) (ifb (!((ĩ a.2.1.1 (0:Int))&&((ĩ a.2.1.2 (0:Int))&&true))) (k (1:Int)) (ifb a.2.2.1 (k (1:Int)) (ifb (ine a.2.2.2.1 0) (k (1:Int)) (Â (Đ a.1) fun c=>Â (me c.1 a.2.2.2.2) fun d=>ifb (ine d 0) (k (8:Int)) (k (0:Int))))))
def md (a:Val ι):Option (Int):=qU a some
def rc (a:Val Ð) (c:Int) (d:Int) (e:Val ab) (k:Val Ã→Option ρ):Option ρ :=
  Â (kP a) fun f=>ifb (ine f.1 0) (k ((0:Int),f.1)) (Â (qD a c) fun h=>ifb (!h) (k ((0:Int),(1:Int))) (Â (qD a d) fun i=>ifb (!i) (k ((0:Int),(1:Int))) (Â (o9 a e) fun g=>ifb (ine g 0) (k ((0:Int),g)) (Â (E7 a c e) fun b=>ifb (!b.2.2) (k ((0:Int),(8:Int))) (ifb (ine b.1 d) (k ((0:Int),(8:Int))) (k (b.2.1,(0:Int))))))))
def jv (a:Val Ð) (b:Int) (c:Int) (d:Val ab):Option (Val Ã):=rc a b c d some
def tS (a:Val ι) (k:Int→Option ρ):Option ρ :=
  Â (ñ a.1) fun c=>ifb (ine c 0) (k c) (Â (ĝ a.1 a.2.1) fun b=>ifb (ine b.2 0) (k (5:Int)) (Â (Đ a.1) fun d=>ck (0-a.2.2.2.1) fun g=>ifb a.2.2.1 (Â (jv d.1 (0:Int) b.1 a.2.2.2.2) fun e=>ifb (ine e.2 0) (k (8:Int)) (ifb (ine e.1 a.2.2.2.1) (k (8:Int)) (k (0:Int)))) (Â (jv d.1 b.1 (0:Int) a.2.2.2.2) fun f=>ifb (ine f.2 0) (k (8:Int)) (ifb (ine f.1 g) (k (8:Int)) (k (0:Int))))))
def kM (a:Val ι):Option (Int):=tS a some
def ÿ (c:Val ae) (d:Int) (e:Int) (f:Int) (g:Int) (h:Int) (i:Int) (j:Int) (k:Int) (l:Int) (b:Int) (m:Int→Option ρ) (n:Int→Option ρ) (o:Unit→Option ρ):Option ρ :=
  ifb (ilt b d) (û c b fun a=>ifb ((ĩ e a.1)&&((ĩ f a.2.1)&&((ĩ g a.2.2.1)&&((ĩ h a.2.2.2.1.1)&&((ĩ i a.2.2.2.1.2)&&((ĩ j a.2.2.2.2.1.1)&&((ĩ k a.2.2.2.2.1.2)&&((ĩ l a.2.2.2.2.2)&&true)))))))) (n b) (ck (b+(1:Int)) fun p=>m p)) (o ())
def ş (b:Val ae) (a:Val Ï) (k:Int→Option ρ):Option ρ :=
  Í (fun(c:Int) d=>ÿ b (Ô b) a.1 a.2.1 a.2.2.1 a.2.2.2.1.1 a.2.2.2.1.2 a.2.2.2.2.1.1 a.2.2.2.2.1.2 a.2.2.2.2.2 c (fun e=>d e) (fun f=>k f) (fun _=>k (-1:Int))) (0:Int)
def Š (a:Val ae) (b:Val Ï):Option (Int):=ş a b some
def ļ (a:Val ae) (b:Val Ï) (k:Bool→Option ρ):Option ρ :=
  Â (Š a b) fun c=>k (ige c 0)
def Ě (a:Val ae) (b:Val Ï):Option (Bool):=ļ a b some
def Ĕ (c:Val aa) (d:Int) (e:Int) (f:Int) (a:Int) (g:Int→Option ρ) (h:Int→Option ρ) (i:Unit→Option ρ):Option ρ :=
  ifb (ilt a d) (û c a fun b=>ifb ((ĩ e b.1)&&((ĩ f b.2)&&true)) (h a) (ck (a+(1:Int)) fun j=>g j)) (i ())
def Ω (a:Val aa) (b:Val Ã) (k:Int→Option ρ):Option ρ :=
  Í (fun(c:Int) d=>Ĕ a (Ô a) b.1 b.2 c (fun e=>d e) (fun f=>k f) (fun _=>k (-1:Int))) (0:Int)
def ζ (a:Val aa) (b:Val Ã):Option (Int):=Ω a b some
def Ť (a:Val aa) (b:Val Ã) (k:Bool→Option ρ):Option ρ :=
  Â (ζ a b) fun c=>k (ige c 0)
def Ė (a:Val aa) (b:Val Ã):Option (Bool):=Ť a b some
def ć (c:Val af) (d:Int) (e:Int) (f:Int) (g:Int) (h:Int) (a:Int) (i:Int→Option ρ) (j:Int→Option ρ) (k:Unit→Option ρ):Option ρ :=
  ifb (ilt a d) (û c a fun b=>ifb ((ĩ e b.1)&&((ĩ f b.2.1.1)&&((ĩ g b.2.1.2)&&((ĩ h b.2.2)&&true)))) (j a) (ck (a+(1:Int)) fun l=>i l)) (k ())
def Ų (b:Val af) (a:Val Ł) (k:Int→Option ρ):Option ρ :=
  Í (fun(c:Int) d=>ć b (Ô b) a.1 a.2.1.1 a.2.1.2 a.2.2 c (fun e=>d e) (fun f=>k f) (fun _=>k (-1:Int))) (0:Int)
def Ŵ (a:Val af) (b:Val Ł):Option (Int):=Ų a b some
def ő (a:Val af) (b:Val Ł) (k:Bool→Option ρ):Option ρ :=
  Â (Ŵ a b) fun c=>k (ige c 0)
def Ĉ (a:Val af) (b:Val Ł):Option (Bool):=ő a b some
def tK (c:Val ae) (d:Int) (a:Int) (b:Val ao) (e:Int→Val ao→Option ρ) (f:Val ao→Option ρ):Option ρ :=
  ifb (ilt a d) (û c a fun g=>ck (a+(1:Int)) fun h=>e h (JJ (k:=tI) (v:=.bool) g.1 true b)) (f b)
def lN (b:Val ab) (c:Val ab) (d:Int) (a:Int) (e:Int→Option ρ) (f:Bool→Option ρ) (g:Unit→Option ρ):Option ρ :=
  ifb (ilt a d) (û b a fun h=>û c a fun i=>ifb (ine h i) (f false) (ck (a+(1:Int)) fun j=>e j)) (g ())
def tJ (b:Val ab) (c:Val ab) (d:Int) (a:Int) (e:Int→Option ρ) (f:Bool→Option ρ) (g:Unit→Option ρ):Option ρ :=
  ifb (ilt a d) (û b a fun h=>û c a fun i=>ifb (ine h i) (f false) (ck (a+(1:Int)) fun j=>e j)) (g ())
def oM (g:Val ac) (h:Int) (i:Int) (j:Int) (f:Val ab) (d:Val ab) (k:Int) (l:Int) (m:Int) (n:Int) (a:Int) (c:Int→Option ρ) (e:Int→Option ρ) (o:Unit→Option ρ):Option ρ :=
  ifb (ilt a h) (û g a fun b=>ifb (ieq i b.1) (ifb (ieq j b.2.1) (ifb (ieq k b.2.2.2.2.1) (ifb (ieq l b.2.2.2.2.2.1) (ifb ((ĩ m b.2.2.2.2.2.2.1)&&((ĩ n b.2.2.2.2.2.2.2)&&true)) (ifb (ine (Ô f) (Ô b.2.2.1)) (ck (a+(1:Int)) fun p=>c p) (Í (fun(q:Int) r=>lN f b.2.2.1 (Ô f) q (fun s=>r s) (fun t=>ifb t (ifb (ine (Ô d) (Ô b.2.2.2.1)) (ck (a+(1:Int)) fun u=>c u) (Í (fun(v:Int) w=>tJ d b.2.2.2.1 (Ô d) v (fun x=>w x) (fun y=>ifb y (e a) (ck (a+(1:Int)) fun z=>c z)) (fun _=>e a)) (0:Int))) (ck (a+(1:Int)) fun A=>c A)) (fun _=>ifb (ine (Ô d) (Ô b.2.2.2.1)) (ck (a+(1:Int)) fun B=>c B) (Í (fun(C:Int) D=>tJ d b.2.2.2.1 (Ô d) C (fun E=>D E) (fun F=>ifb F (e a) (ck (a+(1:Int)) fun G=>c G)) (fun _=>e a)) (0:Int)))) (0:Int))) (ck (a+(1:Int)) fun H=>c H)) (ck (a+(1:Int)) fun I=>c I)) (ck (a+(1:Int)) fun J=>c J)) (ck (a+(1:Int)) fun K=>c K)) (ck (a+(1:Int)) fun L=>c L)) (o ())
def oN (e:Val ac) (f:Int) (c:Val ac) (b:Int) (g:Int→Option ρ) (d:Bool→Option ρ) (h:Unit→Option ρ):Option ρ :=
  ifb (ilt b f) (û e b fun a=>Í (fun(i:Int) j=>oM c (Ô c) a.1 a.2.1 a.2.2.1 a.2.2.2.1 a.2.2.2.2.1 a.2.2.2.2.2.1 a.2.2.2.2.2.2.1 a.2.2.2.2.2.2.2 i (fun k=>j k) (fun l=>ifb (!(ige l 0)) (d false) (ck (b+(1:Int)) fun m=>g m)) (fun _=>d false)) (0:Int)) (h ())
def oL (b:Val ae) (c:Int) (d:Val ae) (a:Int) (e:Int→Option ρ) (f:Int→Option ρ) (g:Unit→Option ρ):Option ρ :=
  ifb (ilt a c) (û b a fun h=>Â (Ě d h) fun i=>ifb (!i) (f a) (ck (a+(1:Int)) fun j=>e j)) (g ())
def jL (d:Val aa) (e:Int) (f:Val ao) (g:Val aa) (a:Int) (b:Int→Option ρ) (h:Int→Option ρ) (i:Unit→Option ρ):Option ρ :=
  ifb (ilt a e) (û d a fun c=>S6 (k:=tI) (v:=.bool) c.1 f (fun j=>ifb j (Â (Ė g c) fun l=>ifb (!l) (h a) (ck (a+(1:Int)) fun m=>b m)) (ck (a+(1:Int)) fun n=>b n)) (ck (a+(1:Int)) fun o=>b o)) (i ())
def lM (d:Val aa) (e:Int) (f:Val ao) (g:Val aa) (a:Int) (b:Int→Option ρ) (h:Int→Option ρ) (i:Unit→Option ρ):Option ρ :=
  ifb (ilt a e) (û d a fun c=>S6 (k:=tI) (v:=.bool) c.1 f (fun j=>ifb j (Â (Ė g c) fun l=>ifb (!l) (h a) (ck (a+(1:Int)) fun m=>b m)) (ck (a+(1:Int)) fun n=>b n)) (ck (a+(1:Int)) fun o=>b o)) (i ())
def ķ (d:Val af) (e:Int) (f:Val ao) (g:Val af) (a:Int) (b:Int→Option ρ) (h:Int→Option ρ) (i:Unit→Option ρ):Option ρ :=
  ifb (ilt a e) (û d a fun c=>S6 (k:=tI) (v:=.bool) c.1 f (fun j=>ifb j (Â (Ĉ g c) fun l=>ifb (!l) (h a) (ck (a+(1:Int)) fun m=>b m)) (ck (a+(1:Int)) fun n=>b n)) (ck (a+(1:Int)) fun o=>b o)) (i ())
def Ē (d:Val af) (e:Int) (f:Val ao) (g:Val af) (a:Int) (b:Int→Option ρ) (h:Int→Option ρ) (i:Unit→Option ρ):Option ρ :=
  ifb (ilt a e) (û d a fun c=>S6 (k:=tI) (v:=.bool) c.1 f (fun j=>ifb j (Â (Ĉ g c) fun l=>ifb (!l) (h a) (ck (a+(1:Int)) fun m=>b m)) (ck (a+(1:Int)) fun n=>b n)) (ck (a+(1:Int)) fun o=>b o)) (i ())
def QY (b:Val Ä) (a:Val Ä) (k:Bool→Option ρ):Option ρ :=
  Í (fun(d:(Val (.pair tI ao))) e=>tK b.2.1 (Ô b.2.1) d.1 d.2 (fun f g=>e (f,g)) (fun c=>Í (fun(h:Int) i=>oN b.2.2.2.2.1 (Ô b.2.2.2.2.1) a.2.2.2.2.1 h (fun j=>i j) (fun l=>k l) (fun _=>ifb ((ĩ b.1.1 a.1.1)&&((ĩ b.1.2 a.1.2)&&true)) (Í (fun(m:Int) n=>oL b.2.1 (Ô b.2.1) a.2.1 m (fun o=>n o) (fun p=>ifb (!(ige p 0)) (Í (fun(q:Int) r=>jL b.2.2.1 (Ô b.2.2.1) c a.2.2.1 q (fun s=>r s) (fun t=>ifb (!(ige t 0)) (Í (fun(u:Int) v=>lM a.2.2.1 (Ô a.2.2.1) c b.2.2.1 u (fun w=>v w) (fun x=>ifb (!(ige x 0)) (Í (fun(y:Int) z=>ķ b.2.2.2.1 (Ô b.2.2.2.1) c a.2.2.2.1 y (fun A=>z A) (fun B=>ifb (!(ige B 0)) (Í (fun(C:Int) D=>Ē a.2.2.2.1 (Ô a.2.2.2.1) c b.2.2.2.1 C (fun E=>D E) (fun F=>k (!(ige F 0))) (fun _=>k true)) (0:Int)) (k false)) (fun _=>Í (fun(G:Int) H=>Ē a.2.2.2.1 (Ô a.2.2.2.1) c b.2.2.2.1 G (fun I=>H I) (fun J=>k (!(ige J 0))) (fun _=>k true)) (0:Int))) (0:Int)) (k false)) (fun _=>Í (fun(K:Int) L=>ķ b.2.2.2.1 (Ô b.2.2.2.1) c a.2.2.2.1 K (fun M=>L M) (fun N=>ifb (!(ige N 0)) (Í (fun(O:Int) P=>Ē a.2.2.2.1 (Ô a.2.2.2.1) c b.2.2.2.1 O (fun Q=>P Q) (fun R=>k (!(ige R 0))) (fun _=>k true)) (0:Int)) (k false)) (fun _=>Í (fun(S:Int) T=>Ē a.2.2.2.1 (Ô a.2.2.2.1) c b.2.2.2.1 S (fun U=>T U) (fun V=>k (!(ige V 0))) (fun _=>k true)) (0:Int))) (0:Int))) (0:Int)) (k false)) (fun _=>Í (fun(W:Int) X=>lM a.2.2.1 (Ô a.2.2.1) c b.2.2.1 W (fun Y=>X Y) (fun Z=>ifb (!(ige Z 0)) (Í (fun(dc:Int) df=>ķ b.2.2.2.1 (Ô b.2.2.2.1) c a.2.2.2.1 dc (fun dg=>df dg) (fun dh=>ifb (!(ige dh 0)) (Í (fun(di:Int) dj=>Ē a.2.2.2.1 (Ô a.2.2.2.1) c b.2.2.2.1 di (fun dk=>dj dk) (fun dl=>k (!(ige dl 0))) (fun _=>k true)) (0:Int)) (k false)) (fun _=>Í (fun(dm:Int) dn=>Ē a.2.2.2.1 (Ô a.2.2.2.1) c b.2.2.2.1 dm (fun dt=>dn dt) (fun du=>k (!(ige du 0))) (fun _=>k true)) (0:Int))) (0:Int)) (k false)) (fun _=>Í (fun(dv:Int) dw=>ķ b.2.2.2.1 (Ô b.2.2.2.1) c a.2.2.2.1 dv (fun dz=>dw dz) (fun d8=>ifb (!(ige d8 0)) (Í (fun(d9:Int) ee=>Ē a.2.2.2.1 (Ô a.2.2.2.1) c b.2.2.2.1 d9 (fun eh=>ee eh) (fun ez=>k (!(ige ez 0))) (fun _=>k true)) (0:Int)) (k false)) (fun _=>Í (fun(fc:Int) fe=>Ē a.2.2.2.1 (Ô a.2.2.2.1) c b.2.2.2.1 fc (fun ff=>fe ff) (fun fg=>k (!(ige fg 0))) (fun _=>k true)) (0:Int))) (0:Int))) (0:Int))) (0:Int)) (k false)) (fun _=>Í (fun(fh:Int) fi=>jL b.2.2.1 (Ô b.2.2.1) c a.2.2.1 fh (fun fj=>fi fj) (fun fk=>ifb (!(ige fk 0)) (Í (fun(fm:Int) fo=>lM a.2.2.1 (Ô a.2.2.1) c b.2.2.1 fm (fun fp=>fo fp) (fun fq=>ifb (!(ige fq 0)) (Í (fun(ft:Int) fu=>ķ b.2.2.2.1 (Ô b.2.2.2.1) c a.2.2.2.1 ft (fun f0=>fu f0) (fun f6=>ifb (!(ige f6 0)) (Í (fun(f7:Int) f8=>Ē a.2.2.2.1 (Ô a.2.2.2.1) c b.2.2.2.1 f7 (fun f9=>f8 f9) (fun gc=>k (!(ige gc 0))) (fun _=>k true)) (0:Int)) (k false)) (fun _=>Í (fun(gd:Int) gg=>Ē a.2.2.2.1 (Ô a.2.2.2.1) c b.2.2.2.1 gd (fun gh=>gg gh) (fun gi=>k (!(ige gi 0))) (fun _=>k true)) (0:Int))) (0:Int)) (k false)) (fun _=>Í (fun(gj:Int) gk=>ķ b.2.2.2.1 (Ô b.2.2.2.1) c a.2.2.2.1 gj (fun gn=>gk gn) (fun gp=>ifb (!(ige gp 0)) (Í (fun(gq:Int) gr=>Ē a.2.2.2.1 (Ô a.2.2.2.1) c b.2.2.2.1 gq (fun gu=>gr gu) (fun gw=>k (!(ige gw 0))) (fun _=>k true)) (0:Int)) (k false)) (fun _=>Í (fun(gx:Int) gy=>Ē a.2.2.2.1 (Ô a.2.2.2.1) c b.2.2.2.1 gx (fun g8=>gy g8) (fun g9=>k (!(ige g9 0))) (fun _=>k true)) (0:Int))) (0:Int))) (0:Int)) (k false)) (fun _=>Í (fun(ic:Int) ig=>lM a.2.2.1 (Ô a.2.2.1) c b.2.2.1 ic (fun ii=>ig ii) (fun ij=>ifb (!(ige ij 0)) (Í (fun(ik:Int) il=>ķ b.2.2.2.1 (Ô b.2.2.2.1) c a.2.2.2.1 ik (fun ip=>il ip) (fun iq=>ifb (!(ige iq 0)) (Í (fun(ir:Int) iu=>Ē a.2.2.2.1 (Ô a.2.2.2.1) c b.2.2.2.1 ir (fun iv=>iu iv) (fun iw=>k (!(ige iw 0))) (fun _=>k true)) (0:Int)) (k false)) (fun _=>Í (fun(ix:Int) iy=>Ē a.2.2.2.1 (Ô a.2.2.2.1) c b.2.2.2.1 ix (fun iz=>iy iz) (fun i5=>k (!(ige i5 0))) (fun _=>k true)) (0:Int))) (0:Int)) (k false)) (fun _=>Í (fun(i6:Int) i7=>ķ b.2.2.2.1 (Ô b.2.2.2.1) c a.2.2.2.1 i6 (fun i8=>i7 i8) (fun i9=>ifb (!(ige i9 0)) (Í (fun(ja:Int) jb=>Ē a.2.2.2.1 (Ô a.2.2.2.1) c b.2.2.2.1 ja (fun jc=>jb jc) (fun jd=>k (!(ige jd 0))) (fun _=>k true)) (0:Int)) (k false)) (fun _=>Í (fun(je:Int) jf=>Ē a.2.2.2.1 (Ô a.2.2.2.1) c b.2.2.2.1 je (fun jg=>jf jg) (fun jh=>k (!(ige jh 0))) (fun _=>k true)) (0:Int))) (0:Int))) (0:Int))) (0:Int))) (0:Int)) (k false))) (0:Int))) ((0:Int),[])
def EZ (a:Val Ä) (b:Val Ä):Option (Bool):=QY a b some
def F5 (b:Val Ä) (a:Val ι) (k:Val aI→Option ρ):Option ρ :=
  Â (ñ b) fun c=>ifb (ine c 0) (k (false,c)) (ifb ((ĩ a.2.1.1 (0:Int))&&((ĩ a.2.1.2 (0:Int))&&true)) (Â (md a) fun d=>ifb (ine d 0) (k (false,d)) (Â (EZ a.1 b) fun f=>k (f,(0:Int)))) (Â (kM a) fun e=>ifb (ine e 0) (k (false,e)) (Â (EZ a.1 b) fun g=>k (g,(0:Int)))))
def yx (a:Val Ä) (b:Val ι):Option ((Val aI)):=F5 a b some
def A1 (k:Bool→Option ρ):Option ρ :=
  Â xH fun a=>Â (mN a ((2:Int),(10:Int))) fun c=>Â (mN a ((1:Int),(30:Int))) fun d=>Â (uL a ((1:Int),(10:Int)) ((2:Int),(10:Int))) fun e=>Â (E4 a (10:Int) ([(1:Int),(2:Int)])) fun f=>Â (E5 a ((2:Int),(0:Int)) ((990:Int),(1010:Int))) fun g=>Â (uK a ((2:Int),(10:Int)) true) fun b=>ifb (ine c.2 0) (k false) (ifb (ine d.2 0) (k false) (ifb (ine e.2 0) (k false) (ifb (ine f.2 0) (k false) (ifb (ine g.2 0) (k false) (ifb (ine b.2 0) (k false) (ifb (!((ĩ c.1.1 (984:Int))&&((ĩ c.1.2 (1011:Int))&&true))) (k false) (ifb (!((ĩ d.1.1 (964:Int))&&((ĩ d.1.2 (1005:Int))&&true))) (k false) (ifb (!((ĩ e.1.1 (-6:Int))&&((ĩ e.1.2 (11:Int))&&true))) (k false) (ifb (!((ĩ f.1.1 (1979:Int))&&((ĩ f.1.2 (2018:Int))&&true))) (k false) (ifb (ine g.1 3) (k false) (ifb (ine b.1.2.2.2.1 1011) (k false) (Â (xI a ((2:Int),(10:Int)) ((8:Int),(10:Int),[(1:Int)],[(2:Int)],(0:Int),(0:Int),(0:Int),(0:Int))) fun h=>Â (o8 a ((2:Int),(10:Int)) ((900:Int),(1100:Int)) ((8:Int),(10:Int),[(1:Int)],[(2:Int)],(0:Int),(0:Int),(0:Int),(0:Int))) fun i=>Â (yx a b.1) fun j=>Â (E6 a) fun l=>ifb (ieq h.2 0) (ifb (ieq i.2 0) (ifb (ieq j.2 0) (ifb (ieq l.2 5) (ifb (ieq h.1 10) (ifb i.1 (ifb j.1 (Â (kM b.1) fun m=>k (ieq m 0)) (k false)) (k false)) (k false)) (k false)) (k false)) (k false)) (k false)))))))))))))
def õ:Option (Bool):=A1 some
def iA (e:Val ab) (f:Int) (g:Val ak) (c:Val am) (b:Int) (a:Int) (d:Int→Int→Option ρ) (h:Int→Option ρ):Option ρ :=
  ifb (ilt a f) (û e a fun i=>ç ((ile 0 a)&&(ilt a (ą c))) (ĭ c (Int.toNat a) fun j=>ifb (!j) (Â (É g (0:Int) i) fun k=>ck (b+k) fun l=>ck (a+(1:Int)) fun m=>d l m) (ck (a+(1:Int)) fun n=>d b n))) (h b)
def vl (e:Val ab) (f:Int) (g:Val ak) (c:Val am) (b:Int) (a:Int) (d:Int→Int→Option ρ) (h:Int→Option ρ):Option ρ :=
  ifb (ilt a f) (û e a fun i=>ç ((ile 0 a)&&(ilt a (ą c))) (ĭ c (Int.toNat a) fun j=>ifb (!j) (Â (É g (0:Int) i) fun k=>ck (b+k) fun l=>ck (a+(1:Int)) fun m=>d l m) (ck (a+(1:Int)) fun n=>d b n))) (h b)
def vk (e:Val ab) (f:Int) (g:Val ak) (c:Val am) (b:Int) (a:Int) (d:Int→Int→Option ρ) (h:Int→Option ρ):Option ρ :=
  ifb (ilt a f) (û e a fun i=>ç ((ile 0 a)&&(ilt a (ą c))) (ĭ c (Int.toNat a) fun j=>ifb (!j) (Â (É g (0:Int) i) fun k=>ck (b+k) fun l=>ck (a+(1:Int)) fun m=>d l m) (ck (a+(1:Int)) fun n=>d b n))) (h b)
def vh (e:Val ab) (f:Int) (g:Val ak) (c:Val am) (b:Int) (a:Int) (d:Int→Int→Option ρ) (h:Int→Option ρ):Option ρ :=
  ifb (ilt a f) (û e a fun i=>ç ((ile 0 a)&&(ilt a (ą c))) (ĭ c (Int.toNat a) fun j=>ifb (!j) (Â (É g (0:Int) i) fun k=>ck (b+k) fun l=>ck (a+(1:Int)) fun m=>d l m) (ck (a+(1:Int)) fun n=>d b n))) (h b)
def vg (e:Val ab) (f:Int) (g:Val ak) (c:Val am) (b:Int) (a:Int) (d:Int→Int→Option ρ) (h:Int→Option ρ):Option ρ :=
  ifb (ilt a f) (û e a fun i=>ç ((ile 0 a)&&(ilt a (ą c))) (ĭ c (Int.toNat a) fun j=>ifb (!j) (Â (É g (0:Int) i) fun k=>ck (b+k) fun l=>ck (a+(1:Int)) fun m=>d l m) (ck (a+(1:Int)) fun n=>d b n))) (h b)
def vf (e:Val ab) (f:Int) (g:Val ak) (c:Val am) (b:Int) (a:Int) (d:Int→Int→Option ρ) (h:Int→Option ρ):Option ρ :=
  ifb (ilt a f) (û e a fun i=>ç ((ile 0 a)&&(ilt a (ą c))) (ĭ c (Int.toNat a) fun j=>ifb (!j) (Â (É g (0:Int) i) fun k=>ck (b+k) fun l=>ck (a+(1:Int)) fun m=>d l m) (ck (a+(1:Int)) fun n=>d b n))) (h b)
def vd (e:Val ab) (f:Int) (g:Val ak) (c:Val am) (b:Int) (a:Int) (d:Int→Int→Option ρ) (h:Int→Option ρ):Option ρ :=
  ifb (ilt a f) (û e a fun i=>ç ((ile 0 a)&&(ilt a (ą c))) (ĭ c (Int.toNat a) fun j=>ifb (!j) (Â (É g (0:Int) i) fun k=>ck (b+k) fun l=>ck (a+(1:Int)) fun m=>d l m) (ck (a+(1:Int)) fun n=>d b n))) (h b)
def ve (g:Int) (k:Val ab) (l:Int) (c:Val ak) (d:Val ab) (h:Val ab) (e:Int) (a:Int) (b:Val am) (i:Int→Int→Val am→Option ρ) (m:(Val (.pair tI am))→Option ρ):Option ρ :=
  ifb (ilt a l) (û k a fun n=>ç ((ile 0 a)&&(ilt a (ą b))) (ĭ b (Int.toNat a) fun o=>ifb o (ck (a+(1:Int)) fun p=>i e p b) (ç ((ile 0 a)&&(ilt a (ą b))) (ĭ b (Int.toNat a) fun z=>û d g fun q=>Â (É c q n) fun r=>ck (g+(1:Int)) fun f=>ifb (ieq f (Ô d)) (Í (fun(j:Val Ã) s=>vd h (Ô h) c (List.set b (Int.toNat a) true) j.1 j.2 (fun t u=>s (t,u)) (fun v=>ck (r+v) fun w=>ç ((ile 0 a)&&(ilt a (ą (List.set b (Int.toNat a) true)))) (ĭ (List.set b (Int.toNat a) true) (Int.toNat a) fun A=>ck (a+(1:Int)) fun x=>i (Cb e w) x (List.set (List.set b (Int.toNat a) true) (Int.toNat a) false)))) ((0:Int),(0:Int))) (û d f fun y=>Â (É c y (0:Int)) fun B=>ck (f+1) fun C=>none))))) (m (e,b))
def mV (l:Int) (p:Val ab) (q:Int) (d:Val ak) (e:Val ab) (c:Val ab) (f:Int) (a:Int) (b:Val am) (i:Int→Int→Val am→Option ρ) (r:(Val (.pair tI am))→Option ρ):Option ρ :=
  ifb (ilt a q) (û p a fun s=>ç ((ile 0 a)&&(ilt a (ą b))) (ĭ b (Int.toNat a) fun t=>ifb t (ck (a+(1:Int)) fun u=>i f u b) (ç ((ile 0 a)&&(ilt a (ą b))) (ĭ b (Int.toNat a) fun Q=>û e l fun v=>Â (É d v s) fun m=>ck (l+(1:Int)) fun g=>ifb (ieq g (Ô e)) (Í (fun(n:Val Ã) w=>vg c (Ô c) d (List.set b (Int.toNat a) true) n.1 n.2 (fun x y=>w (x,y)) (fun z=>ck (m+z) fun A=>ç ((ile 0 a)&&(ilt a (ą (List.set b (Int.toNat a) true)))) (ĭ (List.set b (Int.toNat a) true) (Int.toNat a) fun R=>ck (a+(1:Int)) fun B=>i (Cb f A) B (List.set (List.set b (Int.toNat a) true) (Int.toNat a) false)))) ((0:Int),(0:Int))) (û e g fun C=>Â (É d C (0:Int)) fun D=>ck (g+1) fun j=>ifb (ieq j (Ô e)) (Í (fun(o:Val Ã) E=>vf c (Ô c) d (List.set b (Int.toNat a) true) o.1 o.2 (fun F G=>E (F,G)) (fun H=>ck (D+H) fun I=>Í (fun(k:Val aB) J=>ve g c (Ô c) d e c k.1 k.2.1 k.2.2 (fun K L M=>J (K,L,M)) (fun h=>ck (m+h.1) fun N=>ç ((ile 0 a)&&(ilt a (ą h.2))) (ĭ h.2 (Int.toNat a) fun S=>ck (a+(1:Int)) fun O=>i (Cb f N) O (List.set h.2 (Int.toNat a) false)))) (I,(0:Int),(List.set b (Int.toNat a) true)))) ((0:Int),(0:Int))) (û e j fun P=>Â (É d P (0:Int)) fun T=>ck (j+1) fun U=>none)))))) (r (f,b))
def rZ (e:Val ab) (f:Int) (g:Val ak) (c:Val am) (b:Int) (a:Int) (d:Int→Int→Option ρ) (h:Int→Option ρ):Option ρ :=
  ifb (ilt a f) (û e a fun i=>ç ((ile 0 a)&&(ilt a (ą c))) (ĭ c (Int.toNat a) fun j=>ifb (!j) (Â (É g (0:Int) i) fun k=>ck (b+k) fun l=>ck (a+(1:Int)) fun m=>d l m) (ck (a+(1:Int)) fun n=>d b n))) (h b)
def rX (e:Val ab) (f:Int) (g:Val ak) (c:Val am) (b:Int) (a:Int) (d:Int→Int→Option ρ) (h:Int→Option ρ):Option ρ :=
  ifb (ilt a f) (û e a fun i=>ç ((ile 0 a)&&(ilt a (ą c))) (ĭ c (Int.toNat a) fun j=>ifb (!j) (Â (É g (0:Int) i) fun k=>ck (b+k) fun l=>ck (a+(1:Int)) fun m=>d l m) (ck (a+(1:Int)) fun n=>d b n))) (h b)
def rY (g:Int) (k:Val ab) (l:Int) (c:Val ak) (d:Val ab) (h:Val ab) (e:Int) (a:Int) (b:Val am) (i:Int→Int→Val am→Option ρ) (m:(Val (.pair tI am))→Option ρ):Option ρ :=
  ifb (ilt a l) (û k a fun n=>ç ((ile 0 a)&&(ilt a (ą b))) (ĭ b (Int.toNat a) fun o=>ifb o (ck (a+(1:Int)) fun p=>i e p b) (ç ((ile 0 a)&&(ilt a (ą b))) (ĭ b (Int.toNat a) fun z=>û d g fun q=>Â (É c q n) fun r=>ck (g+(1:Int)) fun f=>ifb (ieq f (Ô d)) (Í (fun(j:Val Ã) s=>rX h (Ô h) c (List.set b (Int.toNat a) true) j.1 j.2 (fun t u=>s (t,u)) (fun v=>ck (r+v) fun w=>ç ((ile 0 a)&&(ilt a (ą (List.set b (Int.toNat a) true)))) (ĭ (List.set b (Int.toNat a) true) (Int.toNat a) fun A=>ck (a+(1:Int)) fun x=>i (Cb e w) x (List.set (List.set b (Int.toNat a) true) (Int.toNat a) false)))) ((0:Int),(0:Int))) (û d f fun y=>Â (É c y (0:Int)) fun B=>ck (f+1) fun C=>none))))) (m (e,b))
def jA (q:Int) (w:Val ab) (x:Int) (d:Val ak) (e:Val ab) (b:Val ab) (f:Int) (a:Int) (c:Val am) (h:Int→Int→Val am→Option ρ) (y:(Val (.pair tI am))→Option ρ):Option ρ :=
  ifb (ilt a x) (û w a fun z=>ç ((ile 0 a)&&(ilt a (ą c))) (ĭ c (Int.toNat a) fun A=>ifb A (ck (a+(1:Int)) fun B=>h f B c) (ç ((ile 0 a)&&(ilt a (ą c))) (ĭ c (Int.toNat a) fun dz=>û e q fun C=>Â (É d C z) fun l=>ck (q+(1:Int)) fun g=>ifb (ieq g (Ô e)) (Í (fun(r:Val Ã) D=>vk b (Ô b) d (List.set c (Int.toNat a) true) r.1 r.2 (fun E F=>D (E,F)) (fun G=>ck (l+G) fun H=>ç ((ile 0 a)&&(ilt a (ą (List.set c (Int.toNat a) true)))) (ĭ (List.set c (Int.toNat a) true) (Int.toNat a) fun d8=>ck (a+(1:Int)) fun I=>h (Cb f H) I (List.set (List.set c (Int.toNat a) true) (Int.toNat a) false)))) ((0:Int),(0:Int))) (û e g fun J=>Â (É d J (0:Int)) fun s=>ck (g+1) fun i=>ifb (ieq i (Ô e)) (Í (fun(t:Val Ã) K=>vh b (Ô b) d (List.set c (Int.toNat a) true) t.1 t.2 (fun L M=>K (L,M)) (fun N=>ck (s+N) fun O=>Í (fun(m:Val aB) P=>mV g b (Ô b) d e b m.1 m.2.1 m.2.2 (fun Q R S=>P (Q,R,S)) (fun j=>ck (l+j.1) fun T=>ç ((ile 0 a)&&(ilt a (ą j.2))) (ĭ j.2 (Int.toNat a) fun d9=>ck (a+(1:Int)) fun U=>h (Cb f T) U (List.set j.2 (Int.toNat a) false)))) (O,(0:Int),(List.set c (Int.toNat a) true)))) ((0:Int),(0:Int))) (û e i fun V=>Â (É d V (0:Int)) fun W=>ck (i+1) fun n=>ifb (ieq n (Ô e)) (Í (fun(u:Val Ã) X=>rZ b (Ô b) d (List.set c (Int.toNat a) true) u.1 u.2 (fun Y Z=>X (Y,Z)) (fun dc=>ck (W+dc) fun df=>Í (fun(o:Val aB) dg=>rY i b (Ô b) d e b o.1 o.2.1 o.2.2 (fun dh di dj=>dg (dh,di,dj)) (fun v=>ck (s+v.1) fun dk=>Í (fun(p:Val aB) dl=>mV g b (Ô b) d e b p.1 p.2.1 p.2.2 (fun dm dn dt=>dl (dm,dn,dt)) (fun k=>ck (l+k.1) fun du=>ç ((ile 0 a)&&(ilt a (ą k.2))) (ĭ k.2 (Int.toNat a) fun ee=>ck (a+(1:Int)) fun dv=>h (Cb f du) dv (List.set k.2 (Int.toNat a) false)))) (dk,(0:Int),v.2))) (df,(0:Int),(List.set c (Int.toNat a) true)))) ((0:Int),(0:Int))) (û e n fun dw=>Â (É d dw (0:Int)) fun eh=>ck (n+1) fun ez=>none))))))) (y (f,c))
def rW (e:Val ab) (f:Int) (g:Val ak) (c:Val am) (b:Int) (a:Int) (d:Int→Int→Option ρ) (h:Int→Option ρ):Option ρ :=
  ifb (ilt a f) (û e a fun i=>ç ((ile 0 a)&&(ilt a (ą c))) (ĭ c (Int.toNat a) fun j=>ifb (!j) (Â (É g (0:Int) i) fun k=>ck (b+k) fun l=>ck (a+(1:Int)) fun m=>d l m) (ck (a+(1:Int)) fun n=>d b n))) (h b)
def rV (e:Val ab) (f:Int) (g:Val ak) (c:Val am) (b:Int) (a:Int) (d:Int→Int→Option ρ) (h:Int→Option ρ):Option ρ :=
  ifb (ilt a f) (û e a fun i=>ç ((ile 0 a)&&(ilt a (ą c))) (ĭ c (Int.toNat a) fun j=>ifb (!j) (Â (É g (0:Int) i) fun k=>ck (b+k) fun l=>ck (a+(1:Int)) fun m=>d l m) (ck (a+(1:Int)) fun n=>d b n))) (h b)
def rU (e:Val ab) (f:Int) (g:Val ak) (c:Val am) (b:Int) (a:Int) (d:Int→Int→Option ρ) (h:Int→Option ρ):Option ρ :=
  ifb (ilt a f) (û e a fun i=>ç ((ile 0 a)&&(ilt a (ą c))) (ĭ c (Int.toNat a) fun j=>ifb (!j) (Â (É g (0:Int) i) fun k=>ck (b+k) fun l=>ck (a+(1:Int)) fun m=>d l m) (ck (a+(1:Int)) fun n=>d b n))) (h b)
def rR (e:Val ab) (f:Int) (g:Val ak) (c:Val am) (b:Int) (a:Int) (d:Int→Int→Option ρ) (h:Int→Option ρ):Option ρ :=
  ifb (ilt a f) (û e a fun i=>ç ((ile 0 a)&&(ilt a (ą c))) (ĭ c (Int.toNat a) fun j=>ifb (!j) (Â (É g (0:Int) i) fun k=>ck (b+k) fun l=>ck (a+(1:Int)) fun m=>d l m) (ck (a+(1:Int)) fun n=>d b n))) (h b)
def rS (g:Int) (k:Val ab) (l:Int) (c:Val ak) (d:Val ab) (h:Val ab) (e:Int) (a:Int) (b:Val am) (i:Int→Int→Val am→Option ρ) (m:(Val (.pair tI am))→Option ρ):Option ρ :=
  ifb (ilt a l) (û k a fun n=>ç ((ile 0 a)&&(ilt a (ą b))) (ĭ b (Int.toNat a) fun o=>ifb o (ck (a+(1:Int)) fun p=>i e p b) (ç ((ile 0 a)&&(ilt a (ą b))) (ĭ b (Int.toNat a) fun z=>û d g fun q=>Â (É c q n) fun r=>ck (g+(1:Int)) fun f=>ifb (ieq f (Ô d)) (Í (fun(j:Val Ã) s=>rR h (Ô h) c (List.set b (Int.toNat a) true) j.1 j.2 (fun t u=>s (t,u)) (fun v=>ck (r+v) fun w=>ç ((ile 0 a)&&(ilt a (ą (List.set b (Int.toNat a) true)))) (ĭ (List.set b (Int.toNat a) true) (Int.toNat a) fun A=>ck (a+(1:Int)) fun x=>i (Cb e w) x (List.set (List.set b (Int.toNat a) true) (Int.toNat a) false)))) ((0:Int),(0:Int))) (û d f fun y=>Â (É c y (0:Int)) fun B=>ck (f+1) fun C=>none))))) (m (e,b))
def lJ (l:Int) (p:Val ab) (q:Int) (d:Val ak) (e:Val ab) (c:Val ab) (f:Int) (a:Int) (b:Val am) (i:Int→Int→Val am→Option ρ) (r:(Val (.pair tI am))→Option ρ):Option ρ :=
  ifb (ilt a q) (û p a fun s=>ç ((ile 0 a)&&(ilt a (ą b))) (ĭ b (Int.toNat a) fun t=>ifb t (ck (a+(1:Int)) fun u=>i f u b) (ç ((ile 0 a)&&(ilt a (ą b))) (ĭ b (Int.toNat a) fun Q=>û e l fun v=>Â (É d v s) fun m=>ck (l+(1:Int)) fun g=>ifb (ieq g (Ô e)) (Í (fun(n:Val Ã) w=>rV c (Ô c) d (List.set b (Int.toNat a) true) n.1 n.2 (fun x y=>w (x,y)) (fun z=>ck (m+z) fun A=>ç ((ile 0 a)&&(ilt a (ą (List.set b (Int.toNat a) true)))) (ĭ (List.set b (Int.toNat a) true) (Int.toNat a) fun R=>ck (a+(1:Int)) fun B=>i (Cb f A) B (List.set (List.set b (Int.toNat a) true) (Int.toNat a) false)))) ((0:Int),(0:Int))) (û e g fun C=>Â (É d C (0:Int)) fun D=>ck (g+1) fun j=>ifb (ieq j (Ô e)) (Í (fun(o:Val Ã) E=>rU c (Ô c) d (List.set b (Int.toNat a) true) o.1 o.2 (fun F G=>E (F,G)) (fun H=>ck (D+H) fun I=>Í (fun(k:Val aB) J=>rS g c (Ô c) d e c k.1 k.2.1 k.2.2 (fun K L M=>J (K,L,M)) (fun h=>ck (m+h.1) fun N=>ç ((ile 0 a)&&(ilt a (ą h.2))) (ĭ h.2 (Int.toNat a) fun S=>ck (a+(1:Int)) fun O=>i (Cb f N) O (List.set h.2 (Int.toNat a) false)))) (I,(0:Int),(List.set b (Int.toNat a) true)))) ((0:Int),(0:Int))) (û e j fun P=>Â (É d P (0:Int)) fun T=>ck (j+1) fun U=>none)))))) (r (f,b))
def rQ (e:Val ab) (f:Int) (g:Val ak) (c:Val am) (b:Int) (a:Int) (d:Int→Int→Option ρ) (h:Int→Option ρ):Option ρ :=
  ifb (ilt a f) (û e a fun i=>ç ((ile 0 a)&&(ilt a (ą c))) (ĭ c (Int.toNat a) fun j=>ifb (!j) (Â (É g (0:Int) i) fun k=>ck (b+k) fun l=>ck (a+(1:Int)) fun m=>d l m) (ck (a+(1:Int)) fun n=>d b n))) (h b)
def rO (e:Val ab) (f:Int) (g:Val ak) (c:Val am) (b:Int) (a:Int) (d:Int→Int→Option ρ) (h:Int→Option ρ):Option ρ :=
  ifb (ilt a f) (û e a fun i=>ç ((ile 0 a)&&(ilt a (ą c))) (ĭ c (Int.toNat a) fun j=>ifb (!j) (Â (É g (0:Int) i) fun k=>ck (b+k) fun l=>ck (a+(1:Int)) fun m=>d l m) (ck (a+(1:Int)) fun n=>d b n))) (h b)
def rP (g:Int) (k:Val ab) (l:Int) (c:Val ak) (d:Val ab) (h:Val ab) (e:Int) (a:Int) (b:Val am) (i:Int→Int→Val am→Option ρ) (m:(Val (.pair tI am))→Option ρ):Option ρ :=
  ifb (ilt a l) (û k a fun n=>ç ((ile 0 a)&&(ilt a (ą b))) (ĭ b (Int.toNat a) fun o=>ifb o (ck (a+(1:Int)) fun p=>i e p b) (ç ((ile 0 a)&&(ilt a (ą b))) (ĭ b (Int.toNat a) fun z=>û d g fun q=>Â (É c q n) fun r=>ck (g+(1:Int)) fun f=>ifb (ieq f (Ô d)) (Í (fun(j:Val Ã) s=>rO h (Ô h) c (List.set b (Int.toNat a) true) j.1 j.2 (fun t u=>s (t,u)) (fun v=>ck (r+v) fun w=>ç ((ile 0 a)&&(ilt a (ą (List.set b (Int.toNat a) true)))) (ĭ (List.set b (Int.toNat a) true) (Int.toNat a) fun A=>ck (a+(1:Int)) fun x=>i (Cb e w) x (List.set (List.set b (Int.toNat a) true) (Int.toNat a) false)))) ((0:Int),(0:Int))) (û d f fun y=>Â (É c y (0:Int)) fun B=>ck (f+1) fun C=>none))))) (m (e,b))
def C2 (b:Val ak) (c:Val ab) (a:Val ab) (k:Int→Option ρ):Option ρ :=
  ç ((ile 0 (Ô a))&&(è (Int.toNat (Ô a)))) (ifb (ieq 0 (Ô c)) (Í (fun(l:Val Ã) t=>iA a (Ô a) b (List.replicate (Int.toNat (Ô a)) false) l.1 l.2 (fun u v=>t (u,v)) (fun w=>k w)) ((0:Int),(0:Int))) (û c (0:Int) fun x=>Â (É b x (0:Int)) fun d=>ifb (ieq 1 (Ô c)) (Í (fun(m:Val Ã) y=>vl a (Ô a) b (List.replicate (Int.toNat (Ô a)) false) m.1 m.2 (fun z A=>y (z,A)) (fun B=>ck (d+B) fun C=>Í (fun(e:Val aB) D=>jA (0:Int) a (Ô a) b c a e.1 e.2.1 e.2.2 (fun E F G=>D (E,F,G)) (fun H=>k H.1)) (C,(0:Int),(List.replicate (Int.toNat (Ô a)) false)))) ((0:Int),(0:Int))) (û c (1:Int) fun I=>Â (É b I (0:Int)) fun n=>ifb (ieq 2 (Ô c)) (Í (fun(o:Val Ã) J=>rW a (Ô a) b (List.replicate (Int.toNat (Ô a)) false) o.1 o.2 (fun K L=>J (K,L)) (fun M=>ck (n+M) fun N=>Í (fun(f:Val aB) O=>lJ (1:Int) a (Ô a) b c a f.1 f.2.1 f.2.2 (fun P Q R=>O (P,Q,R)) (fun p=>ck (d+p.1) fun S=>Í (fun(g:Val aB) T=>jA (0:Int) a (Ô a) b c a g.1 g.2.1 g.2.2 (fun U V W=>T (U,V,W)) (fun X=>k X.1)) (S,(0:Int),p.2))) (N,(0:Int),(List.replicate (Int.toNat (Ô a)) false)))) ((0:Int),(0:Int))) (û c (2:Int) fun Y=>Â (É b Y (0:Int)) fun Z=>ifb (ieq 3 (Ô c)) (Í (fun(q:Val Ã) dc=>rQ a (Ô a) b (List.replicate (Int.toNat (Ô a)) false) q.1 q.2 (fun df dg=>dc (df,dg)) (fun dh=>ck (Z+dh) fun di=>Í (fun(h:Val aB) dj=>rP (2:Int) a (Ô a) b c a h.1 h.2.1 h.2.2 (fun dk dl dm=>dj (dk,dl,dm)) (fun r=>ck (n+r.1) fun dn=>Í (fun(i:Val aB) dt=>lJ (1:Int) a (Ô a) b c a i.1 i.2.1 i.2.2 (fun du dv dw=>dt (du,dv,dw)) (fun s=>ck (d+s.1) fun dz=>Í (fun(j:Val aB) d8=>jA (0:Int) a (Ô a) b c a j.1 j.2.1 j.2.2 (fun d9 ee eh=>d8 (d9,ee,eh)) (fun ez=>k ez.1)) (dz,(0:Int),s.2))) (dn,(0:Int),r.2))) (di,(0:Int),(List.replicate (Int.toNat (Ô a)) false)))) ((0:Int),(0:Int))) (û c (3:Int) fun fc=>Â (É b fc (0:Int)) fun fe=>none)))))
def Ρ (a:Val ak) (b:Val ab) (c:Val ab):Option (Int):=C2 a b c some
def kE (b:Val ab) (c:Int) (d:Val ab) (a:Int) (e:Int→Option ρ) (f:Int→Option ρ) (g:Unit→Option ρ):Option ρ :=
  ifb (ilt a c) (û b a fun h=>Â (đ d h) fun i=>ifb i (f a) (ck (a+(1:Int)) fun j=>e j)) (g ())
def kD (l:Val aa) (m:Int) (i:Int) (b:Int) (c:Int) (d:Val ae) (e:Val aa) (f:Val af) (g:Val ac) (h:Val aa) (j:Int→Int→Int→Val ae→Val aa→Val af→Val ac→Val aa→Option ρ) (n:Val aE→Option ρ) (o:Val aj→Option ρ):Option ρ :=
  ifb (ilt i m) (û l i fun k=>Â (ĝ ((b,c),d,e,f,g,h) k) fun p=>ifb (ieq p.2 0) (ck (i+(1:Int)) fun q=>j q b c d e f g h) (Â (ŷ ((b,c),d,e,f,g,h) k) fun a=>ifb (ine a.2 0) (n (a.2,b,c,d,e,f,g,h)) (ck (i+(1:Int)) fun r=>j r a.1.1.1 a.1.1.2 a.1.2.1 a.1.2.2.1 a.1.2.2.2.1 a.1.2.2.2.2.1 a.1.2.2.2.2.2))) (o (b,c,d,e,f,g,h))
def ii (d:Val ak) (e:Val aa) (f:Int) (a:Int) (b:Val ab) (g:Int→Val ab→Option ρ) (h:Val ab→Option ρ):Option ρ :=
  ifb (ilt a f) (û e a fun i=>Â (š d i) fun c=>ç (è ((List.length b)+(List.length ([c])))) (ck (a+(1:Int)) fun j=>g j (b++([c])))) (h b)
def nt (d:Val ak) (e:Val aa) (f:Int) (a:Int) (b:Val ab) (g:Int→Val ab→Option ρ) (h:Val ab→Option ρ):Option ρ :=
  ifb (ilt a f) (û e a fun i=>Â (š d i) fun c=>ç (è ((List.length b)+(List.length ([c])))) (ck (a+(1:Int)) fun j=>g j (b++([c])))) (h b)
def F9 (a:Val Ä) (e:Int) (b:Val ab) (f:Val ab) (k:Val jn→Option ρ):Option ρ :=
  Â (ñ a) fun n=>ifb (ine n 0) (k (((0:Int),(0:Int)),n)) (Í (fun(I:Int) J=>kE b (Ô b) f I (fun K=>J K) (fun L=>Â (qC b (3:Int)) fun M=>ifb (!M) (k (((0:Int),(0:Int)),(1:Int))) (Â (qC f (3:Int)) fun N=>ifb (!N) (k (((0:Int),(0:Int)),(1:Int))) (ck ((Ô b)+(Ô f)) fun O=>ifb (ieq O 0) (k (((0:Int),(0:Int)),(1:Int))) (ifb (ige L 0) (k (((0:Int),(0:Int)),(1:Int))) (Â (sV e) fun P=>ifb (!P) (k (((0:Int),(0:Int)),(1:Int))) (Â (Ţ e ([b,f])) fun o=>Â (ñ a) fun l=>ifb (ine l 0) (ifb (ine l 0) (k (((0:Int),(0:Int)),l)) (Â (Ţ e ([b])) fun gn=>none)) (Í (fun(g:Val aE) Q=>kD o (Ô o) g.1 g.2.1 g.2.2.1 g.2.2.2.1 g.2.2.2.2.1 g.2.2.2.2.2.1 g.2.2.2.2.2.2.1 g.2.2.2.2.2.2.2 (fun R S T U V W X Y=>Q (R,S,T,U,V,W,X,Y)) (fun p=>ifb (ine p.1 0) (k (((0:Int),(0:Int)),p.1)) (Â (Ţ e ([b])) fun gp=>none)) (fun c=>Â (Đ ((c.1,c.2.1),c.2.2)) fun h=>ifb (ine h.2.2 0) (ifb (ine h.2.2 0) (k (((0:Int),(0:Int)),h.2.2)) (Â (Ţ e ([b])) fun gq=>none)) (Â (þ h.1) fun Z=>ifb (!Z.1) (k (((0:Int),(0:Int)),(9:Int))) (Â (Ţ e ([b])) fun q=>Í (fun(r:Val az) dc=>ii (((c.1,c.2.1),c.2.2),h.1) q (Ô q) r.1 r.2 (fun df dg=>dc (df,dg)) (fun s=>Â (Ţ e ([f])) fun t=>Í (fun(u:Val az) dh=>nt (((c.1,c.2.1),c.2.2),h.1) t (Ô t) u.1 u.2 (fun di dj=>dh (di,dj)) (fun v=>ck ((Ô b)-(1:Int)) fun w=>ck ((Ô f)-(1:Int)) fun x=>ck ((Ir (0:Int) w)*a.1.1) fun dk=>ck ((Ir (0:Int) x)*a.1.2) fun dl=>ck (dk-dl) fun dm=>Â (Ρ (((c.1,c.2.1),c.2.2),h.1) v s) fun dn=>ck (dm-dn) fun dt=>ck ((Ir (0:Int) w)*a.1.2) fun du=>ck ((Ir (0:Int) x)*a.1.1) fun dv=>ck (du-dv) fun dw=>Â (Ρ (((c.1,c.2.1),c.2.2),h.1) s v) fun dz=>ck (dw+dz) fun d8=>k ((dt,d8),(0:Int)))) ((0:Int),[]))) ((0:Int),[]))))) ((0:Int),a.1.1,a.1.2,a.2.1,a.2.2.1,a.2.2.2.1,a.2.2.2.2.1,a.2.2.2.2.2)))))))) (fun _=>Â (qC b (3:Int)) fun d9=>ifb (!d9) (k (((0:Int),(0:Int)),(1:Int))) (Â (qC f (3:Int)) fun ee=>ifb (!ee) (k (((0:Int),(0:Int)),(1:Int))) (ck ((Ô b)+(Ô f)) fun eh=>ifb (ieq eh 0) (k (((0:Int),(0:Int)),(1:Int))) (Â (sV e) fun ez=>ifb (!ez) (k (((0:Int),(0:Int)),(1:Int))) (Â (Ţ e ([b,f])) fun y=>Â (ñ a) fun m=>ifb (ine m 0) (ifb (ine m 0) (k (((0:Int),(0:Int)),m)) (Â (Ţ e ([b])) fun gr=>none)) (Í (fun(i:Val aE) fc=>kD y (Ô y) i.1 i.2.1 i.2.2.1 i.2.2.2.1 i.2.2.2.2.1 i.2.2.2.2.2.1 i.2.2.2.2.2.2.1 i.2.2.2.2.2.2.2 (fun fe ff fg fh fi fj fk fm=>fc (fe,ff,fg,fh,fi,fj,fk,fm)) (fun z=>ifb (ine z.1 0) (k (((0:Int),(0:Int)),z.1)) (Â (Ţ e ([b])) fun gu=>none)) (fun d=>Â (Đ ((d.1,d.2.1),d.2.2)) fun j=>ifb (ine j.2.2 0) (ifb (ine j.2.2 0) (k (((0:Int),(0:Int)),j.2.2)) (Â (Ţ e ([b])) fun gw=>none)) (Â (þ j.1) fun fo=>ifb (!fo.1) (k (((0:Int),(0:Int)),(9:Int))) (Â (Ţ e ([b])) fun A=>Í (fun(B:Val az) fp=>ii (((d.1,d.2.1),d.2.2),j.1) A (Ô A) B.1 B.2 (fun fq ft=>fp (fq,ft)) (fun C=>Â (Ţ e ([f])) fun D=>Í (fun(E:Val az) fu=>nt (((d.1,d.2.1),d.2.2),j.1) D (Ô D) E.1 E.2 (fun f0 f6=>fu (f0,f6)) (fun F=>ck ((Ô b)-(1:Int)) fun G=>ck ((Ô f)-(1:Int)) fun H=>ck ((Ir (0:Int) G)*a.1.1) fun f7=>ck ((Ir (0:Int) H)*a.1.2) fun f8=>ck (f7-f8) fun f9=>Â (Ρ (((d.1,d.2.1),d.2.2),j.1) F C) fun gc=>ck (f9-gc) fun gd=>ck ((Ir (0:Int) G)*a.1.2) fun gg=>ck ((Ir (0:Int) H)*a.1.1) fun gh=>ck (gg-gh) fun gi=>Â (Ρ (((d.1,d.2.1),d.2.2),j.1) C F) fun gj=>ck (gi+gj) fun gk=>k ((gd,gk),(0:Int)))) ((0:Int),[]))) ((0:Int),[]))))) ((0:Int),a.1.1,a.1.2,a.2.1,a.2.2.1,a.2.2.2.1,a.2.2.2.2.1,a.2.2.2.2.2)))))))) (0:Int))
def Ę (a:Val Ä) (b:Int) (c:Val ab) (d:Val ab):Option (Val jn):=F9 a b c d some
def ml (j:Val aa) (i:Int) (b:Int) (c:Int) (d:Val ae) (e:Val aa) (f:Val af) (g:Val ac) (h:Val aa) (k:Int) (l:Int) (m:Val ae) (n:Val aa) (o:Val af) (p:Val ac) (q:Val aa) (r:Int→Int→Int→Val ae→Val aa→Val af→Val ac→Val aa→Int→Int→Val ae→Val aa→Val af→Val ac→Val aa→Option ρ) (s:(Val (.pair .bool aA))→Option ρ) (t:Val aA→Option ρ):Option ρ :=
  ifb (ilt i (Ô j)) (û j i fun u=>Â (ĝ ((b,c),d,e,f,g,h) u) fun v=>ifb (ieq v.2 0) (ck (i+(1:Int)) fun w=>r w b c d e f g h k l m n o p q) (û j i fun x=>Â (ŷ ((b,c),d,e,f,g,h) x) fun a=>ifb (ine a.2 0) (s (false,b,c,d,e,f,g,h,b,c,d,e,f,g,h)) (ck (i+(1:Int)) fun y=>r y a.1.1.1 a.1.1.2 a.1.2.1 a.1.2.2.1 a.1.2.2.2.1 a.1.2.2.2.2.1 a.1.2.2.2.2.2 k l m n o p q))) (t (b,c,d,e,f,g,h,k,l,m,n,o,p,q))
def CH (b:Val Ä) (e:Val aa) (k:(Val (.pair Ä .bool))→Option ρ):Option ρ :=
  Í (fun(a:(Val (.pair tI aA))) f=>ml e a.1 a.2.1 a.2.2.1 a.2.2.2.1 a.2.2.2.2.1 a.2.2.2.2.2.1 a.2.2.2.2.2.2.1 a.2.2.2.2.2.2.2.1 a.2.2.2.2.2.2.2.2.1 a.2.2.2.2.2.2.2.2.2.1 a.2.2.2.2.2.2.2.2.2.2.1 a.2.2.2.2.2.2.2.2.2.2.2.1 a.2.2.2.2.2.2.2.2.2.2.2.2.1 a.2.2.2.2.2.2.2.2.2.2.2.2.2.1 a.2.2.2.2.2.2.2.2.2.2.2.2.2.2 (fun g h i j l m n o p q r s t u v=>f (g,h,i,j,l,m,n,o,p,q,r,s,t,u,v)) (fun d=>k (((d.2.2.2.2.2.2.2.2.1,d.2.2.2.2.2.2.2.2.2.1),d.2.2.2.2.2.2.2.2.2.2),d.1)) (fun c=>k (((c.1,c.2.1),c.2.2.1,c.2.2.2.1,c.2.2.2.2.1,c.2.2.2.2.2.1,c.2.2.2.2.2.2.1),true))) ((0:Int),b.1.1,b.1.2,b.2.1,b.2.2.1,b.2.2.2.1,b.2.2.2.2.1,b.2.2.2.2.2,(0:Int),(0:Int),[],[],[],[],[])
def Ο (a:Val Ä) (b:Val aa):Option ((Val (.pair Ä .bool))):=CH a b some
def FR (b:Val Ä) (c:Val Ã) (k:Int→Option ρ):Option ρ :=
  Â (ĝ b c) fun a=>ifb (ine a.2 0) (k (-1:Int)) (ck (a.1-(1:Int)) fun d=>k d)
def j8 (a:Val Ä) (b:Val Ã):Option (Int):=FR a b some
def ō (c:Val aa) (d:Val ab) (g:Int) (h:Int) (i:Val ae) (j:Val aa) (k:Val af) (l:Val ac) (m:Val aa) (e:Int) (a:Int) (n:Int→Int→Option ρ) (f:Val ba→Option ρ) (o:Int→Option ρ):Option ρ :=
  ifb (ilt a (Ô c)) (û c a fun p=>Â (j8 ((g,h),i,j,k,l,m) p) fun b=>ifb (ilt b 0) (f ((0:Int),false)) (ifb (ige b (Ô d)) (f ((0:Int),false)) (û d b fun q=>ck (e+q) fun r=>ck (a+(1:Int)) fun s=>n r s))) (o e)
def yg (a:Val Ä) (b:Val aa) (c:Val ab) (h:Bool) (k:Val ba→Option ρ):Option ρ :=
  ifb h (ck ((Ô b)-(1:Int)) fun i=>ck ((Ir (0:Int) i)*a.1.2) fun j=>Í (fun(d:Val Ã) l=>ō b c a.1.1 a.1.2 a.2.1 a.2.2.1 a.2.2.2.1 a.2.2.2.2.1 a.2.2.2.2.2 d.1 d.2 (fun m n=>l (m,n)) (fun e=>k (e.1,e.2)) (fun o=>k (o,true))) (j,(0:Int))) (ck ((Ô b)-(1:Int)) fun p=>ck ((Ir (0:Int) p)*a.1.1) fun q=>Í (fun(f:Val Ã) r=>ō b c a.1.1 a.1.2 a.2.1 a.2.2.1 a.2.2.2.1 a.2.2.2.2.1 a.2.2.2.2.2 f.1 f.2 (fun s t=>r (s,t)) (fun g=>k (g.1,g.2)) (fun u=>k (u,true))) (q,(0:Int)))
def ġ (a:Val Ä) (b:Val aa) (c:Val ab) (d:Bool):Option ((Val ba)):=yg a b c d some
def gJ (b:Val ab) (c:Int) (a:Int) (d:Int→Option ρ) (e:Int→Option ρ) (f:Unit→Option ρ):Option ρ :=
  ifb (ilt a c) (û b a fun g=>Â (ď g (-4503599627370496:Int) (4503599627370496:Int)) fun h=>ifb (!h) (e a) (ck (a+(1:Int)) fun i=>d i)) (f ())
def lQ (b:Val aF) (a:Val ab) (k:Int→Option ρ):Option ρ :=
  ifb (ine (Ô a) (Ô b.2.1)) (k (1:Int)) (Í (fun(c:Int) d=>gJ a (Ô a) c (fun e=>d e) (fun f=>ifb (ige f 0) (k (1:Int)) (k (0:Int))) (fun _=>k (0:Int))) (0:Int))
def jg (a:Val aF) (b:Val ab):Option (Int):=lQ a b some
def t7 (d:Val ab) (e:Int) (a:Int) (f:Int→Option ρ) (b:Int→Option ρ) (g:Unit→Option ρ):Option ρ :=
  ifb (ilt a e) (û d a fun c=>ifb (ilt c (-1152921504606846976:Int)) (b a) (ifb (igt c 1152921504606846976) (b a) (ck (a+(1:Int)) fun h=>f h))) (g ())
def lP (c:Val ab) (d:Val ai) (e:Int) (a:Int) (f:Int→Option ρ) (g:Val aI→Option ρ) (h:Unit→Option ρ):Option ρ :=
  ifb (ilt a e) (û d a fun b=>û c b.2.1 fun i=>û c b.1 fun j=>ck (j+b.2.2) fun k=>ifb (igt i k) (g (false,(0:Int))) (ck (a+(1:Int)) fun l=>f l)) (h ())
def Ro (b:Val Ð) (a:Val ab) (k:Val aI→Option ρ):Option ρ :=
  Â (kP b) fun c=>ifb (ine c.1 0) (k (false,c.1)) (ifb (ine (Ô a) b.1) (k (false,(1:Int))) (Í (fun(f:Int) g=>t7 a (Ô a) f (fun h=>g h) (fun i=>ifb (ige i 0) (k (false,(1:Int))) (Í (fun(j:Int) l=>lP a b.2 (Ô b.2) j (fun m=>l m) (fun d=>k (d.1,d.2)) (fun _=>û a (0:Int) fun n=>k (ieq n 0,(0:Int)))) (0:Int))) (fun _=>Í (fun(o:Int) p=>lP a b.2 (Ô b.2) o (fun q=>p q) (fun e=>k (e.1,e.2)) (fun _=>û a (0:Int) fun r=>k (ieq r 0,(0:Int)))) (0:Int))) (0:Int)))
def JV (a:Val Ð) (b:Val ab):Option ((Val aI)):=Ro a b some
def rg (b:Val aF) (a:Val ab) (k:Bool→Option ρ):Option ρ :=
  ç (è ((List.length ([(0:Int)]))+(List.length a))) (Â (JV b.2.2.1 (([(0:Int)])++a)) fun c=>k c.1)
def mf (a:Val aF) (b:Val ab):Option (Bool):=rg a b some
def RZ (a:Val Ä) (b:Val ab) (k:Val aI→Option ρ):Option ρ :=
  Â (ñ a) fun c=>ifb (ine c 0) (k (false,c)) (Â (yz a) fun d=>Â (jg d b) fun e=>ifb (ine e 0) (k (false,e)) (Â (mf d b) fun f=>k (f,(0:Int))))
def kQ (a:Val Ä) (b:Val ab):Option ((Val aI)):=RZ a b some
def A2 (a:Int) (b:Val Ã) (k:Bool→Option ρ):Option ρ :=
  ifb (ige a b.1) (k (ile a b.2)) (k false)
def ip (a:Int) (b:Val Ã):Option (Bool):=A2 a b some
def Ń (c:Int) (d:Val ab) (a:Int) (b:Val aa) (f:Int→Val aa→Option ρ) (g:Val aa→Option ρ):Option ρ :=
  ifb (ilt a (Ô d)) (û d a fun e=>ç (è ((List.length b)+(List.length ([(e,c)])))) (ck (a+(1:Int)) fun h=>f h (b++([(e,c)])))) (g b)
def ø (c:Int) (d:Val ab) (a:Int) (b:Val aa) (f:Int→Val aa→Option ρ) (g:Val aa→Option ρ):Option ρ :=
  ifb (ilt a (Ô d)) (û d a fun e=>ç (è ((List.length b)+(List.length ([(e,c)])))) (ck (a+(1:Int)) fun h=>f h (b++([(e,c)])))) (g b)
def jG (b:Val Ä) (c:Int) (f:Val ab) (d:Val ab) (g:Val ab) (h:Bool) (k:Bool→Option ρ):Option ρ :=
  Â (JU b) fun Y=>ifb (!Y) (Â õ fun Z=>k Z) (ifb (igt (Ô f) 6) (Â õ fun r3=>k r3) (ifb (igt (Ô d) 6) (Â õ fun r4=>k r4) (ifb (igt (Ô g) 70) (Â õ fun r5=>k r5) (Â (E4 b c f) fun E=>Â (Ę b c f d) fun a=>Í (fun(F:Val aD) dh=>Ń c f F.1 F.2 (fun di dj=>dh (di,dj)) (fun e=>ifb (ieq E.2 0) (Â (Ο b e) fun n=>Â (ġ n.1 e g h) fun G=>Â (kQ n.1 g) fun H=>ifb (!n.2) (k false) (ifb (ieq H.2 0) (ifb H.1 (ifb (!G.2) (k false) (Â (ip G.1 E.1) fun dk=>ifb (!dk) (k false) (ifb (ine a.2 0) (Â õ fun dl=>k dl) (Í (fun(I:Val aD) dm=>ø c d I.1 I.2 (fun dn dt=>dm (dn,dt)) (fun o=>ç (è (0+(List.length e))) (ç (è ((List.length (([])++e))+(List.length o))) (Â (Ο b ((([])++e)++o)) fun i=>Â (ġ i.1 e g h) fun J=>Â (ġ i.1 o g (!h)) fun K=>Â (kQ i.1 g) fun L=>ifb (!i.2) (k false) (ifb (ieq L.2 0) (ifb L.1 (ifb (!J.2) (k false) (ifb (!K.2) (k false) (ck (J.1-K.1) fun du=>Â (ip du a.1) fun dv=>ifb (!dv) (k false) (Â (Ę b c d f) fun p=>Â õ fun dw=>ifb dw (ifb (ine p.2 0) (k true) (ck ((0:Int)-a.1.2) fun dz=>ck ((0:Int)-a.1.1) fun d8=>k ((ĩ p.1.1 dz)&&((ĩ p.1.2 d8)&&true)))) (k false))))) (Â (Ę b c d f) fun q=>Â õ fun d9=>ifb d9 (ifb (ine q.2 0) (k true) (ck ((0:Int)-a.1.2) fun ee=>ck ((0:Int)-a.1.1) fun eh=>k ((ĩ q.1.1 ee)&&((ĩ q.1.2 eh)&&true)))) (k false))) (Â (Ę b c d f) fun r=>Â õ fun ez=>ifb ez (ifb (ine r.2 0) (k true) (ck ((0:Int)-a.1.2) fun fc=>ck ((0:Int)-a.1.1) fun fe=>k ((ĩ r.1.1 fc)&&((ĩ r.1.2 fe)&&true)))) (k false))))))) ((0:Int),[]))))) (ifb (ine a.2 0) (Â õ fun ff=>k ff) (Í (fun(M:Val aD) fg=>ø c d M.1 M.2 (fun fh fi=>fg (fh,fi)) (fun s=>ç (è (0+(List.length e))) (ç (è ((List.length (([])++e))+(List.length s))) (Â (Ο b ((([])++e)++s)) fun j=>Â (ġ j.1 e g h) fun N=>Â (ġ j.1 s g (!h)) fun O=>Â (kQ j.1 g) fun P=>ifb (!j.2) (k false) (ifb (ieq P.2 0) (ifb P.1 (ifb (!N.2) (k false) (ifb (!O.2) (k false) (ck (N.1-O.1) fun fj=>Â (ip fj a.1) fun fk=>ifb (!fk) (k false) (Â (Ę b c d f) fun t=>Â õ fun fm=>ifb fm (ifb (ine t.2 0) (k true) (ck ((0:Int)-a.1.2) fun fo=>ck ((0:Int)-a.1.1) fun fp=>k ((ĩ t.1.1 fo)&&((ĩ t.1.2 fp)&&true)))) (k false))))) (Â (Ę b c d f) fun u=>Â õ fun fq=>ifb fq (ifb (ine u.2 0) (k true) (ck ((0:Int)-a.1.2) fun ft=>ck ((0:Int)-a.1.1) fun fu=>k ((ĩ u.1.1 ft)&&((ĩ u.1.2 fu)&&true)))) (k false))) (Â (Ę b c d f) fun v=>Â õ fun f0=>ifb f0 (ifb (ine v.2 0) (k true) (ck ((0:Int)-a.1.2) fun f6=>ck ((0:Int)-a.1.1) fun f7=>k ((ĩ v.1.1 f6)&&((ĩ v.1.2 f7)&&true)))) (k false))))))) ((0:Int),[])))) (ifb (ine a.2 0) (Â õ fun f8=>k f8) (Í (fun(Q:Val aD) f9=>ø c d Q.1 Q.2 (fun gc gd=>f9 (gc,gd)) (fun w=>ç (è (0+(List.length e))) (ç (è ((List.length (([])++e))+(List.length w))) (Â (Ο b ((([])++e)++w)) fun l=>Â (ġ l.1 e g h) fun R=>Â (ġ l.1 w g (!h)) fun S=>Â (kQ l.1 g) fun T=>ifb (!l.2) (k false) (ifb (ieq T.2 0) (ifb T.1 (ifb (!R.2) (k false) (ifb (!S.2) (k false) (ck (R.1-S.1) fun gg=>Â (ip gg a.1) fun gh=>ifb (!gh) (k false) (Â (Ę b c d f) fun x=>Â õ fun gi=>ifb gi (ifb (ine x.2 0) (k true) (ck ((0:Int)-a.1.2) fun gj=>ck ((0:Int)-a.1.1) fun gk=>k ((ĩ x.1.1 gj)&&((ĩ x.1.2 gk)&&true)))) (k false))))) (Â (Ę b c d f) fun y=>Â õ fun gn=>ifb gn (ifb (ine y.2 0) (k true) (ck ((0:Int)-a.1.2) fun gp=>ck ((0:Int)-a.1.1) fun gq=>k ((ĩ y.1.1 gp)&&((ĩ y.1.2 gq)&&true)))) (k false))) (Â (Ę b c d f) fun z=>Â õ fun gr=>ifb gr (ifb (ine z.2 0) (k true) (ck ((0:Int)-a.1.2) fun gu=>ck ((0:Int)-a.1.1) fun gw=>k ((ĩ z.1.1 gu)&&((ĩ z.1.2 gw)&&true)))) (k false))))))) ((0:Int),[]))))) (ifb (ine a.2 0) (Â õ fun gx=>k gx) (Í (fun(U:Val aD) gy=>ø c d U.1 U.2 (fun g8 g9=>gy (g8,g9)) (fun A=>ç (è (0+(List.length e))) (ç (è ((List.length (([])++e))+(List.length A))) (Â (Ο b ((([])++e)++A)) fun m=>Â (ġ m.1 e g h) fun V=>Â (ġ m.1 A g (!h)) fun W=>Â (kQ m.1 g) fun X=>ifb (!m.2) (k false) (ifb (ieq X.2 0) (ifb X.1 (ifb (!V.2) (k false) (ifb (!W.2) (k false) (ck (V.1-W.1) fun ic=>Â (ip ic a.1) fun ig=>ifb (!ig) (k false) (Â (Ę b c d f) fun B=>Â õ fun ii=>ifb ii (ifb (ine B.2 0) (k true) (ck ((0:Int)-a.1.2) fun ij=>ck ((0:Int)-a.1.1) fun ik=>k ((ĩ B.1.1 ij)&&((ĩ B.1.2 ik)&&true)))) (k false))))) (Â (Ę b c d f) fun C=>Â õ fun il=>ifb il (ifb (ine C.2 0) (k true) (ck ((0:Int)-a.1.2) fun ip=>ck ((0:Int)-a.1.1) fun iq=>k ((ĩ C.1.1 ip)&&((ĩ C.1.2 iq)&&true)))) (k false))) (Â (Ę b c d f) fun D=>Â õ fun ir=>ifb ir (ifb (ine D.2 0) (k true) (ck ((0:Int)-a.1.2) fun iu=>ck ((0:Int)-a.1.1) fun iv=>k ((ĩ D.1.1 iu)&&((ĩ D.1.2 iv)&&true)))) (k false))))))) ((0:Int),[]))))) ((0:Int),[])))))
def jR (a:Val Ä) (b:Int) (c:Val ab) (d:Val ab) (e:Val ab) (f:Bool):Option (Bool):=jG a b c d e f some
end Go.Proofs.ZzM
end
