/- lemmas -/
import Derived.Test.YtbiecdpaididoaaGreatDoorAmC
set_option linter.all false
noncomputable section
variable {ρ:Type}
set_option maxRecDepth 100000
namespace Go.Proofs.ZzM
open Go Go.Am
abbrev tI:Ty:=.int .i64
abbrev Æ:Ty:=(.pair tI tI)
abbrev Ġ:Ty:=(.pair Æ Æ)
abbrev nP:Ty:=(.pair tI Æ)
abbrev rY:Ty:=(.pair Æ tI)
abbrev Κ:Ty:=(.pair tI rY)
abbrev D5:Ty:=(.pair Ġ tI)
abbrev æ:Ty:=(.pair tI (.slice nP))
abbrev rX:Ty:=(.pair (.slice nP) (.slice Æ))
abbrev Ñ:Ty:=(.pair tI (.pair tI (.pair tI (.pair Æ rY))))
abbrev Ì:Ty:=(.pair tI (.pair tI (.pair (.slice tI) (.pair (.slice tI) (.pair tI nP)))))
abbrev Ã:Ty:=(.pair Æ (.pair (.slice Ñ) (.pair (.slice Æ) (.pair (.slice Κ) (.pair (.slice Ì) (.slice Æ))))))
abbrev QZ:Ty:=(.pair Ã (.pair (.slice Æ) (.pair æ (.slice Æ))))
abbrev aa:Ty:=(.slice Æ)
abbrev ab:Ty:=(.slice tI)
abbrev ac:Ty:=(.slice Ì)
abbrev ae:Ty:=(.slice Ñ)
abbrev af:Ty:=(.slice Κ)
abbrev ah:Ty:=(.slice nP)
abbrev ai:Ty:=(.pair tI (.pair tI (.pair ae (.pair aa (.pair af (.pair ac aa))))))
abbrev aj:Ty:=(.pair tI (.pair tI (.pair ae (.pair aa (.pair af (.pair ac (.pair aa (.pair tI ai))))))))
abbrev ak:Ty:=(.map tI Ñ)
abbrev am:Ty:=(.map tI .bool)
abbrev ao:Ty:=(.slice .str)
abbrev aq:Ty:=(.pair tI (.pair tI (.pair tI nP)))
abbrev ar:Ty:=(.slice .bool)
abbrev au:Ty:=(.pair tI (.pair tI (.pair ae (.pair aa (.pair af (.pair ac (.pair aa tI)))))))
abbrev aw:Ty:=(.pair tI (.pair tI (.pair tI (.pair ae (.pair aa (.pair af (.pair ac (.pair aa Ì))))))))
abbrev ax:Ty:=(.pair tI (.pair tI (.pair ae (.pair aa (.pair af (.pair ac (.pair aa ai)))))))
abbrev ay:Ty:=(.pair tI ab)
abbrev az:Ty:=(.pair tI (.pair tI (.pair tI (.pair ae (.pair aa (.pair af (.pair ac (.pair aa (.pair tI (.pair tI aq))))))))))
abbrev aB:Ty:=(.ptr QZ)
abbrev aD:Ty:=(.pair ar ab)
abbrev aE:Ty:=(.pair ab (.pair ar (.pair ab ab)))
abbrev aF:Ty:=(.slice ab)
abbrev aG:Ty:=(.pair .str aq)
abbrev aH:Ty:=(.pair Ã tI)
abbrev aI:Ty:=(.pair tI ao)
abbrev aJ:Ty:=(.pair .bool tI)
abbrev aK:Ty:=(.pair tI ai)
abbrev aL:Ty:=(.pair aa (.pair tI (.pair tI (.pair tI aq))))
abbrev aM:Ty:=(.pair Ã Ì)
abbrev aO:Ty:=(.pair Ã (.pair ak tI))
abbrev ag:=Val ab
abbrev an:=Val Ã
abbrev a7:=Val Æ
abbrev bx:=Val aa
abbrev c7:=Val Ì
abbrev c8:=Val ao
abbrev ek:=Val (.map tI Ñ)
abbrev eu:=Val (.pair tI aa)
abbrev ew:=Val ac
abbrev fx:=Val af
abbrev fy:=Val (.pair tI (.pair ab aD))
abbrev ge:=Val ae
abbrev io:=Val (.pair (.int .u64) (.int .u64))
abbrev ly:=Val (.pair ab ab)
abbrev nx:=Val (.pair tI rX)
abbrev nR:=Val ak
abbrev pc:=Val ay
abbrev pi:=Val ah
abbrev pl:=Val (.pair .str tI)
abbrev px:=Val Ġ
abbrev py:=Val æ
abbrev rd:=Val (.pair tI (.slice tI))
abbrev r7:=Val rY
abbrev r8:=Val ar
abbrev th:=Val (.pair ab tI)
abbrev v6:=Val (.pair aa tI)
abbrev v7:=Val (.pair tI aD)
abbrev v8:=Val Κ
abbrev zg:=Val Ñ
abbrev zC:=Val (.pair ab .bool)
abbrev z6:=Val aG
abbrev An:=Val aj
abbrev At:=Val aI
def gF (d:ge) (e:Int) (a:Int) (b:nR) (f:Int->nR->AN ρ) (g:nR->AN ρ):AN ρ :=
  ifb (ilt a e) (Ę d a fun c=>ck (a+(1:Int)) fun h=>f h (Lb (k:=tI) (v:=Ñ) c.1 c b)) (g b)
def yA (a:an) (k:nR->AN ρ):AN ρ :=
  Ù (fun(b:(Val (.pair tI ak))) c=>gF a.2.1 (Û a.2.1) b.1 b.2 (fun d e=>c (d,e)) (fun f=>k f)) ((0:Int),[])
def Ă (a:an):AN (nR):=yA a some
def Ň (b:ag) (c:Int) (d:Int) (a:Int) (e:Int->AN ρ) (f:Int->AN ρ) (g:Unit->AN ρ):AN ρ :=
  ifb (ilt a d) (Ę b a fun h=>ifb (ieq c h) (f a) (ck (a+(1:Int)) fun i=>e i)) (g ())
def lC (a:ag) (b:Int) (k:Int->AN ρ):AN ρ :=
  Ù (fun(c:Int) d=>Ň a b (Û a) c (fun e=>d e) (fun f=>k f) (fun _=>k (-1:Int))) (0:Int)
def Ż (a:ag) (b:Int):AN (Int):=lC a b some
def ix (a:ag) (b:Int) (k:Bool->AN ρ):AN ρ :=
  Â (Ż a b) fun c=>k (ige c 0)
def ā (a:ag) (b:Int):AN (Bool):=ix a b some
def mJ (f:ew) (g:Int) (d:Int) (a:Int) (b:ag) (e:Int->ag->AN ρ) (h:ag->AN ρ):AN ρ :=
  ifb (ilt a g) (Ę f a fun c=>Â (ā c.2.2.1 d) fun i=>Â (ā c.2.2.2.1 d) fun j=>ifb (!(i==j)) (ì (ã ((List.length b)+(List.length ([c.2.1])))) (ck (a+(1:Int)) fun k=>e k (b++([c.2.1])))) (ck (a+(1:Int)) fun l=>e l b)) (h b)
def mI (e:bx) (f:Int) (g:Int) (a:Int) (b:ag) (d:Int->ag->AN ρ) (h:ag->AN ρ):AN ρ :=
  ifb (ilt a f) (Ę e a fun c=>ifb (ieq c.1 g) (ì (ã ((List.length b)+(List.length ([c.2])))) (ck (a+(1:Int)) fun i=>d i (b++([c.2])))) (ck (a+(1:Int)) fun j=>d j b)) (h b)
def IU (a:an) (b:zg) (k:ag->AN ρ):AN ρ :=
  Ù (fun(d:pc) f=>mJ a.2.2.2.2.1 (Û a.2.2.2.2.1) b.1 d.1 d.2 (fun g h=>f (g,h)) (fun i=>Ù (fun(e:pc) j=>mI a.2.2.2.2.2 (Û a.2.2.2.2.2) b.1 e.1 e.2 (fun l m=>j (l,m)) (fun c=>ì (ã (List.length c)) (ì (ã (List.length (sa c))) (k (pM (sa c)))))) ((0:Int),i))) ((0:Int),[b.2.1])
def iP (a:an) (b:zg):AN (ag):=IU a b some
def j6 (e:ag) (f:Int) (c:Int) (a:Int) (b:bx) (g:Int->bx->AN ρ) (h:bx->AN ρ):AN ρ :=
  ifb (ilt a f) (Ę e a fun d=>ì (ã ((List.length b)+(List.length ([(c,d)])))) (ck (a+(1:Int)) fun i=>g i (b++([(c,d)])))) (h b)
def j7 (f:ge) (g:Int) (h:Int) (i:Int) (j:ge) (k:bx) (l:fx) (m:ew) (n:bx) (a:Int) (b:bx) (o:Int->bx->AN ρ) (p:bx->AN ρ):AN ρ :=
  ifb (ilt a g) (Ę f a fun c=>Â (iP ((h,i),j,k,l,m,n) c) fun d=>Ù (fun(e:eu) q=>j6 d (Û d) c.1 e.1 e.2 (fun r s=>q (r,s)) (fun t=>ck (a+(1:Int)) fun u=>o u t)) ((0:Int),b)) (p b)
def Fk (a:an) (k:bx->AN ρ):AN ρ :=
  Ù (fun(b:eu) c=>j7 a.2.1 (Û a.2.1) a.1.1 a.1.2 a.2.1 a.2.2.1 a.2.2.2.1 a.2.2.2.2.1 a.2.2.2.2.2 b.1 b.2 (fun d e=>c (d,e)) (fun f=>k f)) ((0:Int),[])
def jy (a:an):AN (bx):=Fk a some
def BG (a:a7) (b:Int) (c:Int) (k:Bool->AN ρ):AN ρ :=
  ifb (ile b a.1) (ifb (ile a.1 a.2) (k (ile a.2 c)) (k false)) (k false)
def ĺ (a:a7) (b:Int) (c:Int):AN (Bool):=BG a b c some
def BC (a:Int) (b:Int) (c:Int) (k:Bool->AN ρ):AN ρ :=
  ifb (ile b a) (k (ile a c)) (k false)
def ó (a:Int) (b:Int) (c:Int):AN (Bool):=BC a b c some
def Fl (a:Int) (k:Bool->AN ρ):AN ρ :=
  Â (ó a (0:Int) (20000:Int)) fun b=>k b
def Ρ (a:Int):AN (Bool):=Fl a some
def IK (a:Int) (k:Int->AN ρ):AN ρ :=
  ifb (ilt a 0) (k (IntKind.wrap .u64 (0-(IntKind.wrap .u64 a)))) (k (IntKind.wrap .u64 a))
def kB (a:Int):AN (Int):=IK a some
def pm (b:Int) (a:Int) (c:Int->Int->AN ρ) (d:Int->AN ρ):AN ρ :=
  ifb (ine a 0) (ifb (Β a 0) (none) (c a (Int.tmod b a))) (d b)
def Mr (b:Int) (c:Int) (k:Int->AN ρ):AN ρ :=
  Ù (fun(a:io) d=>pm a.1 a.2 (fun e f=>d (e,f)) (fun g=>k g)) (b,c)
def zr (a:Int) (b:Int):AN (Int):=Mr a b some
def E8 (a:a7) (k:Bool->AN ρ):AN ρ :=
  ifb (ige a.2 1) (ifb (ile a.2 2147483647) (Â (kB a.1) fun b=>ifb (ile b 2147483647) (Â (kB a.1) fun c=>Â (kB a.2) fun d=>Â (zr c d) fun e=>k (ieq e 1)) (k false)) (k false)) (k false)
def lY (a:a7):AN (Bool):=E8 a some
def rB (a:zg) (k:Bool->AN ρ):AN ρ :=
  Â (lY a.2.2.2.2.1) fun b=>ifb b (Â (ó a.2.2.2.2.1.1 (-1000:Int) (1000:Int)) fun c=>ifb c (Â (ó a.1 (1:Int) (1099511627776:Int)) fun d=>ifb d (Â (Ρ a.2.1) fun e=>ifb e (Â (ó a.2.2.1 (1:Int) (1125899906842624:Int)) fun f=>ifb f (Â (ĺ a.2.2.2.1 (-1073741824:Int) (1073741824:Int)) fun g=>ifb g (ifb (ile a.2.2.2.2.1.2 100) (Â (ó a.2.2.2.2.2 (0:Int) (1048576:Int)) fun h=>k h) (k false)) (k false)) (k false)) (k false)) (k false)) (Â (ó a.1 (1:Int) (1099511627776:Int)) fun i=>ifb i (Â (Ρ a.2.1) fun j=>ifb j (Â (ó a.2.2.1 (1:Int) (1125899906842624:Int)) fun l=>ifb l (Â (ĺ a.2.2.2.1 (-1073741824:Int) (1073741824:Int)) fun m=>ifb m (k false) (k false)) (k false)) (k false)) (k false))) (Â (ó a.1 (1:Int) (1099511627776:Int)) fun n=>ifb n (Â (Ρ a.2.1) fun o=>ifb o (Â (ó a.2.2.1 (1:Int) (1125899906842624:Int)) fun p=>ifb p (Â (ĺ a.2.2.2.1 (-1073741824:Int) (1073741824:Int)) fun q=>ifb q (k false) (k false)) (k false)) (k false)) (k false))
def mV (a:zg):AN (Bool):=rB a some
def Ũ (e:ge) (f:Int) (g:ge) (a:Int) (b:Int->AN ρ) (c:Int->AN ρ) (h:Unit->AN ρ):AN ρ :=
  ifb (ilt a f) (Ę e a fun d=>Â (mV d) fun i=>ifb (!i) (c (1:Int)) (ifb (igt a 0) (ck (a-(1:Int)) fun j=>Ę g j fun k=>ifb (ile d.1 k.1) (c (6:Int)) (ck (a+(1:Int)) fun l=>b l)) (ck (a+(1:Int)) fun m=>b m))) (h ())
def oC (a:an) (k:Int->AN ρ):AN ρ :=
  Ù (fun(b:Int) c=>Ũ a.2.1 (Û a.2.1) a.2.1 b (fun d=>c d) (fun e=>k e) (fun _=>k (0:Int))) (0:Int)
def Į (a:an):AN (Int):=oC a some
def qC (a:nR) (b:Int) (c:Int) (k:Int->AN ρ):AN ρ :=
  Gx (k:=tI) (v:=Ñ) b a (fun d=>ifb (ilt c d.2.1) (k (4:Int)) (k (0:Int))) (k (5:Int))
def Ņ (a:nR) (b:Int) (c:Int):AN (Int):=qC a b c some
def yF (b:Int) (a:Int) (c:(Val (.ptr ak))) (k:Int->AN ρ):AN ρ :=
  Â (Ρ a) fun d=>ifb (!d) (k (1:Int)) (Â (Ņ c b a) fun e=>k e)
def Đ (a:Int) (b:Int) (c:(Val (.ptr ak))):AN (Int):=yF a b c some
def ε (d:fx) (e:Int) (f:Int) (g:Int) (h:Int) (a:Int) (b:Int->AN ρ) (i:Int->AN ρ) (j:Unit->AN ρ):AN ρ :=
  ifb (ilt a e) (Ę d a fun c=>ifb (ieq c.1 f) (ifb (ile c.2.1.1 h) (ifb (ile g c.2.1.2) (i a) (ck (a+(1:Int)) fun k=>b k)) (ck (a+(1:Int)) fun l=>b l)) (ck (a+(1:Int)) fun m=>b m)) (j ())
def Ĺ (d:bx) (e:Int) (f:Int) (g:Int) (h:Int) (a:Int) (b:Int->AN ρ) (i:Int->AN ρ) (j:Unit->AN ρ):AN ρ :=
  ifb (ilt a e) (Ę d a fun c=>ifb (ieq c.1 f) (Â (ó c.2 g h) fun k=>ifb k (i a) (ck (a+(1:Int)) fun l=>b l)) (ck (a+(1:Int)) fun m=>b m)) (j ())
def mK (b:an) (e:nR) (c:Int) (k:Int->AN ρ):AN ρ :=
  Ę b.2.2.2.1 c fun a=>Â (ĺ a.2.1 (0:Int) (20000:Int)) fun f=>ifb (!f) (k (1:Int)) (Â (ó a.2.2 (0:Int) (1048576:Int)) fun g=>ifb (!g) (k (1:Int)) (Â (Ņ e a.1 a.2.1.1) fun d=>ifb (ine d 0) (k d) (ì ((ile 0 c)&&(ile c (Č b.2.2.2.1))) (Ù (fun(h:Int) i=>ε (List.take (Int.toNat c) b.2.2.2.1) (Û (List.take (Int.toNat c) b.2.2.2.1)) a.1 a.2.1.1 a.2.1.2 h (fun j=>i j) (fun l=>ifb (ige l 0) (k (9:Int)) (Ù (fun(m:Int) n=>Ĺ b.2.2.1 (Û b.2.2.1) a.1 a.2.1.1 a.2.1.2 m (fun o=>n o) (fun p=>ifb (ige p 0) (k (9:Int)) (k (0:Int))) (fun _=>k (0:Int))) (0:Int))) (fun _=>Ù (fun(q:Int) r=>Ĺ b.2.2.1 (Û b.2.2.1) a.1 a.2.1.1 a.2.1.2 q (fun s=>r s) (fun t=>ifb (ige t 0) (k (9:Int)) (k (0:Int))) (fun _=>k (0:Int))) (0:Int))) (0:Int)))))
def ľ (a:an) (b:nR) (c:Int):AN (Int):=mK a b c some
def mH (c:Int) (d:ag) (b:ag) (a:Int) (e:Int->AN ρ) (f:Int->AN ρ) (g:Unit->AN ρ):AN ρ :=
  ifb (ilt a c) (ì ((ile 0 a)&&(ilt a (Č b))) (Ω b (Int.toNat a) fun h=>Â (ā d h) fun i=>ifb i (f a) (ck (a+(1:Int)) fun j=>e j))) (g ())
def π (f:ag) (b:Int) (c:Int) (a:ag) (d:Int->Int->ag->AN ρ) (g:pc->AN ρ):AN ρ :=
  ifb (ilt c (Û a)) (ì ((ile 0 c)&&(ilt c (Č a))) (Ω a (Int.toNat c) fun e=>Â (ā f e) fun h=>ifb (!h) (ì ((ile 0 b)&&(ilt b (Č a))) (Ω a (Int.toNat b) fun l=>ck (b+(1:Int)) fun i=>ck (c+(1:Int)) fun j=>d i j (List.set a (Int.toNat b) e))) (ck (c+(1:Int)) fun k=>d b k a))) (g (b,a))
def IT (b:ag) (e:ag) (k:ag->AN ρ):AN ρ :=
  ì (ã (List.length b)) (Ù (fun(f:Int) g=>mH (Û b) e b f (fun h=>g h) (fun c=>ifb (ieq c (-1:Int)) (k b) (ck (c+(1:Int)) fun i=>Ù (fun(d:(Val (.pair tI ay))) j=>π e d.1 d.2.1 d.2.2 (fun l m n=>j (l,m,n)) (fun a=>ì ((ile 0 a.1)&&(ile a.1 (Č a.2))) (ì ((ile 0 a.1)&&(ile a.1 (Č (List.take (Int.toNat a.1) a.2++List.replicate (List.length a.2-(Int.toNat a.1)) (0:Int)++List.drop ((Int.toNat a.1)+(List.length a.2-(Int.toNat a.1))) a.2)))) (k (List.take (Int.toNat a.1) (List.drop 0 (List.take (Int.toNat a.1) a.2++List.replicate (List.length a.2-(Int.toNat a.1)) (0:Int)++List.drop ((Int.toNat a.1)+(List.length a.2-(Int.toNat a.1))) a.2))))))) (c,i,b))) (fun _=>k b)) (0:Int))
def Ī (a:ag) (b:ag):AN (ag):=IT a b some
def iI (e:ag) (f:ag) (g:Int) (a:Int) (b:Int->AN ρ) (c:Bool->AN ρ) (h:Unit->AN ρ):AN ρ :=
  ifb (ilt a g) (Ę f a fun d=>Â (ó d (1:Int) (1099511627776:Int)) fun i=>ifb (!i) (c false) (ifb (igt a 0) (ck (a-(1:Int)) fun j=>Ę e j fun k=>ifb (ile d k) (c false) (ck (a+(1:Int)) fun l=>b l)) (ck (a+(1:Int)) fun m=>b m))) (h ())
def BF (a:ag) (k:Bool->AN ρ):AN ρ :=
  Ù (fun(b:Int) c=>iI a a (Û a) b (fun d=>c d) (fun e=>k e) (fun _=>k (ile (Û a) 6))) (0:Int)
def gA (a:ag):AN (Bool):=BF a some
def ļ (d:Val aF) (e:Int) (b:Int) (a:Int) (f:Int->Int->AN ρ) (g:Int->AN ρ):AN ρ :=
  ifb (ilt a e) (Ę d a fun h=>ck (b+(Û h)) fun c=>ifb (ilt c 0) (none) (ck (a+(1:Int)) fun i=>f c i)) (g b)
def þ (d:Val aF) (e:Int) (a:Int) (b:ag) (f:Int->ag->AN ρ) (g:ag->AN ρ):AN ρ :=
  ifb (ilt a e) (Ę d a fun c=>ì (ã ((List.length b)+(List.length c))) (ck (a+(1:Int)) fun h=>f h (b++c))) (g b)
def jR (a:Val aF) (k:ag->AN ρ):AN ρ :=
  Ù (fun(c:a7) g=>ļ a (Û a) c.1 c.2 (fun h i=>g (h,i)) (fun d=>ifb (ilt d 0) (none) (ck (d-(0:Int)) fun b=>ifb (igt b 0) (ì ((ilt 0 b)&&(ã (Int.toNat b))) (ì (ile 0 (Č (List.replicate (Int.toNat b) (0:Int)))) (Ù (fun(e:pc) j=>þ a (Û a) e.1 e.2 (fun l m=>j (l,m)) (fun n=>k n)) ((0:Int),(List.take 0 (List.replicate (Int.toNat b) (0:Int))))))) (Ù (fun(f:pc) o=>þ a (Û a) f.1 f.2 (fun p q=>o (p,q)) (fun r=>k r)) ((0:Int),[]))))) ((0:Int),(0:Int))
def ď (a:Val aF):AN (ag):=jR a some
def mL (d:fx) (e:Int) (f:Int) (g:Int) (a:Int) (c:Int->AN ρ) (h:Int->AN ρ) (i:Unit->AN ρ):AN ρ :=
  ifb (ilt a e) (Ę d a fun b=>ifb (ieq b.1 f) (Â (ó g b.2.1.1 b.2.1.2) fun j=>ifb j (h a) (ck (a+(1:Int)) fun k=>c k)) (ck (a+(1:Int)) fun l=>c l)) (i ())
def IV (a:an) (c:Int) (d:Int) (k:(Val (.pair Κ .bool))->AN ρ):AN ρ :=
  Ù (fun(e:Int) f=>mL a.2.2.2.1 (Û a.2.2.2.1) c d e (fun g=>f g) (fun b=>ifb (ilt b 0) (k (((0:Int),((0:Int),(0:Int)),(0:Int)),false)) (Ę a.2.2.2.1 b fun h=>k (h,true))) (fun _=>k (((0:Int),((0:Int),(0:Int)),(0:Int)),false))) (0:Int)
def iQ (a:an) (b:Int) (c:Int):AN ((Val (.pair Κ .bool))):=IV a b c some
def Ŗ (b:ew) (c:Int) (d:Int) (a:Int) (e:Int->AN ρ) (f:Int->AN ρ) (g:Unit->AN ρ):AN ρ :=
  ifb (ilt a c) (Ę b a fun h=>ifb (ieq h.1 d) (f a) (ck (a+(1:Int)) fun i=>e i)) (g ())
def ŕ (c:nR) (b:Int) (d:ag) (e:Int) (f:Int) (a:Int) (g:Int->AN ρ) (h:Int->AN ρ) (i:Unit->AN ρ):AN ρ :=
  ifb (ilt a e) (Ę d a fun j=>Â (Ņ c j f) fun k=>ifb (ieq k b) (h b) (ck (a+(1:Int)) fun l=>g l)) (i ())
def ĝ (d:nR) (b:ag) (e:Int) (f:Int) (c:ag) (a:Int) (g:Int->AN ρ) (h:Int->AN ρ) (i:Unit->AN ρ):AN ρ :=
  ifb (ilt a e) (ì ((ile 0 a)&&(ilt a (Č c))) (Ω c (Int.toNat a) fun j=>Ù (fun(k:Int) l=>ŕ d j b (Û b) f k (fun m=>l m) (fun n=>h n) (fun _=>ck (a+(1:Int)) fun o=>g o)) (0:Int))) (i ())
def Ĝ (b:ag) (c:Int) (d:Int) (e:Int) (f:ge) (g:bx) (h:fx) (i:ew) (j:bx) (k:Int) (a:Int) (l:Int->AN ρ) (m:Int->AN ρ) (n:Unit->AN ρ):AN ρ :=
  ifb (ilt a c) (Ę b a fun o=>Â (iQ ((d,e),f,g,h,i,j) o k) fun p=>ifb p.2 (m (9:Int)) (ck (a+(1:Int)) fun q=>l q)) (n ())
def ij (b:an) (f:nR) (c:Int) (k:Int->AN ρ):AN ρ :=
  Ę b.2.2.2.2.1 c fun a=>Â (ó a.1 (1:Int) (1099511627776:Int)) fun l=>ifb (!l) (k (1:Int)) (Â (Ρ a.2.1) fun m=>ifb (!m) (k (1:Int)) (Â (ó a.2.2.2.2.1 (-1125899906842624:Int) (1125899906842624:Int)) fun n=>ifb (!n) (k (1:Int)) (Â (ó a.2.2.2.2.2.1 (0:Int) (1073741824:Int)) fun o=>ifb (!o) (k (1:Int)) (Â (ĺ a.2.2.2.2.2.2 (-10000:Int) (10000:Int)) fun p=>ifb (!p) (k (1:Int)) (Â (gA a.2.2.1) fun q=>ifb (!q) (k (1:Int)) (Â (gA a.2.2.2.1) fun r=>ifb (!r) (k (1:Int)) (ì ((ile 0 c)&&(ile c (Č b.2.2.2.2.1))) (Ù (fun(s:Int) t=>Ŗ (List.take (Int.toNat c) b.2.2.2.2.1) (Û (List.take (Int.toNat c) b.2.2.2.2.1)) a.1 s (fun u=>t u) (fun v=>ifb (ige v 0) (k (6:Int)) (Â (ď ([a.2.2.1,a.2.2.2.1])) fun d=>Ù (fun(w:Int) x=>ĝ f d (Û ([(5:Int),(4:Int)])) a.2.1 ([(5:Int),(4:Int)]) w (fun y=>x y) (fun z=>k z) (fun _=>Ù (fun(A:Int) B=>Ĝ d (Û d) b.1.1 b.1.2 b.2.1 b.2.2.1 b.2.2.2.1 b.2.2.2.2.1 b.2.2.2.2.2 a.2.1 A (fun C=>B C) (fun D=>k D) (fun _=>Â (Ī a.2.2.1 a.2.2.2.1) fun g=>Â (Ī a.2.2.2.1 a.2.2.1) fun h=>ifb (igt (Û g) 1) (k (1:Int)) (ifb (igt (Û h) 1) (k (1:Int)) (ck ((Û g)+(Û h)) fun E=>ifb (ieq E 0) (k (1:Int)) (k (0:Int)))))) (0:Int))) (0:Int))) (fun _=>Â (ď ([a.2.2.1,a.2.2.2.1])) fun e=>Ù (fun(F:Int) G=>ĝ f e (Û ([(5:Int),(4:Int)])) a.2.1 ([(5:Int),(4:Int)]) F (fun H=>G H) (fun I=>k I) (fun _=>Ù (fun(J:Int) K=>Ĝ e (Û e) b.1.1 b.1.2 b.2.1 b.2.2.1 b.2.2.2.1 b.2.2.2.2.1 b.2.2.2.2.2 a.2.1 J (fun L=>K L) (fun M=>k M) (fun _=>Â (Ī a.2.2.1 a.2.2.2.1) fun i=>Â (Ī a.2.2.2.1 a.2.2.1) fun j=>ifb (igt (Û i) 1) (k (1:Int)) (ifb (igt (Û j) 1) (k (1:Int)) (ck ((Û i)+(Û j)) fun N=>ifb (ieq N 0) (k (1:Int)) (k (0:Int)))))) (0:Int))) (0:Int))) (0:Int)))))))))
def ė (a:an) (b:nR) (c:Int):AN (Int):=ij a b c some
def gY (b:an) (s:nR):AN (AS Int) :=
  Â (yj (fun u=>Đ u.1 u.2 s) (b.2.2.1:AS (Int×Int))) fun a=>Â (yj (fun i=>ľ b s i) (nM (b.2.2.2.1:AS v8).length)) fun c =>
    Â (yj (fun i=>ė b s i) (nM (b.2.2.2.2.1:AS c7).length)) fun d=>Â (yj (fun u=>Đ u.1 u.2 s) (b.2.2.2.2.2:AS (Int×Int))) fun e=>some (a++(c++(d++e)))
def yY (a:an) (k:Int->AN ρ):AN ρ :=
  Â (ĺ a.1 (0:Int) (1000000:Int)) fun d=>ifb (!d) (k (1:Int)) (ifb (igt (Û a.2.1) 12) (k (2:Int)) (ifb (igt (Û a.2.2.1) 40) (k (2:Int)) (ifb (igt (Û a.2.2.2.1) 12) (k (2:Int)) (ifb (igt (Û a.2.2.2.2.1) 40) (k (2:Int)) (ifb (igt (Û a.2.2.2.2.2) 10) (k (2:Int)) (Â (Į a) fun b=>ifb (ine b 0) (k b) (Â (Ă a) fun e=>Et (gY a e) (fun f=>k f) (Â (jy a) fun c=>ifb (igt (Û c) 59) (k (2:Int)) (ck ((2:Int)*(Û a.2.1)) fun g=>ck ((Û c)-(Û a.2.1)) fun h=>ck ((2:Int)*h) fun i=>ck (g+i) fun j=>ck ((2:Int)*(Û a.2.2.2.2.1)) fun l=>ck (j+l) fun m=>ifb (igt m 300) (k (2:Int)) (k (0:Int)))))))))))
def đ (a:an):AN (Int):=yY a some
def iF (b:ew) (a:Int) (e:Int->AN ρ) (c:Bool->AN ρ) (d:Unit->AN ρ):AN ρ :=
  ifb (ilt a (Û b)) (ifb (ilt a 60) (Ę b a fun f=>ifb (igt (Û f.2.2.1) 9) (c false) (Ę b a fun g=>ifb (igt (Û g.2.2.2.1) 9) (c false) (ck (a+(1:Int)) fun h=>e h))) (d ())) (d ())
def BA (a:an) (k:Bool->AN ρ):AN ρ :=
  Ù (fun(b:Int) c=>iF a.2.2.2.2.1 b (fun d=>c d) (fun e=>k e) (fun _=>ifb (ile (Û a.2.1) 14) (ifb (ile (Û a.2.2.1) 42) (ifb (ile (Û a.2.2.2.1) 14) (ifb (ile (Û a.2.2.2.2.1) 42) (k (ile (Û a.2.2.2.2.2) 12)) (k false)) (k false)) (k false)) (k false))) (0:Int)
def pz (a:an):AN (Bool):=BA a some
def mF (f:Int) (g:Int) (h:fx) (i:Int) (j:Int) (b:Int) (a:Int) (d:Int->Int->AN ρ) (k:Int->AN ρ):AN ρ :=
  ifb (ilt a i) (Ę h a fun c=>ck (g-(1:Int)) fun l=>ck ((Lc c.2.1.2 l)-(I9 c.2.1.1 f)) fun m=>ck (m+1) fun e=>ifb (ieq c.1 j) (ifb (igt e 0) (ck (e*c.2.2) fun n=>ck (b+n) fun o=>ck (a+(1:Int)) fun p=>d o p) (ck (a+(1:Int)) fun q=>d b q)) (ck (a+(1:Int)) fun r=>d b r)) (k b)
def mE (e:Int) (f:Int) (g:bx) (h:Int) (i:Int) (a:Int) (b:ag) (d:Int->ag->AN ρ) (j:ag->AN ρ):AN ρ :=
  ifb (ilt a h) (Ę g a fun c=>ifb (ieq c.1 i) (ck (f-(1:Int)) fun k=>Â (ó c.2 e k) fun l=>ifb l (ì (ã ((List.length b)+(List.length ([c.2])))) (ck (a+(1:Int)) fun m=>d m (b++([c.2])))) (ck (a+(1:Int)) fun n=>d n b)) (ck (a+(1:Int)) fun o=>d o b)) (j b)
def IQ (a:an) (b:zg) (d:Int) (e:Int) (k:Int->AN ρ):AN ρ :=
  Ù (fun(f:a7) h=>mF d e a.2.2.2.1 (Û a.2.2.2.1) b.1 f.1 f.2 (fun i j=>h (i,j)) (fun l=>Ù (fun(g:pc) m=>mE d e a.2.2.1 (Û a.2.2.1) b.1 g.1 g.2 (fun n o=>m (n,o)) (fun c=>ì (ã (List.length c)) (ì (ã (List.length (sa c))) (ck ((Û (pM (sa c)))*b.2.2.2.2.2) fun p=>ck (l+p) fun q=>k q)))) ((0:Int),[]))) ((0:Int),(0:Int))
def kD (a:an) (b:zg) (c:Int) (d:Int):AN (Int):=IQ a b c d some
def ă (c:bx) (d:Int) (e:Int) (f:Int) (a:Int) (g:Int->AN ρ) (h:Int->AN ρ) (i:Unit->AN ρ):AN ρ :=
  ifb (ilt a d) (Ę c a fun b=>ifb ((Β e b.1)&&((Β f b.2)&&true)) (h a) (ck (a+(1:Int)) fun j=>g j)) (i ())
def ŭ (a:bx) (b:a7) (k:Int->AN ρ):AN ρ :=
  Ù (fun(c:Int) d=>ă a (Û a) b.1 b.2 c (fun e=>d e) (fun f=>k f) (fun _=>k (-1:Int))) (0:Int)
def Ď (a:bx) (b:a7):AN (Int):=ŭ a b some
def wk (b:Val aB) (a:ag) (c:Int) (k:Int->AN ρ):AN ρ :=
  ifb (ieq (Û a) 0) (k (0:Int)) (Ę a (0:Int) fun d=>Â (Ď b.2.1 (d,c)) fun e=>ck (e+(1:Int)) fun f=>k f)
def ŏ (a:Val aB) (b:ag) (c:Int):AN (Int):=wk a b c some
def nn (b:nR) (a:ag) (k:a7->AN ρ):AN ρ :=
  ifb (ieq (Û a) 0) (k ((0:Int),(1:Int))) (Ę a (0:Int) fun c=>Gx (k:=tI) (v:=Ñ) c b (fun d=>k d.2.2.2.2.1) (k ((0:Int),(0:Int))))
def ş (a:nR) (b:ag):AN a7:=nn a b some
def jZ (b:bx) (c:Int) (a:Int) (d:Int->AN ρ) (e:Int->AN ρ) (f:Unit->AN ρ):AN ρ :=
  ifb (ilt a c) (Ę b a fun g=>Â (lY g) fun h=>ifb (!h) (e (1:Int)) (ck (a+(1:Int)) fun i=>d i)) (f ())
def E4 (a:bx) (k:Int->AN ρ):AN ρ :=
  Ù (fun(b:Int) c=>jZ a (Û a) b (fun d=>c d) (fun e=>k e) (fun _=>k (0:Int))) (0:Int)
def Ο (a:bx):AN (Int):=E4 a some
def yy (d:Int) (e:Int) (k:r7->AN ρ):AN ρ :=
  Â (kB d) fun b=>Â (kB e) fun c=>Â (zr b c) fun a=>ifb (Β a 0) (none) (ifb (Β a 0) (none) (ifb (igt (IntKind.wrap .u64 (Int.tdiv b a)) 2147483647) (k (((0:Int),(0:Int)),(3:Int))) (ifb (igt (IntKind.wrap .u64 (Int.tdiv c a)) 2147483647) (k (((0:Int),(0:Int)),(3:Int))) (ifb (!((ilt d 0)==(ilt e 0))) (ck (0-(IntKind.wrap .i64 (IntKind.wrap .u64 (Int.tdiv b a)))) fun f=>k ((f,(IntKind.wrap .i64 (IntKind.wrap .u64 (Int.tdiv c a)))),(0:Int))) (k (((IntKind.wrap .i64 (IntKind.wrap .u64 (Int.tdiv b a))),(IntKind.wrap .i64 (IntKind.wrap .u64 (Int.tdiv c a)))),(0:Int)))))))
def jx (a:Int) (b:Int):AN r7:=yy a b some
def Mw (a:a7) (b:a7) (k:r7->AN ρ):AN ρ :=
  Â (Ο ([a,b])) fun c=>ifb (ine c 0) (k (((0:Int),(0:Int)),c)) (ck (a.1*b.2) fun e=>ck (b.1*a.2) fun f=>ck (e-f) fun g=>ck (a.2*b.2) fun h=>Â (jx g h) fun d=>k (d.1,d.2))
def Dr (a:a7) (b:a7):AN r7:=Mw a b some
def sZ (a:a7) (b:a7) (k:a7->AN ρ):AN ρ :=
  Â (Dr a b) fun c=>k c.1
def mU (a:a7) (b:a7):AN a7:=sZ a b some
def Mu (a:a7) (b:a7) (k:Int->AN ρ):AN ρ :=
  ck (a.1*b.2) fun c=>ck (b.1*a.2) fun d=>ifb ((Β a.1 b.1)&&((Β a.2 b.2)&&true)) (k (0:Int)) (ifb (ilt c d) (k (-1:Int)) (ifb (igt c d) (k (1:Int)) (k (0:Int))))
def zu (a:a7) (b:a7):AN (Int):=Mu a b some
def qB (a:px) (k:Bool->AN ρ):AN ρ :=
  Â (Ο ([a.1,a.2])) fun b=>ifb (ieq b 0) (Â (zu a.1 a.2) fun c=>k (ile c 0)) (k false)
def kR (a:px):AN (Bool):=qB a some
def My (a:a7) (b:a7) (k:r7->AN ρ):AN ρ :=
  Â (Ο ([a,b])) fun c=>ifb (ine c 0) (k (((0:Int),(0:Int)),c)) (ck (a.1*b.1) fun e=>ck (a.2*b.2) fun f=>Â (jx e f) fun d=>k (d.1,d.2))
def zx (a:a7) (b:a7):AN r7:=My a b some
def yz (c:px) (d:a7) (k:Val D5->AN ρ):AN ρ :=
  Â (kR c) fun e=>ifb (!e) (k ((((0:Int),(0:Int)),(0:Int),(0:Int)),(1:Int))) (Â (lY d) fun f=>ifb (!f) (k ((((0:Int),(0:Int)),(0:Int),(0:Int)),(1:Int))) (Â (zx d c.1) fun a=>ifb (ine a.2 0) (k ((((0:Int),(0:Int)),(0:Int),(0:Int)),a.2)) (Â (zx d c.2) fun b=>ifb (ine b.2 0) (k ((((0:Int),(0:Int)),(0:Int),(0:Int)),b.2)) (Â (zu a.1 b.1) fun g=>ifb (igt g 0) (k ((b.1,a.1),(0:Int))) (k ((a.1,b.1),(0:Int)))))))
def zw (a:px) (b:a7):AN (Val D5):=yz a b some
def sY (b:a7) (a:a7) (k:px->AN ρ):AN ρ :=
  Â (zw ((a.1,(1:Int)),a.2,(1:Int)) b) fun c=>k c.1
def iO (a:a7) (b:a7):AN px:=sY a b some
def BH (c:an) (a:c7) (k:px->AN ρ):AN ρ :=
  Â (Ă c) fun b=>Â (Ī a.2.2.1 a.2.2.2.1) fun d=>Â (ş b d) fun e=>Â (Ī a.2.2.2.1 a.2.2.1) fun f=>Â (ş b f) fun g=>Â (mU e g) fun h=>Â (iO h a.2.2.2.2.2.2) fun i=>k i
def gB (a:an) (b:c7):AN px:=BH a b some
def Fp (a:an) (b:c7) (k:a7->AN ρ):AN ρ :=
  ck ((Û b.2.2.1)-(1:Int)) fun c=>ck ((Û b.2.2.2.1)-(1:Int)) fun d=>ck ((I9 (0:Int) c)*a.1.1) fun e=>ck ((I9 (0:Int) d)*a.1.2) fun f=>ck (e-f) fun g=>ck ((I9 (0:Int) c)*a.1.2) fun h=>ck ((I9 (0:Int) d)*a.1.1) fun i=>ck (h-i) fun j=>k (g,j)
def l5 (a:an) (b:c7):AN a7:=Fp a b some
def E7 (b:Int) (a:Int) (k:Int->AN ρ):AN ρ :=
  ifb (Β a 0) (none) (ck (Int.tdiv b a) fun c=>ifb (Β a 0) (none) (ifb (ilt (Int.tmod b a) 0) (ck (c-1) fun d=>k d) (k c)))
def oO (a:Int) (b:Int):AN (Int):=E7 a b some
def IL (a:a7) (k:a7->AN ρ):AN ρ :=
  Â (Ο ([a])) fun b=>ifb (ine b 0) (k ((0:Int),b)) (ck (0-a.1) fun c=>Â (oO c a.2) fun d=>ck (0-d) fun e=>k (e,(0:Int)))
def ud (a:a7):AN a7:=IL a some
def Fc (a:a7) (k:a7->AN ρ):AN ρ :=
  Â (Ο ([a])) fun b=>ifb (ine b 0) (k ((0:Int),b)) (Â (oO a.1 a.2) fun c=>k (c,(0:Int)))
def oP (a:a7):AN a7:=Fc a some
def IM (b:an) (a:c7) (k:a7->AN ρ):AN ρ :=
  Â (gB b a) fun c=>Â (l5 b a) fun d=>Â (oP c.2) fun e=>Â (ud c.1) fun f=>ck (a.2.2.2.2.1-a.2.2.2.2.2.1) fun g=>ck (g-d.2) fun h=>ck (h-e.1) fun i=>ck (a.2.2.2.2.1+a.2.2.2.2.2.1) fun j=>ck (j-d.1) fun l=>ck (l-f.1) fun m=>k (i,m)
def mT (a:an) (b:c7):AN a7:=IM a b some
def mC (b:Int) (e:ag) (h:Int) (j:Int) (k:Int) (l:ge) (m:bx) (n:fx) (o:ew) (p:bx) (q:Int) (r:Int) (s:Int) (t:Int) (u:Int) (v:Int) (w:Int) (x:Int) (a:Int) (f:pi) (g:bx) (y:Int->pi->bx->AN ρ) (z:Val rX->AN ρ):AN ρ :=
  ifb (ilt a (Û e)) (ck (h+a) fun A=>ck (A-1) fun c=>ck (h+a) fun d=>ck (a-(1:Int)) fun B=>Ę e B fun C=>Ę e a fun D=>Â (kD ((j,k),l,m,n,o,p) (q,r,s,(t,u),(v,w),x) C D) fun E=>ck (0-E) fun F=>ck (0-F) fun i=>ì (ã ((List.length f)+(List.length ([(c,d,(0:Int)),(d,c,i)])))) (ì (ã ((List.length g)+(List.length ([((2:Int),b),((2:Int),b)])))) (ck (a+(1:Int)) fun G=>y G (f++([(c,d,(0:Int)),(d,c,i)])) (g++([((2:Int),b),((2:Int),b)]))))) (z (f,g))
def mD (q:ge) (r:Int) (f:Int) (g:Int) (h:ge) (i:bx) (j:fx) (k:ew) (l:bx) (s:bx) (t:Int) (b:Int) (d:pi) (e:bx) (u:Int->pi->bx->AN ρ) (v:Val rX->AN ρ):AN ρ :=
  ifb (ilt b r) (Ę q b fun a=>Â (iP ((f,g),h,i,j,k,l) a) fun w=>Â (ŏ (((f,g),h,i,j,k,l),s,(t,d),e) ([a.1]) a.2.1) fun c=>ck (a.2.2.1+a.2.2.2.1.1) fun x=>ck (a.2.2.1+a.2.2.2.1.2) fun n=>ck (0-x) fun o=>ì (ã ((List.length d)+(List.length ([((0:Int),c,n),(c,(0:Int),o)])))) (ì (ã ((List.length e)+(List.length ([((1:Int),b),((1:Int),b)])))) (Ù (fun(m:nx) y=>mC b w c f g h i j k l a.1 a.2.1 a.2.2.1 a.2.2.2.1.1 a.2.2.2.1.2 a.2.2.2.2.1.1 a.2.2.2.2.1.2 a.2.2.2.2.2 m.1 m.2.1 m.2.2 (fun z A B=>y (z,A,B)) (fun p=>ck (b+(1:Int)) fun C=>u C p.1 p.2)) ((1:Int),(d++([((0:Int),c,n),(c,(0:Int),o)])),(e++([((1:Int),b),((1:Int),b)])))))) (v (d,e))
def mB (r:ew) (s:Int) (g:Int) (h:Int) (i:ge) (j:bx) (k:fx) (l:ew) (m:bx) (o:bx) (p:Int) (a:Int) (c:pi) (d:bx) (t:Int->pi->bx->AN ρ) (u:Val rX->AN ρ):AN ρ :=
  ifb (ilt a s) (Ę r a fun b=>Â (Ī b.2.2.2.1 b.2.2.1) fun v=>Â (ŏ (((g,h),i,j,k,l,m),o,(p,c),d) v b.2.1) fun e=>Â (Ī b.2.2.1 b.2.2.2.1) fun w=>Â (ŏ (((g,h),i,j,k,l,m),o,(p,c),d) w b.2.1) fun f=>Â (mT ((g,h),i,j,k,l,m) b) fun n=>ck (0-n.1) fun q=>ì (ã ((List.length c)+(List.length ([(e,f,n.2),(f,e,q)])))) (ì (ã ((List.length d)+(List.length ([((3:Int),a),((3:Int),a)])))) (ck (a+(1:Int)) fun x=>t x (c++([(e,f,n.2),(f,e,q)])) (d++([((3:Int),a),((3:Int),a)]))))) (u (c,d))
def IP (a:an) (k:Val aB->AN ρ):AN ρ :=
  Â (jy a) fun b=>ck ((Û b)+(1:Int)) fun c=>Ù (fun(d:nx) h=>mD a.2.1 (Û a.2.1) a.1.1 a.1.2 a.2.1 a.2.2.1 a.2.2.2.1 a.2.2.2.2.1 a.2.2.2.2.2 b c d.1 d.2.1 d.2.2 (fun i j l=>h (i,j,l)) (fun f=>Ù (fun(e:nx) m=>mB a.2.2.2.2.1 (Û a.2.2.2.2.1) a.1.1 a.1.2 a.2.1 a.2.2.1 a.2.2.2.1 a.2.2.2.2.1 a.2.2.2.2.2 b c e.1 e.2.1 e.2.2 (fun n o p=>m (n,o,p)) (fun g=>k (a,b,(c,g.1),g.2))) ((0:Int),f.1,f.2))) ((0:Int),[],[])
def pD (a:an):AN ((Val aB)):=IP a some
def ň (b:ag) (c:Int) (a:Int) (d:Int->AN ρ) (e:Int->AN ρ) (f:Unit->AN ρ):AN ρ :=
  ifb (ilt a c) (Ę b a fun g=>Â (ó g (-4503599627370496:Int) (4503599627370496:Int)) fun h=>ifb (!h) (e a) (ck (a+(1:Int)) fun i=>d i)) (f ())
def lO (b:Val aB) (a:ag) (k:Int->AN ρ):AN ρ :=
  ifb (ine (Û a) (Û b.2.1)) (k (1:Int)) (Ù (fun(c:Int) d=>ň a (Û a) c (fun e=>d e) (fun f=>ifb (ige f 0) (k (1:Int)) (k (0:Int))) (fun _=>k (0:Int))) (0:Int))
def Ž (a:Val aB) (b:ag):AN (Int):=lO a b some
def II (b:py) (a:Int) (k:Bool->AN ρ):AN ρ :=
  ifb (ige a 0) (k (ilt a b.1)) (k false)
def pB (a:py) (b:Int):AN (Bool):=II a b some
def jY (f:pi) (g:Int) (d:Int) (e:pi) (a:Int) (h:Int->AN ρ) (c:a7->AN ρ) (i:Unit->AN ρ):AN ρ :=
  ifb (ilt a g) (Ę f a fun b=>Â (pB (d,e) b.1) fun j=>ifb (!j) (c ((1:Int),a)) (Â (pB (d,e) b.2.1) fun k=>ifb (!k) (c ((1:Int),a)) (ifb (ieq b.1 b.2.1) (c ((1:Int),a)) (ifb (ilt b.2.2 (-4503599627370496:Int)) (c ((1:Int),a)) (ifb (igt b.2.2 4503599627370496) (c ((1:Int),a)) (ck (a+(1:Int)) fun l=>h l)))))) (i ())
def E2 (a:py) (k:a7->AN ρ):AN ρ :=
  ifb (ilt a.1 1) (k ((1:Int),(-1:Int))) (ifb (igt a.1 60) (k ((1:Int),(-1:Int))) (ifb (igt (Û a.2) 300) (k ((2:Int),(-1:Int))) (Ù (fun(c:Int) d=>jY a.2 (Û a.2) a.1 a.2 c (fun e=>d e) (fun b=>k (b.1,b.2)) (fun _=>k ((0:Int),(-1:Int)))) (0:Int))))
def oM (a:py):AN a7:=E2 a some
def mw (d:ag) (e:Int) (a:Int) (f:Int->AN ρ) (b:Int->AN ρ) (g:Unit->AN ρ):AN ρ :=
  ifb (ilt a e) (Ę d a fun c=>ifb (ilt c (-1152921504606846976:Int)) (b a) (ifb (igt c 1152921504606846976) (b a) (ck (a+(1:Int)) fun h=>f h))) (g ())
def gi (c:ag) (d:pi) (e:Int) (a:Int) (f:Int->AN ρ) (g:Val aJ->AN ρ) (h:Unit->AN ρ):AN ρ :=
  ifb (ilt a e) (Ę d a fun b=>Ę c b.2.1 fun i=>Ę c b.1 fun j=>ck (j+b.2.2) fun k=>ifb (igt i k) (g (false,(0:Int))) (ck (a+(1:Int)) fun l=>f l)) (h ())
def IJ (b:py) (a:ag) (k:Val aJ->AN ρ):AN ρ :=
  Â (oM b) fun c=>ifb (ine c.1 0) (k (false,c.1)) (ifb (ine (Û a) b.1) (k (false,(1:Int))) (Ù (fun(f:Int) g=>mw a (Û a) f (fun h=>g h) (fun i=>ifb (ige i 0) (k (false,(1:Int))) (Ù (fun(j:Int) l=>gi a b.2 (Û b.2) j (fun m=>l m) (fun d=>k (d.1,d.2)) (fun _=>Ę a (0:Int) fun n=>k (ieq n 0,(0:Int)))) (0:Int))) (fun _=>Ù (fun(o:Int) p=>gi a b.2 (Û b.2) o (fun q=>p q) (fun e=>k (e.1,e.2)) (fun _=>Ę a (0:Int) fun r=>k (ieq r 0,(0:Int)))) (0:Int))) (0:Int)))
def xx (a:py) (b:ag):AN ((Val aJ)):=IJ a b some
def qI (b:Val aB) (a:ag) (k:Bool->AN ρ):AN ρ :=
  ì (ã ((List.length ([(0:Int)]))+(List.length a))) (Â (xx b.2.2.1 (([(0:Int)])++a)) fun c=>k c.1)
def gH (a:Val aB) (b:ag):AN (Bool):=qI a b some
def IZ (a:an) (b:ag) (k:Val aJ->AN ρ):AN ρ :=
  Â (đ a) fun c=>ifb (ine c 0) (k (false,c)) (Â (pD a) fun d=>Â (Ž d b) fun e=>ifb (ine e 0) (k (false,e)) (Â (gH d b) fun f=>k (f,(0:Int))))
def mW (a:an) (b:ag):AN ((Val aJ)):=IZ a b some
def kf (b:ag) (c:Int) (a:Int) (d:Int->AN ρ) (e:Int->AN ρ) (f:Unit->AN ρ):AN ρ :=
  ifb (ilt a c) (Ę b a fun g=>Â (Ρ g) fun h=>ifb (!h) (e a) (ck (a+(1:Int)) fun i=>d i)) (f ())
def Fq (a:an) (b:Int) (c:ag) (k:Int->AN ρ):AN ρ :=
  Â (đ a) fun d=>ifb (ine d 0) (k d) (Ù (fun(e:Int) f=>kf c (Û c) e (fun g=>f g) (fun h=>ifb (ige h 0) (k (1:Int)) (Â (Ă a) fun i=>Gx (k:=tI) (v:=Ñ) b i (fun l=>k (0:Int)) (k (5:Int)))) (fun _=>Â (Ă a) fun j=>Gx (k:=tI) (v:=Ñ) b j (fun m=>k (0:Int)) (k (5:Int)))) (0:Int))
def ug (a:an) (b:Int) (c:ag):AN (Int):=Fq a b c some
def IY (c:an) (d:Int) (a:Int) (b:Int) (k:a7->AN ρ):AN ρ :=
  Â (ug c d ([a,b])) fun e=>ifb (ine e 0) (k ((0:Int),e)) (Â (Ă c) fun g=>Gx (k:=tI) (v:=Ñ) d g (fun f=>ifb (igt a b) (k ((0:Int),(3:Int))) (ifb (ilt a f.2.1) (k ((0:Int),(3:Int))) (Â (kD c f a b) fun h=>k (h,(0:Int))))) (ifb (igt a b) (k ((0:Int),(3:Int))) (ifb (ilt a 0) (k ((0:Int),(3:Int))) (Â (kD c ((0:Int),(0:Int),(0:Int),((0:Int),(0:Int)),((0:Int),(0:Int)),(0:Int)) a b) fun i=>k (i,(0:Int))))))
def pG (a:an) (b:Int) (c:Int) (d:Int):AN a7:=IY a b c d some
def mM (f:Int) (a:Int) (c:ew) (g:Int->ew->AN ρ) (h:ew->AN ρ):AN ρ :=
  ifb (ilt a f) (ì ((ile 0 a)&&(ilt a (Č c))) (Ω c (Int.toNat a) fun d=>ì (ã (List.length d.2.2.1)) (ì (ã (List.length d.2.2.2.1)) (ì ((ile 0 a)&&(ilt a (Č c))) (Ω c (Int.toNat a) fun b=>ì ((ile 0 a)&&(ilt a (Č (List.set c (Int.toNat a) (b.1,b.2.1,d.2.2.1,b.2.2.2))))) (Ω (List.set c (Int.toNat a) (b.1,b.2.1,d.2.2.1,b.2.2.2)) (Int.toNat a) fun e=>ck (a+(1:Int)) fun i=>g i (List.set (List.set c (Int.toNat a) (b.1,b.2.1,d.2.2.1,b.2.2.2)) (Int.toNat a) (e.1,e.2.1,e.2.2.1,d.2.2.2.1,e.2.2.2.2)))))))) (h c)
def IW (a:an) (b:c7) (k:Val aH->AN ρ):AN ρ :=
  ì (ã (List.length b.2.2.1)) (ì (ã (List.length b.2.2.2.1)) (Â (đ a) fun d=>ifb (ine d 0) (k ((((0:Int),(0:Int)),[],[],[],[],[]),d)) (ì (ã (List.length a.2.1)) (ì (ã (List.length a.2.2.1)) (ì (ã (List.length a.2.2.2.1)) (ì (ã (List.length a.2.2.2.2.2)) (ì (ã (List.length a.2.2.2.2.1)) (Ù (fun(e:(Val (.pair tI ac))) g=>mM (Û a.2.2.2.2.1) e.1 e.2 (fun h i=>g (h,i)) (fun c=>ì (ã ((List.length c)+(List.length ([b])))) (Â (đ (a.1,a.2.1,a.2.2.1,a.2.2.2.1,(c++([b])),a.2.2.2.2.2)) fun f=>ifb (ine f 0) (k ((((0:Int),(0:Int)),[],[],[],[],[]),f)) (k ((a.1,a.2.1,a.2.2.1,a.2.2.2.1,(c++([b])),a.2.2.2.2.2),(0:Int)))))) ((0:Int),a.2.2.2.2.1)))))))))
def pE (a:an) (b:c7):AN ((Val aH)):=IW a b some
def Ō (c:pi) (d:Int) (b:Int) (a:Int) (e:Int->Int->AN ρ) (f:Int->AN ρ):AN ρ :=
  ifb (ilt a d) (Ę c a fun g=>ck (b+(Lc g.2.2 (0:Int))) fun h=>ck (a+(1:Int)) fun i=>e h i) (f b)
def ġ (f:Int) (d:ag) (a:Int) (b:r8) (c:ag) (e:Int->r8->ag->AN ρ) (g:Val aD->AN ρ):AN ρ :=
  ifb (ilt a f) (ì ((ile 0 a)&&(ilt a (Č d))) (Ω d (Int.toNat a) fun h=>ifb (ine h 1152921504606846976) (ì (ã ((List.length c)+(List.length ([a])))) (ì ((ile 0 a)&&(ilt a (Č b))) (Ω b (Int.toNat a) fun k=>ck (a+(1:Int)) fun i=>e i (List.set b (Int.toNat a) true) (c++([a]))))) (ck (a+(1:Int)) fun j=>e j b c))) (g (b,c))
def ů (m:Val am) (j:Int) (d:Int) (n:pi) (o:Int) (f:Int) (b:ag) (c:r8) (e:ag) (g:Int->ag->r8->ag->AN ρ) (l:(Val (.pair .bool (.pair ab aD)))->AN ρ) (p:(Val (.pair ab aD))->AN ρ):AN ρ :=
  ifb (ilt f o) (Ę n f fun a=>ifb (ine a.1 d) (ck (f+(1:Int)) fun q=>g q b c e) (Gx (k:=tI) (v:=.bool) f m (fun r=>ifb r (ck (f+(1:Int)) fun s=>g s b c e) (ì ((ile 0 d)&&(ilt d (Č b))) (Ω b (Int.toNat d) fun t=>ck (t+a.2.2) fun u=>ì ((ile 0 a.2.1)&&(ilt a.2.1 (Č b))) (Ω b (Int.toNat a.2.1) fun w=>ifb (ige u w) (ck (f+(1:Int)) fun x=>g x b c e) (ì ((ile 0 d)&&(ilt d (Č b))) (Ω b (Int.toNat d) fun y=>ck (y+a.2.2) fun h=>ì ((ile 0 a.2.1)&&(ilt a.2.1 (Č b))) (Ω b (Int.toNat a.2.1) fun M=>ì ((ile 0 a.2.1)&&(ilt a.2.1 (Č (List.set b (Int.toNat a.2.1) h)))) (Ω (List.set b (Int.toNat a.2.1) h) (Int.toNat a.2.1) fun z=>ifb (ilt z j) (l (false,(List.set b (Int.toNat a.2.1) h),c,e)) (ì ((ile 0 a.2.1)&&(ilt a.2.1 (Č c))) (Ω c (Int.toNat a.2.1) fun A=>ifb (!A) (ì (ã ((List.length e)+(List.length ([a.2.1])))) (ì ((ile 0 a.2.1)&&(ilt a.2.1 (Č c))) (Ω c (Int.toNat a.2.1) fun N=>ck (f+(1:Int)) fun B=>g B (List.set b (Int.toNat a.2.1) h) (List.set c (Int.toNat a.2.1) true) (e++([a.2.1]))))) (ck (f+(1:Int)) fun C=>g C (List.set b (Int.toNat a.2.1) h) c e))))))))))) (ì ((ile 0 d)&&(ilt d (Č b))) (Ω b (Int.toNat d) fun D=>ck (D+a.2.2) fun E=>ì ((ile 0 a.2.1)&&(ilt a.2.1 (Č b))) (Ω b (Int.toNat a.2.1) fun F=>ifb (ige E F) (ck (f+(1:Int)) fun G=>g G b c e) (ì ((ile 0 d)&&(ilt d (Č b))) (Ω b (Int.toNat d) fun H=>ck (H+a.2.2) fun i=>ì ((ile 0 a.2.1)&&(ilt a.2.1 (Č b))) (Ω b (Int.toNat a.2.1) fun O=>ì ((ile 0 a.2.1)&&(ilt a.2.1 (Č (List.set b (Int.toNat a.2.1) i)))) (Ω (List.set b (Int.toNat a.2.1) i) (Int.toNat a.2.1) fun I=>ifb (ilt I j) (l (false,(List.set b (Int.toNat a.2.1) i),c,e)) (ì ((ile 0 a.2.1)&&(ilt a.2.1 (Č c))) (Ω c (Int.toNat a.2.1) fun J=>ifb (!J) (ì (ã ((List.length e)+(List.length ([a.2.1])))) (ì ((ile 0 a.2.1)&&(ilt a.2.1 (Č c))) (Ω c (Int.toNat a.2.1) fun P=>ck (f+(1:Int)) fun K=>g K (List.set b (Int.toNat a.2.1) i) (List.set c (Int.toNat a.2.1) true) (e++([a.2.1]))))) (ck (f+(1:Int)) fun L=>g L (List.set b (Int.toNat a.2.1) i) c e)))))))))))) (p (b,c,e))
def Ć (l:Val am) (m:Int) (n:Int) (k:pi) (h:ag) (d:r8) (b:ag) (c:ag) (o:ag->r8->ag->ag->AN ρ) (i:(Val (.pair .bool aE))->AN ρ):AN ρ :=
  ifb (ieq (Û c) 0) (i (true,h,d,b,c)) (ì (ilt 0 (Č c)) (Ω c 0 fun a=>ì (ile 1 (Č c)) (ì (decide (1+(List.length c-1)=List.length c)) (ì ((ile 0 a)&&(ilt a (Č d))) (Ω d (Int.toNat a) fun x=>ì ((ile 0 a)&&(ilt a (Č b))) (Ω b (Int.toNat a) fun p=>ck (p+(1:Int)) fun e=>ì ((ile 0 a)&&(ilt a (Č b))) (Ω b (Int.toNat a) fun y=>ì ((ile 0 a)&&(ilt a (Č (List.set b (Int.toNat a) e)))) (Ω (List.set b (Int.toNat a) e) (Int.toNat a) fun q=>ck (n+(1:Int)) fun r=>ifb (igt q r) (i (false,h,(List.set d (Int.toNat a) false),(List.set b (Int.toNat a) e),(List.drop 1 c))) (Ù (fun(f:fy) s=>ů l m a k (Û k) f.1 f.2.1 f.2.2.1 f.2.2.2 (fun t u v w=>s (t,u,v,w)) (fun g=>i (g.1,g.2.1,g.2.2.1,(List.set b (Int.toNat a) e),g.2.2.2)) (fun j=>o j.1 j.2.1 (List.set b (Int.toNat a) e) j.2.2)) ((0:Int),h,(List.set d (Int.toNat a) false),(List.drop 1 c)))))))))))
def Ů (c:Int) (d:Int) (a:Int) (b:ag) (e:Int->ag->AN ρ) (f:ag->AN ρ):AN ρ :=
  ifb (ilt a d) (ì ((ile 0 a)&&(ilt a (Č b))) (Ω b (Int.toNat a) fun g=>ck (g-c) fun h=>ì ((ile 0 a)&&(ilt a (Č b))) (Ω b (Int.toNat a) fun j=>ck (a+(1:Int)) fun i=>e i (List.set b (Int.toNat a) h)))) (f b)
def oj (a:py) (h:Val am) (k:zC->AN ρ):AN ρ :=
  ì ((ile 0 a.1)&&(ã (Int.toNat a.1))) (ì ((ile 0 a.1)&&(ã (Int.toNat a.1))) (ì ((ile 0 a.1)&&(ã (Int.toNat a.1))) (Ù (fun(e:a7) i=>Ō a.2 (Û a.2) e.1 e.2 (fun j l=>i (j,l)) (fun m=>Ù (fun(d:v7) n=>ġ a.1 (List.replicate (Int.toNat a.1) (0:Int)) d.1 d.2.1 d.2.2 (fun o p q=>n (o,p,q)) (fun f=>Ù (fun(c:Val aE) r=>Ć h m a.1 a.2 c.1 c.2.1 c.2.2.1 c.2.2.2 (fun s t u v=>r (s,t,u,v)) (fun b=>ifb (!b.1) (k ([],false)) (ì (ilt 0 (Č b.2.1)) (Ω b.2.1 0 fun w=>Ù (fun(g:pc) x=>Ů w (Û b.2.1) g.1 g.2 (fun y z=>x (y,z)) (fun A=>k (A,true))) ((0:Int),b.2.1))))) ((List.replicate (Int.toNat a.1) (0:Int)),f.1,(List.replicate (Int.toNat a.1) (0:Int)),f.2))) ((0:Int),(List.replicate (Int.toNat a.1) false),[]))) ((0:Int),(0:Int)))))
def kz (a:py) (b:Val am):AN (zC):=oj a b some
def jX (b:ag) (c:Int) (d:Int) (e:pi) (a:Int) (f:Int->AN ρ) (g:Int->AN ρ) (h:Unit->AN ρ):AN ρ :=
  ifb (ilt a c) (Ę b a fun i=>Â (pB (d,e) i) fun j=>ifb (!j) (g (1:Int)) (ck (a+(1:Int)) fun k=>f k)) (h ())
def E1 (a:py) (b:ag) (k:Int->AN ρ):AN ρ :=
  Â (oM a) fun c=>ifb (ine c.1 0) (k c.1) (Ù (fun(d:Int) e=>jX b (Û b) a.1 a.2 d (fun f=>e f) (fun g=>k g) (fun _=>Â (kz a ([])) fun h=>ifb (!h.2) (k (9:Int)) (k (0:Int)))) (0:Int))
def t8 (a:py) (b:ag):AN (Int):=E1 a b some
def iG (c:Int) (a:Int) (b:ag) (d:Int->ag->AN ρ) (e:ag->AN ρ):AN ρ :=
  ifb (ilt a c) (ì ((ile 0 a)&&(ilt a (Č b))) (Ω b (Int.toNat a) fun g=>ck (a+(1:Int)) fun f=>d f (List.set b (Int.toNat a) (1152921504606846976:Int)))) (e b)
def mu (c:pi) (d:Int) (b:Int) (a:Int) (e:Int->Int->AN ρ) (f:Int->AN ρ):AN ρ :=
  ifb (ilt a d) (Ę c a fun g=>ck (b+(Lc g.2.2 (0:Int))) fun h=>ck (a+(1:Int)) fun i=>e h i) (f b)
def mr (f:Int) (d:ag) (a:Int) (b:r8) (c:ag) (e:Int->r8->ag->AN ρ) (g:Val aD->AN ρ):AN ρ :=
  ifb (ilt a f) (ì ((ile 0 a)&&(ilt a (Č d))) (Ω d (Int.toNat a) fun h=>ifb (ine h 1152921504606846976) (ì (ã ((List.length c)+(List.length ([a])))) (ì ((ile 0 a)&&(ilt a (Č b))) (Ω b (Int.toNat a) fun k=>ck (a+(1:Int)) fun i=>e i (List.set b (Int.toNat a) true) (c++([a]))))) (ck (a+(1:Int)) fun j=>e j b c))) (g (b,c))
def sR (m:Val am) (j:Int) (d:Int) (n:pi) (o:Int) (f:Int) (b:ag) (c:r8) (e:ag) (g:Int->ag->r8->ag->AN ρ) (l:(Val (.pair .bool (.pair ab aD)))->AN ρ) (p:(Val (.pair ab aD))->AN ρ):AN ρ :=
  ifb (ilt f o) (Ę n f fun a=>ifb (ine a.1 d) (ck (f+(1:Int)) fun q=>g q b c e) (Gx (k:=tI) (v:=.bool) f m (fun r=>ifb r (ck (f+(1:Int)) fun s=>g s b c e) (ì ((ile 0 d)&&(ilt d (Č b))) (Ω b (Int.toNat d) fun t=>ck (t+a.2.2) fun u=>ì ((ile 0 a.2.1)&&(ilt a.2.1 (Č b))) (Ω b (Int.toNat a.2.1) fun w=>ifb (ige u w) (ck (f+(1:Int)) fun x=>g x b c e) (ì ((ile 0 d)&&(ilt d (Č b))) (Ω b (Int.toNat d) fun y=>ck (y+a.2.2) fun h=>ì ((ile 0 a.2.1)&&(ilt a.2.1 (Č b))) (Ω b (Int.toNat a.2.1) fun M=>ì ((ile 0 a.2.1)&&(ilt a.2.1 (Č (List.set b (Int.toNat a.2.1) h)))) (Ω (List.set b (Int.toNat a.2.1) h) (Int.toNat a.2.1) fun z=>ifb (ilt z j) (l (false,(List.set b (Int.toNat a.2.1) h),c,e)) (ì ((ile 0 a.2.1)&&(ilt a.2.1 (Č c))) (Ω c (Int.toNat a.2.1) fun A=>ifb (!A) (ì (ã ((List.length e)+(List.length ([a.2.1])))) (ì ((ile 0 a.2.1)&&(ilt a.2.1 (Č c))) (Ω c (Int.toNat a.2.1) fun N=>ck (f+(1:Int)) fun B=>g B (List.set b (Int.toNat a.2.1) h) (List.set c (Int.toNat a.2.1) true) (e++([a.2.1]))))) (ck (f+(1:Int)) fun C=>g C (List.set b (Int.toNat a.2.1) h) c e))))))))))) (ì ((ile 0 d)&&(ilt d (Č b))) (Ω b (Int.toNat d) fun D=>ck (D+a.2.2) fun E=>ì ((ile 0 a.2.1)&&(ilt a.2.1 (Č b))) (Ω b (Int.toNat a.2.1) fun F=>ifb (ige E F) (ck (f+(1:Int)) fun G=>g G b c e) (ì ((ile 0 d)&&(ilt d (Č b))) (Ω b (Int.toNat d) fun H=>ck (H+a.2.2) fun i=>ì ((ile 0 a.2.1)&&(ilt a.2.1 (Č b))) (Ω b (Int.toNat a.2.1) fun O=>ì ((ile 0 a.2.1)&&(ilt a.2.1 (Č (List.set b (Int.toNat a.2.1) i)))) (Ω (List.set b (Int.toNat a.2.1) i) (Int.toNat a.2.1) fun I=>ifb (ilt I j) (l (false,(List.set b (Int.toNat a.2.1) i),c,e)) (ì ((ile 0 a.2.1)&&(ilt a.2.1 (Č c))) (Ω c (Int.toNat a.2.1) fun J=>ifb (!J) (ì (ã ((List.length e)+(List.length ([a.2.1])))) (ì ((ile 0 a.2.1)&&(ilt a.2.1 (Č c))) (Ω c (Int.toNat a.2.1) fun P=>ck (f+(1:Int)) fun K=>g K (List.set b (Int.toNat a.2.1) i) (List.set c (Int.toNat a.2.1) true) (e++([a.2.1]))))) (ck (f+(1:Int)) fun L=>g L (List.set b (Int.toNat a.2.1) i) c e)))))))))))) (p (b,c,e))
def mq (l:Val am) (m:Int) (n:Int) (k:pi) (h:ag) (d:r8) (b:ag) (c:ag) (o:ag->r8->ag->ag->AN ρ) (i:(Val (.pair .bool aE))->AN ρ):AN ρ :=
  ifb (ieq (Û c) 0) (i (true,h,d,b,c)) (ì (ilt 0 (Č c)) (Ω c 0 fun a=>ì (ile 1 (Č c)) (ì (decide (1+(List.length c-1)=List.length c)) (ì ((ile 0 a)&&(ilt a (Č d))) (Ω d (Int.toNat a) fun x=>ì ((ile 0 a)&&(ilt a (Č b))) (Ω b (Int.toNat a) fun p=>ck (p+(1:Int)) fun e=>ì ((ile 0 a)&&(ilt a (Č b))) (Ω b (Int.toNat a) fun y=>ì ((ile 0 a)&&(ilt a (Č (List.set b (Int.toNat a) e)))) (Ω (List.set b (Int.toNat a) e) (Int.toNat a) fun q=>ck (n+(1:Int)) fun r=>ifb (igt q r) (i (false,h,(List.set d (Int.toNat a) false),(List.set b (Int.toNat a) e),(List.drop 1 c))) (Ù (fun(f:fy) s=>sR l m a k (Û k) f.1 f.2.1 f.2.2.1 f.2.2.2 (fun t u v w=>s (t,u,v,w)) (fun g=>i (g.1,g.2.1,g.2.2.1,(List.set b (Int.toNat a) e),g.2.2.2)) (fun j=>o j.1 j.2.1 (List.set b (Int.toNat a) e) j.2.2)) ((0:Int),h,(List.set d (Int.toNat a) false),(List.drop 1 c)))))))))))
def uV (a:py) (i:Val am) (b:Int) (k:ag->AN ρ):AN ρ :=
  ì ((ile 0 a.1)&&(ã (Int.toNat a.1))) (Ù (fun(f:pc) j=>iG (Û (List.replicate (Int.toNat a.1) (0:Int))) f.1 f.2 (fun l m=>j (l,m)) (fun c=>ì ((ile 0 b)&&(ilt b (Č c))) (Ω c (Int.toNat b) fun B=>ì ((ile 0 a.1)&&(ã (Int.toNat a.1))) (ì ((ile 0 a.1)&&(ã (Int.toNat a.1))) (Ù (fun(g:a7) n=>mu a.2 (Û a.2) g.1 g.2 (fun o p=>n (o,p)) (fun q=>Ù (fun(e:v7) r=>mr a.1 (List.set c (Int.toNat b) (0:Int)) e.1 e.2.1 e.2.2 (fun s t u=>r (s,t,u)) (fun h=>Ù (fun(d:Val aE) v=>mq i q a.1 a.2 d.1 d.2.1 d.2.2.1 d.2.2.2 (fun w x y z=>v (w,x,y,z)) (fun A=>k A.2.1)) ((List.set c (Int.toNat b) (0:Int)),h.1,(List.replicate (Int.toNat a.1) (0:Int)),h.2))) ((0:Int),(List.replicate (Int.toNat a.1) false),[]))) ((0:Int),(0:Int))))))) ((0:Int),(List.replicate (Int.toNat a.1) (0:Int))))
def pC (a:py) (b:Val am) (c:Int):AN (ag):=uV a b c some
def E3 (a:py) (b:Int) (c:Int) (k:a7->AN ρ):AN ρ :=
  Â (t8 a ([b,c])) fun d=>ifb (ine d 0) (k ((0:Int),d)) (Â (pC a ([]) b) fun f=>Ę f c fun e=>ifb (ieq e 1152921504606846976) (k ((0:Int),(5:Int))) (k (e,(0:Int))))
def oN (a:py) (b:Int) (c:Int):AN a7:=E3 a b c some
def Fg (b:an) (a:c7) (c:a7) (k:r7->AN ρ):AN ρ :=
  Â (gB b a) fun d=>Â (l5 b a) fun e=>Â (ud d.1) fun h=>Â (oP d.2) fun i=>ck (h.1+e.1) fun j=>ck (j-a.2.2.2.2.2.1) fun f=>ck (i.1+e.2) fun l=>ck (l+a.2.2.2.2.2.1) fun g=>ifb (igt f g) (k (((0:Int),(0:Int)),(5:Int))) (ck (c.1+f) fun m=>ck (c.2+g) fun n=>k ((m,n),(0:Int)))
def lZ (a:an) (b:c7) (c:a7):AN r7:=Fg a b c some
def yR (g:an) (a:c7) (k:r7->AN ρ):AN ρ :=
  Â (pE g (a.1,a.2.1,a.2.2.1,a.2.2.2.1,(0:Int),a.2.2.2.2.2)) fun d=>ifb (ine d.2 0) (k (((0:Int),(0:Int)),d.2)) (Â (pD d.1) fun b=>ck ((Û b.2.2.1.2)-(2:Int)) fun c=>ì ((ile 0 c)&&(ile c (Č b.2.2.1.2))) (Â (Ī a.2.2.1 a.2.2.2.1) fun l=>Â (ŏ b l a.2.1) fun h=>Â (Ī a.2.2.2.1 a.2.2.1) fun m=>Â (ŏ b m a.2.1) fun i=>Â (oN (b.2.2.1.1,(List.take (Int.toNat c) b.2.2.1.2)) i h) fun e=>ifb (ine e.2 0) (k (((0:Int),(0:Int)),e.2)) (Â (oN (b.2.2.1.1,(List.take (Int.toNat c) b.2.2.1.2)) h i) fun f=>ifb (ine f.2 0) (k (((0:Int),(0:Int)),f.2)) (ck (0-f.1) fun n=>Â (lZ g (a.1,a.2.1,a.2.2.1,a.2.2.2.1,(0:Int),a.2.2.2.2.2) (n,e.1)) fun j=>k (j.1,j.2)))))
def χ (a:an) (b:c7):AN r7:=yR a b some
def wg (k:an->AN ρ):AN ρ :=
  k (((0:Int),(2:Int)),[((1:Int),(0:Int),(1000:Int),((-5:Int),(5:Int)),((1:Int),(10:Int)),(1:Int)),((2:Int),(0:Int),(1000:Int),((-50:Int),(50:Int)),((1:Int),(4:Int)),(0:Int))],[((1:Int),(10:Int))],[((1:Int),((20:Int),(29:Int)),(3:Int))],[((7:Int),(10:Int),[(1:Int)],[(2:Int)],(-20:Int),(1:Int),(100:Int),(200:Int))],[])
def oL:AN an:=wg some
def Ff (a:an) (b:Int) (k:(Val (.pair Ì tI))->AN ρ):AN ρ :=
  Â (đ a) fun c=>ifb (ine c 0) (k (((0:Int),(0:Int),[],[],(0:Int),(0:Int),(0:Int),(0:Int)),c)) (ifb (ilt b 0) (k (((0:Int),(0:Int),[],[],(0:Int),(0:Int),(0:Int),(0:Int)),(1:Int))) (ifb (ige b (Û a.2.2.2.2.1)) (k (((0:Int),(0:Int),[],[],(0:Int),(0:Int),(0:Int),(0:Int)),(1:Int))) (Ę a.2.2.2.2.1 b fun d=>k (d,(0:Int)))))
def oQ (a:an) (b:Int):AN ((Val (.pair Ì tI))):=Ff a b some
def BM (b:an) (c:Int) (k:Val D5->AN ρ):AN ρ :=
  Â (oQ b c) fun a=>ifb (ine a.2 0) (k ((((0:Int),(0:Int)),(0:Int),(0:Int)),a.2)) (Â (gB b a.1) fun d=>k (d,(0:Int)))
def pH (a:an) (b:Int):AN (Val D5):=BM a b some
def IX (b:an) (c:Int) (k:r7->AN ρ):AN ρ :=
  Â (oQ b c) fun a=>ifb (ine a.2 0) (k (((0:Int),(0:Int)),a.2)) (Â (mT b a.1) fun d=>k (d,(0:Int)))
def xy (a:an) (b:Int):AN r7:=IX a b some
def Ft (a:an) (k:v6->AN ρ):AN ρ :=
  Â (đ a) fun b=>ifb (ine b 0) (k ([],b)) (Â (jy a) fun c=>k (c,(0:Int)))
def uh (a:an):AN (v6):=Ft a some
def BK (a:an) (k:(Val (.pair æ (.pair aa tI)))->AN ρ):AN ρ :=
  Â (đ a) fun b=>ifb (ine b 0) (k (((0:Int),[]),[],b)) (Â (pD a) fun c=>k (c.2.2.1,c.2.2.2,(0:Int)))
def pF (a:an):AN ((Val (.pair æ (.pair aa tI)))):=BK a some
def po (b:Int) (e:nR) (f:ag) (g:Int) (h:Int) (i:Int) (j:ge) (k:bx) (l:fx) (m:ew) (n:bx) (a:Int) (o:Int->AN ρ) (c:Val aJ->AN ρ) (p:Unit->AN ρ):AN ρ :=
  ifb (ilt a g) (Ę f a fun d=>Â (iQ ((h,i),j,k,l,m,n) d b) fun q=>ifb q.2 (c (false,(0:Int))) (Â (Ņ e d b) fun r=>ifb (ine r 0) (c (false,(0:Int))) (ck (a+(1:Int)) fun s=>o s))) (p ())
def Mz (a:an) (d:Int) (b:ag) (c:ag) (k:Val aJ->AN ρ):AN ρ :=
  Â (đ a) fun e=>ifb (ine e 0) (k (false,e)) (Â (Ρ d) fun j=>ifb (!j) (k (false,(1:Int))) (Â (gA b) fun l=>ifb (!l) (k (false,(1:Int))) (Â (gA c) fun m=>ifb (!m) (k (false,(1:Int))) (Â (Ă a) fun n=>Â (ď ([b,c])) fun f=>Ù (fun(o:Int) p=>po d n f (Û f) a.1.1 a.1.2 a.2.1 a.2.2.1 a.2.2.2.1 a.2.2.2.2.1 a.2.2.2.2.2 o (fun q=>p q) (fun g=>k (g.1,g.2)) (fun _=>Â (Ī b c) fun h=>Â (Ī c b) fun i=>ifb (ile (Û h) 1) (ifb (ile (Û i) 1) (ck ((Û h)+(Û i)) fun r=>k (igt r 0,(0:Int))) (k (false,(0:Int)))) (k (false,(0:Int))))) (0:Int)))))
def Ds (a:an) (b:Int) (c:ag) (d:ag):AN ((Val aJ)):=Mz a b c d some
def rt (k:Bool->AN ρ):AN ρ :=
  Â oL fun a=>Â (pH a (0:Int)) fun b=>Â (xy a (0:Int)) fun d=>Â (uh a) fun e=>Â (pF a) fun c=>Â (pG a (1:Int) (0:Int) (25:Int)) fun g=>ifb (ine b.2 0) (k false) (ifb (ine d.2 0) (k false) (ifb (ine e.2 0) (k false) (ifb (ine c.2.2 0) (k false) (ifb (ine g.2 0) (k false) (ifb (!((Β b.1.1.1 (-30:Int))&&((Β b.1.1.2 (1:Int))&&((Β b.1.2.1 (-15:Int))&&((Β b.1.2.2 (1:Int))&&true))))) (k false) (ifb (!((Β d.1.1 (-6:Int))&&((Β d.1.2 (11:Int))&&true))) (k false) (ifb (ine g.1 16) (k false) (ifb (ine (Û e.1) 4) (k false) (Ę e.1 (3:Int) fun h=>ifb (!((Β h.1 (2:Int))&&((Β h.2 (10:Int))&&true))) (k false) (ifb (ine c.1.1 5) (k false) (ifb (ine (Û c.1.2) 10) (k false) (ifb (ine (Û c.2.1) 10) (k false) (Ę c.2.1 (9:Int) fun i=>ifb (!((Β i.1 (3:Int))&&((Β i.2 (0:Int))&&true))) (k false) (Â (mW a ([(1000:Int),(1000:Int),(990:Int),(990:Int)])) fun j=>Â (mW a ([(1000:Int),(999:Int),(990:Int),(990:Int)])) fun l=>Â (χ a ((8:Int),(10:Int),[(1:Int)],[(2:Int)],(0:Int),(0:Int),(0:Int),(0:Int))) fun f=>Â (Ds a (25:Int) ([(1:Int)]) ([(2:Int)])) fun m=>ifb (ieq j.2 0) (ifb (ieq l.2 0) (ifb (ieq f.2 0) (ifb (ieq m.2 0) (ifb j.1 (ifb (!l.1) (ifb (!m.1) (k ((Β f.1.1 (-6:Int))&&((Β f.1.2 (11:Int))&&true))) (k false)) (k false)) (k false)) (k false)) (k false)) (k false)) (k false)))))))))))))))
def ń:AN (Bool):=rt some
def mG (d:ag) (e:Int) (a:ByteArray) (b:Int) (f:ByteArray->Int->AN ρ) (g:ByteArray->AN ρ):AN ρ :=
  ifb (ilt b e) (Ę d b fun h=>Â (kQ h) fun c=>ì (ã (ByteArray.size (ByteArray.mk #[32])+ByteArray.size c)) (ì (ã (ByteArray.size a+ByteArray.size ((ByteArray.mk #[32])++c))) (ck (b+(1:Int)) fun i=>f (a++((ByteArray.mk #[32])++c)) i))) (g a)
def IR (c:ByteArray) (a:ag) (k:ByteArray->AN ρ):AN ρ :=
  Ù (fun(b:pl) d=>mG a (Û a) b.1 b.2 (fun e f=>d (e,f)) (fun g=>k g)) (c,(0:Int))
def fR (a:ByteArray) (b:ag):AN (ByteArray):=IR a b some
def kp (e:ge) (f:Int) (b:Int) (c:c8) (g:Int->c8->AN ρ) (h:c8->AN ρ):AN ρ :=
  ifb (ilt b f) (Ę e b fun a=>Â (fR (ByteArray.mk #[103,97,117,103,101]) ([a.1,a.2.1,a.2.2.1,a.2.2.2.1.1,a.2.2.2.1.2,a.2.2.2.2.1.1,a.2.2.2.2.1.2,a.2.2.2.2.2])) fun d=>ì (ã ((List.length c)+(List.length ([d])))) (ck (b+(1:Int)) fun i=>g i (c++([d])))) (h c)
def km (e:bx) (f:Int) (a:Int) (b:c8) (g:Int->c8->AN ρ) (h:c8->AN ρ):AN ρ :=
  ifb (ilt a f) (Ę e a fun c=>Â (fR (ByteArray.mk #[117,115,101]) ([c.1,c.2])) fun d=>ì (ã ((List.length b)+(List.length ([d])))) (ck (a+(1:Int)) fun i=>g i (b++([d])))) (h b)
def kj (e:fx) (f:Int) (b:Int) (c:c8) (g:Int->c8->AN ρ) (h:c8->AN ρ):AN ρ :=
  ifb (ilt b f) (Ę e b fun a=>Â (fR (ByteArray.mk #[108,111,97,110]) ([a.1,a.2.1.1,a.2.1.2,a.2.2])) fun d=>ì (ã ((List.length c)+(List.length ([d])))) (ck (b+(1:Int)) fun i=>g i (c++([d])))) (h c)
def ki (g:ew) (h:Int) (d:Int) (e:c8) (i:Int->c8->AN ρ) (j:c8->AN ρ):AN ρ :=
  ifb (ilt d h) (Ę g d fun a=>Â (fR (ByteArray.mk #[99,111,109,112,97,114,101]) ([a.1,a.2.1,a.2.2.2.2.1,a.2.2.2.2.2.1,a.2.2.2.2.2.2.1,a.2.2.2.2.2.2.2])) fun b=>Â (fR (ByteArray.mk #[32,97]) a.2.2.1) fun c=>ì (ã (ByteArray.size b+ByteArray.size c)) (Â (fR (ByteArray.mk #[32,98]) a.2.2.2.1) fun f=>ì (ã (ByteArray.size (b++c)+ByteArray.size f)) (ì (ã ((List.length e)+(List.length ([((b++c)++f)])))) (ck (d+(1:Int)) fun k=>i k (e++([((b++c)++f)])))))) (j e)
def kg (e:bx) (f:Int) (a:Int) (b:c8) (g:Int->c8->AN ρ) (h:c8->AN ρ):AN ρ :=
  ifb (ilt a f) (Ę e a fun c=>Â (fR (ByteArray.mk #[108,111,111,107]) ([c.1,c.2])) fun d=>ì (ã ((List.length b)+(List.length ([d])))) (ck (a+(1:Int)) fun i=>g i (b++([d])))) (h b)
def tJ (a:an) (k:pl->AN ρ):AN ρ :=
  Â (đ a) fun b=>ifb (ine b 0) (k ((ByteArray.mk #[]),b)) (Â (fR (ByteArray.mk #[102,105,108,109]) ([a.1.1,a.1.2])) fun i=>Ù (fun(c:At) j=>kp a.2.1 (Û a.2.1) c.1 c.2 (fun l m=>j (l,m)) (fun n=>Ù (fun(d:At) o=>km a.2.2.1 (Û a.2.2.1) d.1 d.2 (fun p q=>o (p,q)) (fun r=>Ù (fun(e:At) s=>kj a.2.2.2.1 (Û a.2.2.2.1) e.1 e.2 (fun t u=>s (t,u)) (fun v=>Ù (fun(f:At) w=>ki a.2.2.2.2.1 (Û a.2.2.2.2.1) f.1 f.2 (fun x y=>w (x,y)) (fun z=>Ù (fun(g:At) A=>kg a.2.2.2.2.2 (Û a.2.2.2.2.2) g.1 g.2 (fun B C=>A (B,C)) (fun D=>Â (kP D (ByteArray.mk #[10])) fun h=>ì (ã (ByteArray.size h+ByteArray.size (ByteArray.mk #[10]))) (k ((h++(ByteArray.mk #[10])),(0:Int))))) ((0:Int),z))) ((0:Int),v))) ((0:Int),r))) ((0:Int),n))) ((0:Int),[i]))
def Τ (a:an):AN (pl):=tJ a some
def gG (e:c8) (f:Int) (b:Int) (a:ag) (d:Int->ag->AN ρ) (g:ag->AN ρ):AN ρ :=
  ifb (ilt b f) (Ę e b fun h=>Â (Oc h) fun c=>ifb c.2 (ì (ã ((List.length a)+(List.length ([(0:Int)])))) (ck (b+(1:Int)) fun i=>d i (a++([(0:Int)])))) (ì (ã ((List.length a)+(List.length ([c.1])))) (ck (b+(1:Int)) fun j=>d j (a++([c.1]))))) (g a)
def rz (a:c8) (k:ag->AN ρ):AN ρ :=
  Ù (fun(b:pc) c=>gG a (Û a) b.1 b.2 (fun d e=>c (d,e)) (fun f=>k f)) ((0:Int),[])
def Ħ (a:c8):AN (ag):=rz a some
def gN (b:c8) (d:c8) (e:Int) (a:Int) (f:Int->AN ρ) (g:ly->AN ρ) (h:Unit->AN ρ):AN ρ :=
  ifb (ilt a e) (Ę d a fun i=>ifb (i.toList==(ByteArray.mk #[98]).toList) (ì ((ile 1 a)&&(ile a (Č b))) (Â (Ħ (List.take (Int.toNat (a-(1:Int))) (List.drop 1 b))) fun j=>ck (a+(1:Int)) fun c=>ì ((ile 0 c)&&(ile c (Č b))) (Â (Ħ (List.drop (Int.toNat c) b)) fun k=>g (j,k)))) (ck (a+(1:Int)) fun l=>f l)) (h ())
def Fh (a:c8) (k:ly->AN ρ):AN ρ :=
  ifb (ieq (Û a) 0) (k ([],[])) (Ę a (0:Int) fun c=>ifb (!(c.toList==(ByteArray.mk #[97]).toList)) (k ([],[])) (Ù (fun(d:Int) e=>gN a a (Û a) d (fun f=>e f) (fun b=>k (b.1,b.2)) (fun _=>k ([],[]))) (0:Int)))
def ue (a:c8):AN (ly):=Fh a some
def gU (j:Int) (k:Int) (l:Int) (m:Int) (c:Int) (n:Int) (o:Int) (p:Int) (q:ge) (r:bx) (s:fx) (t:ew) (u:bx) (v:Int) (A:Int) (B:Int) (d:ge) (e:bx) (f:fx) (g:ew) (h:bx) (y:ByteArray) (w:Int->Int->ge->bx->fx->ew->bx->Int->Int->Int->ge->bx->fx->ew->bx->AN ρ) (i:Val au->AN ρ):AN ρ :=
  Â (Θ y (ByteArray.mk #[10])) fun r1=>Â (jw r1 (ByteArray.mk #[32])) fun a=>Ę a (0:Int) fun x=>ifb (GP x (ByteArray.mk #[102,105,108,109])) (ì (ile 1 (Č a)) (ifb (ilt (Û (List.drop 1 a)) j) (i ((0:Int),(0:Int),[],[],[],[],[],(7:Int))) (ì ((ile 0 j)&&(ile j (Č (List.drop 1 a)))) (Â (Ħ (List.take (Int.toNat j) (List.drop 1 a))) fun E=>ì ((ile 0 j)&&(ile j (Č (List.drop 1 a)))) (Ę E (0:Int) fun e5=>Ę E (1:Int) fun e6=>w o p q r s t u v e5 e6 d e f g h))))) (ifb (GP x (ByteArray.mk #[103,97,117,103,101])) (ì (ile 1 (Č a)) (ifb (ilt (Û (List.drop 1 a)) k) (i ((0:Int),(0:Int),[],[],[],[],[],(7:Int))) (ì ((ile 0 k)&&(ile k (Č (List.drop 1 a)))) (Â (Ħ (List.take (Int.toNat k) (List.drop 1 a))) fun b=>ì ((ile 0 k)&&(ile k (Č (List.drop 1 a)))) (Ę b (0:Int) fun F=>Ę b (1:Int) fun G=>Ę b (2:Int) fun H=>Ę b (3:Int) fun I=>Ę b (4:Int) fun J=>Ę b (5:Int) fun K=>Ę b (6:Int) fun L=>Ę b (7:Int) fun M=>ì (ã ((List.length d)+(List.length ([(F,G,H,(I,J),(K,L),M)])))) (w o p q r s t u v A B (d++([(F,G,H,(I,J),(K,L),M)])) e f g h)))))) (ifb (GP x (ByteArray.mk #[117,115,101])) (ì (ile 1 (Č a)) (ifb (ilt (Û (List.drop 1 a)) l) (i ((0:Int),(0:Int),[],[],[],[],[],(7:Int))) (ì ((ile 0 l)&&(ile l (Č (List.drop 1 a)))) (Â (Ħ (List.take (Int.toNat l) (List.drop 1 a))) fun N=>ì ((ile 0 l)&&(ile l (Č (List.drop 1 a)))) (Ę N (0:Int) fun O=>Ę N (1:Int) fun P=>ì (ã ((List.length e)+(List.length ([(O,P)])))) (w o p q r s t u v A B d (e++([(O,P)])) f g h)))))) (ifb (GP x (ByteArray.mk #[108,111,97,110])) (ì (ile 1 (Č a)) (ifb (ilt (Û (List.drop 1 a)) m) (i ((0:Int),(0:Int),[],[],[],[],[],(7:Int))) (ì ((ile 0 m)&&(ile m (Č (List.drop 1 a)))) (Â (Ħ (List.take (Int.toNat m) (List.drop 1 a))) fun C=>ì ((ile 0 m)&&(ile m (Č (List.drop 1 a)))) (Ę C (0:Int) fun Q=>Ę C (1:Int) fun R=>Ę C (2:Int) fun S=>Ę C (3:Int) fun T=>ì (ã ((List.length f)+(List.length ([(Q,(R,S),T)])))) (w o p q r s t u v A B d e (f++([(Q,(R,S),T)])) g h)))))) (ifb (GP x (ByteArray.mk #[99,111,109,112,97,114,101])) (ì (ile 1 (Č a)) (ifb (ilt (Û (List.drop 1 a)) c) (i ((0:Int),(0:Int),[],[],[],[],[],(7:Int))) (ì ((ile 0 c)&&(ile c (Č (List.drop 1 a)))) (Â (Ħ (List.take (Int.toNat c) (List.drop 1 a))) fun z=>ì ((ile 0 c)&&(ile c (Č (List.drop 1 a)))) (Ę z (0:Int) fun U=>Ę z (1:Int) fun V=>Ę z (2:Int) fun W=>Ę z (3:Int) fun X=>Ę z (4:Int) fun Y=>Ę z (5:Int) fun Z=>Â (ue (List.drop (Int.toNat c) (List.drop 1 a))) fun D=>ì (ã ((List.length g)+(List.length ([(U,V,D.1,D.2,W,X,Y,Z)])))) (w o p q r s t u v A B d e f (g++([(U,V,D.1,D.2,W,X,Y,Z)])) h)))))) (ifb (GP x (ByteArray.mk #[108,111,111,107])) (ì (ile 1 (Č a)) (ifb (ilt (Û (List.drop 1 a)) n) (i ((0:Int),(0:Int),[],[],[],[],[],(7:Int))) (ì ((ile 0 n)&&(ile n (Č (List.drop 1 a)))) (Â (Ħ (List.take (Int.toNat n) (List.drop 1 a))) fun br=>ì ((ile 0 n)&&(ile n (Č (List.drop 1 a)))) (Ę br (0:Int) fun bt=>Ę br (1:Int) fun bu=>ì (ã ((List.length h)+(List.length ([(bt,bu)])))) (w o p q r s t u v A B d e f g (h++([(bt,bu)])))))))) (i ((0:Int),(0:Int),[],[],[],[],[],(7:Int))))))))
def ĭ (a:Int) (b:Int) (c:Int) (d:Int) (e:Int) (f:Int) (v:An) (y:ByteArray):AN (Sum An (Val au)):=gU a b c d e f v.1 v.2.1 v.2.2.1 v.2.2.2.1 v.2.2.2.2.1 v.2.2.2.2.2.1 v.2.2.2.2.2.2.1 v.2.2.2.2.2.2.2.1 v.2.2.2.2.2.2.2.2.1 v.2.2.2.2.2.2.2.2.2.1 v.2.2.2.2.2.2.2.2.2.2.1 v.2.2.2.2.2.2.2.2.2.2.2.1 v.2.2.2.2.2.2.2.2.2.2.2.2.1 v.2.2.2.2.2.2.2.2.2.2.2.2.2.1 v.2.2.2.2.2.2.2.2.2.2.2.2.2.2 y (fun g h i j k l m n o p q r s t u=>some (.inl (g,h,i,j,k,l,m,n,o,p,q,r,s,t,u))) (fun z=>some (.inr z))
def yX (c:ByteArray) (k:Val aH->AN ρ):AN ρ :=
  ì (ã (ByteArray.size c)&&true) (OD (ĭ (2:Int) (8:Int) (2:Int) (4:Int) (6:Int) (2:Int)) (qR c) ((0:Int),(0:Int),[],[],[],[],[],(0:Int),(0:Int),(0:Int),[],[],[],[],[]) (fun b=>Â (Τ ((b.2.2.2.2.2.2.2.2.1,b.2.2.2.2.2.2.2.2.2.1),b.2.2.2.2.2.2.2.2.2.2)) fun d=>ifb (ine d.2 0) (k ((((0:Int),(0:Int)),[],[],[],[],[]),(7:Int))) (ifb (!(d.1.toList==c.toList)) (k ((((0:Int),(0:Int)),[],[],[],[],[]),(7:Int))) (k (((b.2.2.2.2.2.2.2.2.1,b.2.2.2.2.2.2.2.2.2.1),b.2.2.2.2.2.2.2.2.2.2),(0:Int))))) (fun a=>k (((a.1,a.2.1),a.2.2.1,a.2.2.2.1,a.2.2.2.2.1,a.2.2.2.2.2.1,a.2.2.2.2.2.2.1),a.2.2.2.2.2.2.2)))
def l6 (a:ByteArray):AN ((Val aH)):=yX a some
def δ (b:ag) (c:ag) (a:Int) (d:Int->AN ρ) (e:Bool->AN ρ) (f:Unit->AN ρ):AN ρ :=
  ifb (ilt a (Û b)) (Ę b a fun g=>Ę c a fun h=>ifb (ine g h) (e false) (ck (a+(1:Int)) fun i=>d i)) (f ())
def sK (a:ag) (b:ag) (k:Bool->AN ρ):AN ρ :=
  ifb (ine (Û a) (Û b)) (k false) (Ù (fun(c:Int) d=>δ a b c (fun e=>d e) (fun f=>k f) (fun _=>k true)) (0:Int))
def ż (a:ag) (b:ag):AN (Bool):=sK a b some
def nk (a:c7) (b:c7) (k:Bool->AN ρ):AN ρ :=
  Â (ż a.2.2.1 b.2.2.1) fun c=>Â (ż a.2.2.2.1 b.2.2.2.1) fun d=>ifb c (ifb d (ifb (ieq a.1 b.1) (ifb (ieq a.2.1 b.2.1) (ifb (ieq a.2.2.2.2.1 b.2.2.2.2.1) (ifb (ieq a.2.2.2.2.2.1 b.2.2.2.2.2.1) (k ((Β a.2.2.2.2.2.2.1 b.2.2.2.2.2.2.1)&&((Β a.2.2.2.2.2.2.2 b.2.2.2.2.2.2.2)&&true))) (k false)) (k false)) (k false)) (k false)) (k false)) (k false)
def ι (a:c7) (b:c7):AN (Bool):=nk a b some
def Ź (b:bx) (e:bx) (a:Int) (f:Int->AN ρ) (g:Bool->AN ρ) (h:Unit->AN ρ):AN ρ :=
  ifb (ilt a (Û b)) (Ę b a fun c=>Ę e a fun d=>ifb (!((Β c.1 d.1)&&((Β c.2 d.2)&&true))) (g false) (ck (a+(1:Int)) fun i=>f i)) (h ())
def qv (a:bx) (b:bx) (k:Bool->AN ρ):AN ρ :=
  ifb (ine (Û a) (Û b)) (k false) (Ù (fun(c:Int) d=>Ź a b c (fun e=>d e) (fun f=>k f) (fun _=>k true)) (0:Int))
def Ξ (a:bx) (b:bx):AN (Bool):=qv a b some
def jV (d:ge) (e:ge) (c:Int) (f:Int->AN ρ) (g:Bool->AN ρ) (h:Unit->AN ρ):AN ρ :=
  ifb (ilt c (Û d)) (Ę d c fun a=>Ę e c fun b=>ifb (!((Β a.1 b.1)&&((Β a.2.1 b.2.1)&&((Β a.2.2.1 b.2.2.1)&&((Β a.2.2.2.1.1 b.2.2.2.1.1)&&((Β a.2.2.2.1.2 b.2.2.2.1.2)&&((Β a.2.2.2.2.1.1 b.2.2.2.2.1.1)&&((Β a.2.2.2.2.1.2 b.2.2.2.2.1.2)&&((Β a.2.2.2.2.2 b.2.2.2.2.2)&&true))))))))) (g false) (ck (c+(1:Int)) fun i=>f i)) (h ())
def jU (b:bx) (e:bx) (a:Int) (f:Int->AN ρ) (g:Bool->AN ρ) (h:Unit->AN ρ):AN ρ :=
  ifb (ilt a (Û b)) (Ę b a fun c=>Ę e a fun d=>ifb (!((Β c.1 d.1)&&((Β c.2 d.2)&&true))) (g false) (ck (a+(1:Int)) fun i=>f i)) (h ())
def jT (d:fx) (e:fx) (a:Int) (f:Int->AN ρ) (g:Bool->AN ρ) (h:Unit->AN ρ):AN ρ :=
  ifb (ilt a (Û d)) (Ę d a fun b=>Ę e a fun c=>ifb (!((Β b.1 c.1)&&((Β b.2.1.1 c.2.1.1)&&((Β b.2.1.2 c.2.1.2)&&((Β b.2.2 c.2.2)&&true))))) (g false) (ck (a+(1:Int)) fun i=>f i)) (h ())
def jS (b:ew) (c:ew) (a:Int) (d:Int->AN ρ) (e:Bool->AN ρ) (f:Unit->AN ρ):AN ρ :=
  ifb (ilt a (Û b)) (Ę b a fun g=>Ę c a fun h=>Â (ι g h) fun i=>ifb (!i) (e false) (ck (a+(1:Int)) fun j=>d j)) (f ())
def EZ (a:an) (b:an) (k:Bool->AN ρ):AN ρ :=
  ifb (!((Β a.1.1 b.1.1)&&((Β a.1.2 b.1.2)&&true))) (k false) (ifb (ine (Û a.2.1) (Û b.2.1)) (k false) (ifb (ine (Û a.2.2.1) (Û b.2.2.1)) (k false) (ifb (ine (Û a.2.2.2.1) (Û b.2.2.2.1)) (k false) (ifb (ine (Û a.2.2.2.2.1) (Û b.2.2.2.2.1)) (k false) (Ù (fun(c:Int) d=>jV a.2.1 b.2.1 c (fun e=>d e) (fun f=>k f) (fun _=>Ù (fun(g:Int) h=>jU a.2.2.1 b.2.2.1 g (fun i=>h i) (fun j=>k j) (fun _=>Ù (fun(l:Int) m=>jT a.2.2.2.1 b.2.2.2.1 l (fun n=>m n) (fun o=>k o) (fun _=>Ù (fun(p:Int) q=>jS a.2.2.2.2.1 b.2.2.2.2.1 p (fun r=>q r) (fun s=>k s) (fun _=>Â (Ξ a.2.2.2.2.2 b.2.2.2.2.2) fun t=>k t)) (0:Int))) (0:Int))) (0:Int))) (0:Int))))))
def t7 (a:an) (b:an):AN (Bool):=EZ a b some
def BB (a:c7) (k:Bool->AN ρ):AN ρ :=
  ifb (ile (Û a.2.2.1) 9) (k (ile (Û a.2.2.2.1) 9)) (k false)
def pA (a:c7):AN (Bool):=BB a some
def Ζ (e:Int) (a:bx) (b:Int) (c:bx) (f:Int->bx->AN ρ) (g:bx->AN ρ):AN ρ :=
  ifb (ilt b (Û a)) (ck (b+(Int.tmod e (64:Int))) fun h=>ifb (Β (Û a) 0) (none) (Ę a (Int.tmod h (Û a)) fun d=>ì (ã ((List.length c)+(List.length ([d])))) (ck (b+(1:Int)) fun i=>f i (c++([d]))))) (g c)
def Ε (e:Int) (a:fx) (b:Int) (c:fx) (f:Int->fx->AN ρ) (g:fx->AN ρ):AN ρ :=
  ifb (ilt b (Û a)) (ck (b+(Int.tmod e (64:Int))) fun h=>ifb (Β (Û a) 0) (none) (Ę a (Int.tmod h (Û a)) fun d=>ì (ã ((List.length c)+(List.length ([d])))) (ck (b+(1:Int)) fun i=>f i (c++([d]))))) (g c)
def Δ (e:Int) (a:bx) (b:Int) (c:bx) (f:Int->bx->AN ρ) (g:bx->AN ρ):AN ρ :=
  ifb (ilt b (Û a)) (ck (b+(Int.tmod e (64:Int))) fun h=>ifb (Β (Û a) 0) (none) (Ę a (Int.tmod h (Û a)) fun d=>ì (ã ((List.length c)+(List.length ([d])))) (ck (b+(1:Int)) fun i=>f i (c++([d]))))) (g c)
def gh (d:an) (h:ag) (n:Int) (o:Int) (p:Int) (i:Int) (e:c7) (j:ByteArray) (k:Bool->AN ρ):AN ρ :=
  Â (pz d) fun G=>ifb (!G) (Â ń fun H=>k H) (Â (pA e) fun I=>ifb (!I) (Â ń fun J=>k J) (ifb (igt (Û h) 70) (Â ń fun K=>k K) (ifb (ilt i 0) (Â ń fun L=>k L) (ifb (igt (EP (ByteArray.size j)) 3000) (Â ń fun M=>k M) (Â (Τ d) fun g=>Ht (α:=(Val (.pair ab (.pair tI (.pair tI (.pair tI (.pair tI (.pair .str aw)))))))) (fun q=>ifb (ieq g.2 0) (Â (l6 g.1) fun r=>ifb (ine r.2 0) (k false) (Â (t7 r.1 d) fun N=>ifb (!N) (k false) (q (h,n,o,p,i,j,g.2,d.1.1,d.1.2,d.2.1,d.2.2.1,d.2.2.2.1,d.2.2.2.2.1,d.2.2.2.2.2,e.1,e.2.1,e.2.2.1,e.2.2.2.1,e.2.2.2.2.1,e.2.2.2.2.2.1,e.2.2.2.2.2.2.1,e.2.2.2.2.2.2.2)))) (q (h,n,o,p,i,j,g.2,d.1.1,d.1.2,d.2.1,d.2.2.1,d.2.2.2.1,d.2.2.2.2.1,d.2.2.2.2.2,e.1,e.2.1,e.2.2.1,e.2.2.2.1,e.2.2.2.2.1,e.2.2.2.2.2.1,e.2.2.2.2.2.2.1,e.2.2.2.2.2.2.2))) (fun c=>Â (l6 c.2.2.2.2.2.1) fun s=>Ht (α:=(Val (.pair ab (.pair tI (.pair tI (.pair tI (.pair tI aw))))))) (fun t=>ifb (ieq s.2 0) (Â (Τ s.1) fun u=>ifb (ine u.2 0) (k false) (ifb (!(u.1.toList==c.2.2.2.2.2.1.toList)) (k false) (t (c.1,c.2.1,c.2.2.1,c.2.2.2.1,c.2.2.2.2.1,c.2.2.2.2.2.2.1,c.2.2.2.2.2.2.2.1,c.2.2.2.2.2.2.2.2.1,c.2.2.2.2.2.2.2.2.2.1,c.2.2.2.2.2.2.2.2.2.2.1,c.2.2.2.2.2.2.2.2.2.2.2.1,c.2.2.2.2.2.2.2.2.2.2.2.2.1,c.2.2.2.2.2.2.2.2.2.2.2.2.2.1,c.2.2.2.2.2.2.2.2.2.2.2.2.2.2.1,c.2.2.2.2.2.2.2.2.2.2.2.2.2.2.2.1,c.2.2.2.2.2.2.2.2.2.2.2.2.2.2.2.2.1,c.2.2.2.2.2.2.2.2.2.2.2.2.2.2.2.2.2.1,c.2.2.2.2.2.2.2.2.2.2.2.2.2.2.2.2.2.2.1,c.2.2.2.2.2.2.2.2.2.2.2.2.2.2.2.2.2.2.2.1,c.2.2.2.2.2.2.2.2.2.2.2.2.2.2.2.2.2.2.2.2.1,c.2.2.2.2.2.2.2.2.2.2.2.2.2.2.2.2.2.2.2.2.2)))) (t (c.1,c.2.1,c.2.2.1,c.2.2.2.1,c.2.2.2.2.1,c.2.2.2.2.2.2.1,c.2.2.2.2.2.2.2.1,c.2.2.2.2.2.2.2.2.1,c.2.2.2.2.2.2.2.2.2.1,c.2.2.2.2.2.2.2.2.2.2.1,c.2.2.2.2.2.2.2.2.2.2.2.1,c.2.2.2.2.2.2.2.2.2.2.2.2.1,c.2.2.2.2.2.2.2.2.2.2.2.2.2.1,c.2.2.2.2.2.2.2.2.2.2.2.2.2.2.1,c.2.2.2.2.2.2.2.2.2.2.2.2.2.2.2.1,c.2.2.2.2.2.2.2.2.2.2.2.2.2.2.2.2.1,c.2.2.2.2.2.2.2.2.2.2.2.2.2.2.2.2.2.1,c.2.2.2.2.2.2.2.2.2.2.2.2.2.2.2.2.2.2.1,c.2.2.2.2.2.2.2.2.2.2.2.2.2.2.2.2.2.2.2.1,c.2.2.2.2.2.2.2.2.2.2.2.2.2.2.2.2.2.2.2.2.1,c.2.2.2.2.2.2.2.2.2.2.2.2.2.2.2.2.2.2.2.2.2))) (fun a=>ifb (ine a.2.2.2.2.2.1 0) (Â ń fun O=>k O) (Ù (fun(v:eu) P=>Ζ a.2.2.2.2.1 a.2.2.2.2.2.2.2.2.2.1 v.1 v.2 (fun Q R=>P (Q,R)) (fun w=>Ù (fun(x:(Val (.pair tI af))) S=>Ε a.2.2.2.2.1 a.2.2.2.2.2.2.2.2.2.2.1 x.1 x.2 (fun T U=>S (T,U)) (fun y=>Ù (fun(z:eu) V=>Δ a.2.2.2.2.1 a.2.2.2.2.2.2.2.2.2.2.2.2.1 z.1 z.2 (fun W X=>V (W,X)) (fun A=>ì (ã (0+(List.length a.2.2.2.2.2.2.2.2.2.2.2.1))) (Ht (α:=(Val (.pair ab (.pair tI (.pair tI (.pair tI (.pair tI (.pair tI (.pair ae (.pair aa (.pair af (.pair ac (.pair aa (.pair tI (.pair tI (.pair ab (.pair ab (.pair tI (.pair tI (.pair tI aK)))))))))))))))))))) (fun B=>ifb (igt (Û a.2.2.2.2.2.2.2.2.2.2.2.1) 0) (ifb (Β (Û a.2.2.2.2.2.2.2.2.2.2.2.1) 0) (none) (Ę a.2.2.2.2.2.2.2.2.2.2.2.1 (Int.tmod a.2.2.2.2.1 (Û a.2.2.2.2.2.2.2.2.2.2.2.1)) fun f=>ck ((0:Int)-f.2.2.2.2.1) fun Y=>ifb (Β (Û a.2.2.2.2.2.2.2.2.2.2.2.1) 0) (none) (ì ((ile 0 (Int.tmod a.2.2.2.2.1 (Û a.2.2.2.2.2.2.2.2.2.2.2.1)))&&(ilt (Int.tmod a.2.2.2.2.1 (Û a.2.2.2.2.2.2.2.2.2.2.2.1)) (Č (([])++a.2.2.2.2.2.2.2.2.2.2.2.1)))) (Ω (([])++a.2.2.2.2.2.2.2.2.2.2.2.1) (Int.toNat (Int.tmod a.2.2.2.2.1 (Û a.2.2.2.2.2.2.2.2.2.2.2.1))) fun br=>B (a.1,a.2.1,a.2.2.1,a.2.2.2.1,a.2.2.2.2.2.2.1,a.2.2.2.2.2.2.2.1,a.2.2.2.2.2.2.2.2.1,a.2.2.2.2.2.2.2.2.2.1,a.2.2.2.2.2.2.2.2.2.2.1,a.2.2.2.2.2.2.2.2.2.2.2.1,a.2.2.2.2.2.2.2.2.2.2.2.2.1,a.2.2.2.2.2.2.2.2.2.2.2.2.2.1,a.2.2.2.2.2.2.2.2.2.2.2.2.2.2.1,a.2.2.2.2.2.2.2.2.2.2.2.2.2.2.2.1,a.2.2.2.2.2.2.2.2.2.2.2.2.2.2.2.2.1,a.2.2.2.2.2.2.2.2.2.2.2.2.2.2.2.2.2.1,a.2.2.2.2.2.2.2.2.2.2.2.2.2.2.2.2.2.2.1,a.2.2.2.2.2.2.2.2.2.2.2.2.2.2.2.2.2.2.2.1,a.2.2.2.2.2.2.2.2.2.2.2.2.2.2.2.2.2.2.2.2,a.2.2.2.2.2.2.1,a.2.2.2.2.2.2.2.1,a.2.2.2.2.2.2.2.2.1,w,y,(List.set (([])++a.2.2.2.2.2.2.2.2.2.2.2.1) (Int.toNat (Int.tmod a.2.2.2.2.1 (Û a.2.2.2.2.2.2.2.2.2.2.2.1))) (f.1,f.2.1,f.2.2.2.1,f.2.2.1,Y,f.2.2.2.2.2)),A))))) (B (a.1,a.2.1,a.2.2.1,a.2.2.2.1,a.2.2.2.2.2.2.1,a.2.2.2.2.2.2.2.1,a.2.2.2.2.2.2.2.2.1,a.2.2.2.2.2.2.2.2.2.1,a.2.2.2.2.2.2.2.2.2.2.1,a.2.2.2.2.2.2.2.2.2.2.2.1,a.2.2.2.2.2.2.2.2.2.2.2.2.1,a.2.2.2.2.2.2.2.2.2.2.2.2.2.1,a.2.2.2.2.2.2.2.2.2.2.2.2.2.2.1,a.2.2.2.2.2.2.2.2.2.2.2.2.2.2.2.1,a.2.2.2.2.2.2.2.2.2.2.2.2.2.2.2.2.1,a.2.2.2.2.2.2.2.2.2.2.2.2.2.2.2.2.2.1,a.2.2.2.2.2.2.2.2.2.2.2.2.2.2.2.2.2.2.1,a.2.2.2.2.2.2.2.2.2.2.2.2.2.2.2.2.2.2.2.1,a.2.2.2.2.2.2.2.2.2.2.2.2.2.2.2.2.2.2.2.2,a.2.2.2.2.2.2.1,a.2.2.2.2.2.2.2.1,a.2.2.2.2.2.2.2.2.1,w,y,(([])++a.2.2.2.2.2.2.2.2.2.2.2.1),A))) (fun b=>Â (mW ((b.2.2.2.2.1,b.2.2.2.2.2.1),b.2.2.2.2.2.2.1,b.2.2.2.2.2.2.2.1,b.2.2.2.2.2.2.2.2.1,b.2.2.2.2.2.2.2.2.2.1,b.2.2.2.2.2.2.2.2.2.2.1) b.1) fun C=>Â (mW ((b.2.2.2.2.2.2.2.2.2.2.2.2.2.2.2.2.2.2.2.1,b.2.2.2.2.2.2.2.2.2.2.2.2.2.2.2.2.2.2.2.2.1),b.2.2.2.2.2.2.2.2.2.2.2.2.2.2.2.2.2.2.2.2.2) b.1) fun D=>Â (pG ((b.2.2.2.2.1,b.2.2.2.2.2.1),b.2.2.2.2.2.2.1,b.2.2.2.2.2.2.2.1,b.2.2.2.2.2.2.2.2.1,b.2.2.2.2.2.2.2.2.2.1,b.2.2.2.2.2.2.2.2.2.2.1) b.2.1 b.2.2.1 b.2.2.2.1) fun E=>Â (pG ((b.2.2.2.2.2.2.2.2.2.2.2.2.2.2.2.2.2.2.2.1,b.2.2.2.2.2.2.2.2.2.2.2.2.2.2.2.2.2.2.2.2.1),b.2.2.2.2.2.2.2.2.2.2.2.2.2.2.2.2.2.2.2.2.2) b.2.1 b.2.2.1 b.2.2.2.1) fun F=>Â (χ ((b.2.2.2.2.1,b.2.2.2.2.2.1),b.2.2.2.2.2.2.1,b.2.2.2.2.2.2.2.1,b.2.2.2.2.2.2.2.2.1,b.2.2.2.2.2.2.2.2.2.1,b.2.2.2.2.2.2.2.2.2.2.1) (b.2.2.2.2.2.2.2.2.2.2.2.1,b.2.2.2.2.2.2.2.2.2.2.2.2.1,b.2.2.2.2.2.2.2.2.2.2.2.2.2.1,b.2.2.2.2.2.2.2.2.2.2.2.2.2.2.1,b.2.2.2.2.2.2.2.2.2.2.2.2.2.2.2.1,b.2.2.2.2.2.2.2.2.2.2.2.2.2.2.2.2.1,b.2.2.2.2.2.2.2.2.2.2.2.2.2.2.2.2.2.1,b.2.2.2.2.2.2.2.2.2.2.2.2.2.2.2.2.2.2.1)) fun l=>Â (χ ((b.2.2.2.2.2.2.2.2.2.2.2.2.2.2.2.2.2.2.2.1,b.2.2.2.2.2.2.2.2.2.2.2.2.2.2.2.2.2.2.2.2.1),b.2.2.2.2.2.2.2.2.2.2.2.2.2.2.2.2.2.2.2.2.2) (b.2.2.2.2.2.2.2.2.2.2.2.1,b.2.2.2.2.2.2.2.2.2.2.2.2.1,b.2.2.2.2.2.2.2.2.2.2.2.2.2.1,b.2.2.2.2.2.2.2.2.2.2.2.2.2.2.1,b.2.2.2.2.2.2.2.2.2.2.2.2.2.2.2.1,b.2.2.2.2.2.2.2.2.2.2.2.2.2.2.2.2.1,b.2.2.2.2.2.2.2.2.2.2.2.2.2.2.2.2.2.1,b.2.2.2.2.2.2.2.2.2.2.2.2.2.2.2.2.2.2.1)) fun m=>Â ń fun Z=>ifb Z (ifb (C.1==D.1) (ifb (ieq C.2 D.2) (ifb (ieq E.1 F.1) (ifb (ieq E.2 F.2) (ifb ((Β l.1.1 m.1.1)&&((Β l.1.2 m.1.2)&&true)) (k (ieq l.2 m.2)) (k false)) (k false)) (k false)) (k false)) (k false)) (k false))))) ((0:Int),[]))) ((0:Int),[]))) ((0:Int),[])))))))))
def gz (a:an) (b:ag) (c:Int) (d:Int) (e:Int) (f:Int) (g:c7) (h:ByteArray):AN (Bool):=gh a b c d e f g h some
end Go.Proofs.ZzM
end
