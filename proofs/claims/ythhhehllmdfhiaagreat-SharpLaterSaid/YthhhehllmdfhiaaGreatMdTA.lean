/- lemmas -/
import Derived.Test.YthhhehllmdfhiaaGreatAmE
set_option linter.all false
set_option linter.unusedSectionVars false
set_option linter.unusedVariables false
set_option linter.unusedSimpArgs false
noncomputable section
variable {ρ : Type}
set_option maxRecDepth 100000
namespace Go.Proofs.ZzM
open Go Go.Am
abbrev tI : Ty := .int .i64
abbrev aY : Ty := (.pair tI tI)
abbrev ci : Ty := (.pair tI aY)
abbrev cd : Ty := (.pair aY aY)
abbrev jk : Ty := (.pair aY tI)
abbrev dr : Ty := (.pair tI jk)
abbrev VP : Ty := (.pair cd tI)
abbrev bo : Ty := (.pair tI (.slice ci))
abbrev eP : Ty := (.pair aY (.pair ci ci))
abbrev ye : Ty := (.pair (.slice ci) (.slice aY))
abbrev bj : Ty := (.pair tI (.pair tI (.pair tI (.pair aY jk))))
abbrev bm : Ty := (.pair tI (.pair tI (.pair (.slice tI) (.pair (.slice tI) (.pair tI ci)))))
abbrev ba : Ty := (.pair aY (.pair (.slice bj) (.pair (.slice aY) (.pair (.slice dr) (.pair (.slice bm) (.slice aY))))))
abbrev fK : Ty := (.pair ba (.pair aY (.pair .bool (.pair tI (.slice tI)))))
abbrev aag : Ty := (.pair ba (.pair (.slice aY) (.pair bo (.slice aY))))
abbrev tyroom : Ty := (.pair ba bo)
abbrev aa : Ty := (.slice aY)
abbrev ab : Ty := (.slice bm)
abbrev ac : Ty := (.slice bj)
abbrev ae : Ty := (.slice tI)
abbrev af : Ty := (.slice dr)
abbrev ag : Ty := (.pair tI (.pair tI (.pair ac (.pair aa (.pair af (.pair ab (.pair aa (.pair tI (.pair tI (.pair ac (.pair aa (.pair af (.pair ab (.pair aa (.pair tI (.pair tI (.pair ac (.pair aa (.pair af (.pair ab (.pair aa (.pair (.map tI .bool) (.pair (.map tI .bool) ac)))))))))))))))))))))))
abbrev ah : Ty := (.slice ci)
abbrev ai : Ty := (.pair tI (.pair tI (.pair ac (.pair aa (.pair af (.pair ab aa))))))
abbrev aj : Ty := (.map tI .bool)
abbrev ak : Ty := (.pair ae (.pair tI (.pair tI (.pair tI (.pair ac (.pair aa (.pair af (.pair ab (.pair aa (.pair tI (.pair tI (.pair tI (.pair tI (.pair tI (.pair tI (.pair ae (.pair ae (.pair tI (.pair tI (.pair tI (.pair tI (.pair aa (.pair tI (.pair tI (.pair ac (.pair aa (.pair af (.pair ab (.pair aa (.pair tI (.pair ah (.pair tI (.pair tI (.pair tI (.pair tI (.pair tI (.pair tI (.pair tI (.pair tI (.pair (.slice ae) (.pair (.slice ae) (.slice ae))))))))))))))))))))))))))))))))))))))))))
abbrev am : Ty := (.slice ae)
abbrev ao : Ty := (.map tI bj)
abbrev aq : Ty := (.pair tI (.pair tI (.pair tI (.pair ac (.pair aa (.pair af (.pair ab (.pair aa (.pair tI (.pair tI (.pair tI (.pair tI (.pair tI (.pair tI (.pair ae (.pair ae (.pair tI (.pair tI (.pair tI (.pair tI aa))))))))))))))))))))
abbrev ar : Ty := (.pair tI (.pair tI (.pair tI (.pair tI (.pair tI ci)))))
abbrev au : Ty := (.ptr tyroom)
abbrev aw : Ty := (.slice .bool)
abbrev ax : Ty := (.pair tI ae)
abbrev ay : Ty := (.pair tI ai)
abbrev az : Ty := (.pair tI aa)
abbrev aA : Ty := (.pair tI (.pair tI ax))
abbrev aB : Ty := (.pair ae tI)
abbrev aC : Ty := (.pair ba bm)
abbrev aD : Ty := (.pair tI bo)
abbrev aE : Ty := (.pair tI (.pair tI (.pair tI (.pair ac (.pair aa (.pair af (.pair ab (.pair aa ar))))))))
abbrev aF : Ty := (.pair aw ae)
abbrev aG : Ty := (.pair ae (.pair aw (.pair ae ae)))
abbrev aH : Ty := (.slice am)
abbrev aI : Ty := (.pair ba tI)
abbrev aJ : Ty := (.pair au aY)
abbrev aK : Ty := (.pair ba aY)
abbrev aL : Ty := (.pair tI az)
abbrev aM : Ty := (.ptr aY)
abbrev aO : Ty := (.ptr aag)
abbrev aP : Ty := (.pair .bool tI)
abbrev aQ : Ty := (.pair aY bm)
abbrev aR : Ty := (.pair bo aY)
abbrev aS : Ty := (.pair aa aY)
abbrev aT : Ty := (.pair (.int .u64) (.int .u64))
abbrev aU : Ty := (.pair bo ae)
abbrev aV : Ty := (.pair ba (.pair ao tI))
end Go.Proofs.ZzM
end

noncomputable section
variable {ρ : Type}
set_option maxRecDepth 100000
namespace Go.Proofs.ZzM
open Go Go.Am
def kL (c0 : (Val ac)) (c1 : Int) (v0 : Int) (v1 : (Val ao)) (kn : Int → (Val ao) → Option ρ) (k0 : (Val ao) → Option ρ) : Option ρ :=
  ifb (ilt v0 c1) (dI c0 v0 fun e1 => ck (v0 + (1 : Int)) fun n2 => kn n2 (EU (k := tI) (v := bj) e1.1 e1 v1)) (k0 v1)
def xC (a0 : Val ba) (k : (Val ao) → Option ρ) : Option ρ :=
  bt (fun (v4 : (Val (.pair tI ao))) kk7 => kL a0.2.1 (bE a0.2.1) v4.1 v4.2 (fun u5 u6 => kk7 (u5, u6)) (fun z3 => k z3)) ((0 : Int), [])
def df (a0 : Val ba) : Option ((Val ao)) := xC a0 some
def Ce (a0 : Val aY) (a1 : Int) (a2 : Int) (k : Bool → Option ρ) : Option ρ :=
  ifb (ile a1 a0.1) (ifb (ile a0.1 a0.2) (k (ile a0.2 a2)) (k false)) (k false)
def fu (a0 : Val aY) (a1 : Int) (a2 : Int) : Option (Bool) := Ce a0 a1 a2 some
def B8 (a0 : Int) (a1 : Int) (a2 : Int) (k : Bool → Option ρ) : Option ρ :=
  ifb (ile a1 a0) (k (ile a0 a2)) (k false)
def cM (a0 : Int) (a1 : Int) (a2 : Int) : Option (Bool) := B8 a0 a1 a2 some
def Hf (a0 : Int) (k : Bool → Option ρ) : Option ρ :=
  aZ (cM a0 (0 : Int) (20000 : Int)) fun r1 => k r1
def jK (a0 : Int) : Option (Bool) := Hf a0 some
def ML (a0 : Int) (k : Int → Option ρ) : Option ρ :=
  ifb (ilt a0 (0 : Int)) (k (IntKind.wrap .u64 (0 - (IntKind.wrap .u64 a0)))) (k (IntKind.wrap .u64 a0))
def oq (a0 : Int) : Option (Int) := ML a0 some
def vg (v0 : Int) (v1 : Int) (kn : Int → Int → Option ρ) (k0 : Int → Option ρ) : Option ρ :=
  ifb (ine v1 (0 : Int)) (ifb (ff v1 0) (none) (kn v1 (Int.tmod v0 v1))) (k0 v0)
def R0 (a0 : Int) (a1 : Int) (k : Int → Option ρ) : Option ρ :=
  bt (fun (v2 : (Val aT)) kk5 => vg v2.1 v2.2 (fun u3 u4 => kk5 (u3, u4)) (fun z1 => k z1)) (a0, a1)
def HO (a0 : Int) (a1 : Int) : Option (Int) := R0 a0 a1 some
def GV (a0 : Val aY) (k : Bool → Option ρ) : Option ρ :=
  ifb (ige a0.2 (1 : Int)) (ifb (ile a0.2 (2147483647 : Int)) (aZ (oq a0.1) fun r1 => ifb (ile r1 (2147483647 : Int)) (aZ (oq a0.1) fun r2 => aZ (oq a0.2) fun r3 => aZ (HO r2 r3) fun r4 => k (ieq r4 (1 : Int))) (k false)) (k false)) (k false)
def pZ (a0 : Val aY) : Option (Bool) := GV a0 some
def xF (a0 : Val bj) (k : Bool → Option ρ) : Option ρ :=
  aZ (pZ a0.2.2.2.2.1) fun r1 => ifb r1 (aZ (cM a0.2.2.2.2.1.1 (-1000 : Int) (1000 : Int)) fun r2 => ifb r2 (aZ (cM a0.1 (1 : Int) (1099511627776 : Int)) fun r3 => ifb r3 (aZ (jK a0.2.1) fun r4 => ifb r4 (aZ (cM a0.2.2.1 (1 : Int) (1125899906842624 : Int)) fun r5 => ifb r5 (aZ (fu a0.2.2.2.1 (-1073741824 : Int) (1073741824 : Int)) fun r6 => ifb r6 (ifb (ile a0.2.2.2.2.1.2 (100 : Int)) (aZ (cM a0.2.2.2.2.2 (0 : Int) (1048576 : Int)) fun r7 => k r7) (k false)) (k false)) (k false)) (k false)) (k false)) (aZ (cM a0.1 (1 : Int) (1099511627776 : Int)) fun r8 => ifb r8 (aZ (jK a0.2.1) fun r9 => ifb r9 (aZ (cM a0.2.2.1 (1 : Int) (1125899906842624 : Int)) fun r10 => ifb r10 (aZ (fu a0.2.2.2.1 (-1073741824 : Int) (1073741824 : Int)) fun r11 => ifb r11 (k false) (k false)) (k false)) (k false)) (k false))) (aZ (cM a0.1 (1 : Int) (1099511627776 : Int)) fun r12 => ifb r12 (aZ (jK a0.2.1) fun r13 => ifb r13 (aZ (cM a0.2.2.1 (1 : Int) (1125899906842624 : Int)) fun r14 => ifb r14 (aZ (fu a0.2.2.2.1 (-1073741824 : Int) (1073741824 : Int)) fun r15 => ifb r15 (k false) (k false)) (k false)) (k false)) (k false))
def rr (a0 : Val bj) : Option (Bool) := xF a0 some
def gV (c0 : (Val ac)) (c1 : Int) (c4 : (Val ac)) (v0 : Int) (kn : Int → Option ρ) (k0 : Int → Option ρ) (k1 : Unit → Option ρ) : Option ρ :=
  ifb (ilt v0 c1) (dI c0 v0 fun e1 => aZ (rr e1) fun r2 => ifb (!r2) (k0 (1 : Int)) (ifb (igt v0 (0 : Int)) (ck (v0 - (1 : Int)) fun n3 => dI c4 n3 fun e4 => ifb (ile e1.1 e4.1) (k0 (6 : Int)) (ck (v0 + (1 : Int)) fun n5 => kn n5)) (ck (v0 + (1 : Int)) fun n6 => kn n6))) (k1 ())
def mZ (a0 : Val ba) (k : Int → Option ρ) : Option ρ :=
  bt (fun (v9 : Int) kk11 => gV a0.2.1 (bE a0.2.1) a0.2.1 v9 (fun u10 => kk11 u10) (fun z7 => k z7) (fun _ => k (0 : Int))) (0 : Int)
def eZ (a0 : Val ba) : Option (Int) := mZ a0 some
def fS (c0 : (Val ae)) (c1 : Int) (c2 : Int) (v0 : Int) (kn : Int → Option ρ) (k0 : Int → Option ρ) (k1 : Unit → Option ρ) : Option ρ :=
  ifb (ilt v0 c2) (dI c0 v0 fun e1 => ifb (ieq c1 e1) (k0 v0) (ck (v0 + (1 : Int)) fun n2 => kn n2)) (k1 ())
def j9 (a0 : (Val ae)) (a1 : Int) (k : Int → Option ρ) : Option ρ :=
  bt (fun (v5 : Int) kk7 => fS a0 a1 (bE a0) v5 (fun u6 => kk7 u6) (fun z3 => k z3) (fun _ => k (-1 : Int))) (0 : Int)
def iu (a0 : (Val ae)) (a1 : Int) : Option (Int) := j9 a0 a1 some
def iA (a0 : (Val ae)) (a1 : Int) (k : Bool → Option ρ) : Option ρ :=
  aZ (iu a0 a1) fun r1 => k (ige r1 (0 : Int))
def cY (a0 : (Val ae)) (a1 : Int) : Option (Bool) := iA a0 a1 some
def rd (c0 : (Val ab)) (c1 : Int) (c9 : Int) (v0 : Int) (v1 : (Val ae)) (kn : Int → (Val ae) → Option ρ) (k0 : (Val ae) → Option ρ) : Option ρ :=
  ifb (ilt v0 c1) (dI c0 v0 fun e1 => aZ (cY e1.2.2.1 c9) fun r2 => aZ (cY e1.2.2.2.1 c9) fun r3 => ifb (!(r2 == r3)) (ca (bW ((List.length v1) + (List.length ([e1.2.1])))) (ck (v0 + (1 : Int)) fun n4 => kn n4 (v1 ++ ([e1.2.1])))) (ck (v0 + (1 : Int)) fun n5 => kn n5 v1)) (k0 v1)
def rc (c0 : (Val aa)) (c1 : Int) (c2 : Int) (v0 : Int) (v1 : (Val ae)) (kn : Int → (Val ae) → Option ρ) (k0 : (Val ae) → Option ρ) : Option ρ :=
  ifb (ilt v0 c1) (dI c0 v0 fun e7 => ifb (ieq e7.1 c2) (ca (bW ((List.length v1) + (List.length ([e7.2])))) (ck (v0 + (1 : Int)) fun n8 => kn n8 (v1 ++ ([e7.2])))) (ck (v0 + (1 : Int)) fun n9 => kn n9 v1)) (k0 v1)
def Nj (a0 : Val ba) (a1 : Val bj) (k : (Val ae) → Option ρ) : Option ρ :=
  bt (fun (v15 : (Val ax)) kk18 => rd a0.2.2.2.2.1 (bE a0.2.2.2.2.1) a1.1 v15.1 v15.2 (fun u16 u17 => kk18 (u16, u17)) (fun z6 => bt (fun (v11 : (Val ax)) kk14 => rc a0.2.2.2.2.2 (bE a0.2.2.2.2.2) a1.1 v11.1 v11.2 (fun u12 u13 => kk14 (u12, u13)) (fun z10 => ca (bW (List.length z10)) (ca (bW (List.length (yh z10))) (k (vv (yh z10)))))) ((0 : Int), z6))) ((0 : Int), [a1.2.1])
def me (a0 : Val ba) (a1 : Val bj) : Option ((Val ae)) := Nj a0 a1 some
def og (c3 : (Val ae)) (c4 : Int) (c12 : Int) (v0 : Int) (v1 : (Val aa)) (kn : Int → (Val aa) → Option ρ) (k0 : (Val aa) → Option ρ) : Option ρ :=
  ifb (ilt v0 c4) (dI c3 v0 fun e3 => ca (bW ((List.length v1) + (List.length ([(c12, e3)])))) (ck (v0 + (1 : Int)) fun n4 => kn n4 (v1 ++ ([(c12, e3)])))) (k0 v1)
def oh (c0 : (Val ac)) (c1 : Int) (c2 : Int) (c3 : Int) (c4 : (Val ac)) (c5 : (Val aa)) (c6 : (Val af)) (c7 : (Val ab)) (c8 : (Val aa)) (v0 : Int) (v1 : (Val aa)) (kn : Int → (Val aa) → Option ρ) (k0 : (Val aa) → Option ρ) : Option ρ :=
  ifb (ilt v0 c1) (dI c0 v0 fun e1 => aZ (me ((c2, c3), c4, c5, c6, c7, c8) e1) fun r2 => bt (fun (v7 : (Val az)) kk10 => og r2 (bE r2) e1.1 v7.1 v7.2 (fun u8 u9 => kk10 (u8, u9)) (fun z5 => ck (v0 + (1 : Int)) fun n6 => kn n6 z5)) ((0 : Int), v1)) (k0 v1)
def G9 (a0 : Val ba) (k : (Val aa) → Option ρ) : Option ρ :=
  bt (fun (v12 : (Val az)) kk15 => oh a0.2.1 (bE a0.2.1) a0.1.1 a0.1.2 a0.2.1 a0.2.2.1 a0.2.2.2.1 a0.2.2.2.2.1 a0.2.2.2.2.2 v12.1 v12.2 (fun u13 u14 => kk15 (u13, u14)) (fun z11 => k z11)) ((0 : Int), [])
def nm (a0 : Val ba) : Option ((Val aa)) := G9 a0 some
def oP (a0 : (Val ao)) (a1 : Int) (a2 : Int) (k : Int → Option ρ) : Option ρ :=
  ED (k := tI) (v := bj) a1 a0 (fun y1 => ifb (ilt a2 y1.2.1) (k (4 : Int)) (k (0 : Int))) (k (5 : Int))
def gM (a0 : (Val ao)) (a1 : Int) (a2 : Int) : Option (Int) := oP a0 a1 a2 some
def xE (a0 : Int) (a1 : Int) (a2 : (Val (.ptr ao))) (k : Int → Option ρ) : Option ρ :=
  aZ (jK a1) fun r1 => ifb (!r1) (k (1 : Int)) (aZ (gM a2 a0 a1) fun r2 => k r2)
def dw (a0 : Int) (a1 : Int) (a2 : (Val (.ptr ao))) : Option (Int) := xE a0 a1 a2 some
def iO (c0 : (Val af)) (c1 : Int) (c9 : Int) (c10 : Int) (c11 : Int) (v0 : Int) (kn : Int → Option ρ) (k0 : Int → Option ρ) (k1 : Unit → Option ρ) : Option ρ :=
  ifb (ilt v0 c1) (dI c0 v0 fun e5 => ifb (ieq e5.1 c9) (ifb (ile e5.2.1.1 c11) (ifb (ile c10 e5.2.1.2) (k0 v0) (ck (v0 + (1 : Int)) fun n6 => kn n6)) (ck (v0 + (1 : Int)) fun n7 => kn n7)) (ck (v0 + (1 : Int)) fun n8 => kn n8)) (k1 ())
def ft (c0 : (Val aa)) (c1 : Int) (c9 : Int) (c10 : Int) (c11 : Int) (v0 : Int) (kn : Int → Option ρ) (k0 : Int → Option ρ) (k1 : Unit → Option ρ) : Option ρ :=
  ifb (ilt v0 c1) (dI c0 v0 fun e10 => ifb (ieq e10.1 c9) (aZ (cM e10.2 c10 c11) fun r11 => ifb r11 (k0 v0) (ck (v0 + (1 : Int)) fun n12 => kn n12)) (ck (v0 + (1 : Int)) fun n13 => kn n13)) (k1 ())
def re (a0 : Val ba) (a1 : (Val ao)) (a2 : Int) (k : Int → Option ρ) : Option ρ :=
  dI a0.2.2.2.1 a2 fun e1 => aZ (fu e1.2.1 (0 : Int) (20000 : Int)) fun r2 => ifb (!r2) (k (1 : Int)) (aZ (cM e1.2.2 (0 : Int) (1048576 : Int)) fun r3 => ifb (!r3) (k (1 : Int)) (aZ (gM a1 e1.1 e1.2.1.1) fun r4 => ifb (ine r4 (0 : Int)) (k r4) (ca ((ile (0 : Int) a2) && (ile a2 (dt a0.2.2.2.1))) (bt (fun (v25 : Int) kk27 => iO (List.take (Int.toNat a2) a0.2.2.2.1) (bE (List.take (Int.toNat a2) a0.2.2.2.1)) e1.1 e1.2.1.1 e1.2.1.2 v25 (fun u26 => kk27 u26) (fun z9 => ifb (ige z9 (0 : Int)) (k (9 : Int)) (bt (fun (v16 : Int) kk18 => ft a0.2.2.1 (bE a0.2.2.1) e1.1 e1.2.1.1 e1.2.1.2 v16 (fun u17 => kk18 u17) (fun z14 => ifb (ige z14 (0 : Int)) (k (9 : Int)) (k (0 : Int))) (fun _ => k (0 : Int))) (0 : Int))) (fun _ => bt (fun (v22 : Int) kk24 => ft a0.2.2.1 (bE a0.2.2.1) e1.1 e1.2.1.1 e1.2.1.2 v22 (fun u23 => kk24 u23) (fun z20 => ifb (ige z20 (0 : Int)) (k (9 : Int)) (k (0 : Int))) (fun _ => k (0 : Int))) (0 : Int))) (0 : Int)))))
def fB (a0 : Val ba) (a1 : (Val ao)) (a2 : Int) : Option (Int) := re a0 a1 a2 some
def qZ (c0 : Int) (c1 : (Val ae)) (c2 : (Val ae)) (v0 : Int) (kn : Int → Option ρ) (k0 : Int → Option ρ) (k1 : Unit → Option ρ) : Option ρ :=
  ifb (ilt v0 c0) (ca ((ile (0 : Int) v0) && (ilt v0 (dt c2))) (gg c2 (Int.toNat v0) fun e1 => aZ (cY c1 e1) fun r2 => ifb r2 (k0 v0) (ck (v0 + (1 : Int)) fun n3 => kn n3))) (k1 ())
def i0 (c0 : (Val ae)) (v0 : Int) (v1 : Int) (v2 : (Val ae)) (kn : Int → Int → (Val ae) → Option ρ) (k0 : (Val ax) → Option ρ) : Option ρ :=
  ifb (ilt v1 (bE v2)) (ca ((ile (0 : Int) v1) && (ilt v1 (dt v2))) (gg v2 (Int.toNat v1) fun e6 => aZ (cY c0 e6) fun r7 => ifb (!r7) (ca ((ile (0 : Int) v0) && (ilt v0 (dt v2))) (gg v2 (Int.toNat v0) fun e8 => ck (v0 + (1 : Int)) fun n9 => ck (v1 + (1 : Int)) fun n10 => kn n9 n10 (List.set v2 (Int.toNat v0) e6))) (ck (v1 + (1 : Int)) fun n11 => kn v0 n11 v2))) (k0 (v0, v2))
def M9 (a0 : (Val ae)) (a1 : (Val ae)) (k : (Val ae) → Option ρ) : Option ρ :=
  ca (bW (List.length a0)) (bt (fun (v19 : Int) kk21 => qZ (bE a0) a1 a0 v19 (fun u20 => kk21 u20) (fun z4 => ifb (ieq z4 (-1 : Int)) (k a0) (ck (z4 + (1 : Int)) fun n5 => bt (fun (v13 : (Val (.pair tI ax))) kk17 => i0 a1 v13.1 v13.2.1 v13.2.2 (fun u14 u15 u16 => kk17 (u14, u15, u16)) (fun z12 => ca ((ile (0 : Int) z12.1) && (ile z12.1 (dt z12.2))) (ca ((ile (0 : Int) z12.1) && (ile z12.1 (dt (List.take (Int.toNat z12.1) z12.2 ++ List.replicate (List.length z12.2 - (Int.toNat z12.1)) (0 : Int) ++ List.drop ((Int.toNat z12.1) + (List.length z12.2 - (Int.toNat z12.1))) z12.2)))) (k (List.take (Int.toNat z12.1) (List.drop 0 (List.take (Int.toNat z12.1) z12.2 ++ List.replicate (List.length z12.2 - (Int.toNat z12.1)) (0 : Int) ++ List.drop ((Int.toNat z12.1) + (List.length z12.2 - (Int.toNat z12.1))) z12.2))))))) (z4, n5, a0))) (fun _ => k a0)) (0 : Int))
def eA (a0 : (Val ae)) (a1 : (Val ae)) : Option ((Val ae)) := M9 a0 a1 some
def dh (c1 : (Val am)) (c2 : Int) (v0 : Int) (v1 : Int) (kn : Int → Int → Option ρ) (k0 : Int → Option ρ) : Option ρ :=
  ifb (ilt v1 c2) (dI c1 v1 fun e1 => ck (v0 + (bE e1)) fun n2 => ifb (ilt n2 (0 : Int)) (none) (ck (v1 + (1 : Int)) fun n3 => kn n2 n3)) (k0 v0)
def bQ (c0 : (Val am)) (c1 : Int) (v0 : Int) (v1 : (Val ae)) (kn : Int → (Val ae) → Option ρ) (k0 : (Val ae) → Option ρ) : Option ρ :=
  ifb (ilt v0 c1) (dI c0 v0 fun e6 => ca (bW ((List.length v1) + (List.length e6))) (ck (v0 + (1 : Int)) fun n7 => kn n7 (v1 ++ e6))) (k0 v1)
def gT (a0 : (Val am)) (k : (Val ae) → Option ρ) : Option ρ :=
  bt (fun (v18 : Val aY) kk21 => dh a0 (bE a0) v18.1 v18.2 (fun u19 u20 => kk21 (u19, u20)) (fun z4 => ifb (ilt z4 (0 : Int)) (none) (ck (z4 - (0 : Int)) fun n5 => ifb (igt n5 (0 : Int)) (ca ((ilt (0 : Int) n5) && (bW (Int.toNat n5))) (ca (ile (0 : Int) (dt (List.replicate (Int.toNat n5) (0 : Int)))) (bt (fun (v9 : (Val ax)) kk12 => bQ a0 (bE a0) v9.1 v9.2 (fun u10 u11 => kk12 (u10, u11)) (fun z8 => k z8)) ((0 : Int), (List.take 0 (List.replicate (Int.toNat n5) (0 : Int))))))) (bt (fun (v14 : (Val ax)) kk17 => bQ a0 (bE a0) v14.1 v14.2 (fun u15 u16 => kk17 (u15, u16)) (fun z13 => k z13)) ((0 : Int), []))))) ((0 : Int), (0 : Int))
def bL (a0 : (Val am)) : Option ((Val ae)) := gT a0 some
def l6 (c0 : (Val ae)) (c1 : (Val ae)) (c2 : Int) (v0 : Int) (kn : Int → Option ρ) (k0 : Bool → Option ρ) (k1 : Unit → Option ρ) : Option ρ :=
  ifb (ilt v0 c2) (dI c1 v0 fun e1 => aZ (cM e1 (1 : Int) (1099511627776 : Int)) fun r2 => ifb (!r2) (k0 false) (ifb (igt v0 (0 : Int)) (ck (v0 - (1 : Int)) fun n3 => dI c0 n3 fun e4 => ifb (ile e1 e4) (k0 false) (ck (v0 + (1 : Int)) fun n5 => kn n5)) (ck (v0 + (1 : Int)) fun n6 => kn n6))) (k1 ())
def Cd (a0 : (Val ae)) (k : Bool → Option ρ) : Option ρ :=
  bt (fun (v9 : Int) kk11 => l6 a0 a0 (bE a0) v9 (fun u10 => kk11 u10) (fun z7 => k z7) (fun _ => k (ile (bE a0) (6 : Int)))) (0 : Int)
def ky (a0 : (Val ae)) : Option (Bool) := Cd a0 some
def rf (c0 : (Val af)) (c1 : Int) (c9 : Int) (c10 : Int) (v0 : Int) (kn : Int → Option ρ) (k0 : Int → Option ρ) (k1 : Unit → Option ρ) : Option ρ :=
  ifb (ilt v0 c1) (dI c0 v0 fun e1 => ifb (ieq e1.1 c9) (aZ (cM c10 e1.2.1.1 e1.2.1.2) fun r2 => ifb r2 (k0 v0) (ck (v0 + (1 : Int)) fun n3 => kn n3)) (ck (v0 + (1 : Int)) fun n4 => kn n4)) (k1 ())
def Nl (a0 : Val ba) (a1 : Int) (a2 : Int) (k : (Val (.pair dr .bool)) → Option ρ) : Option ρ :=
  bt (fun (v8 : Int) kk10 => rf a0.2.2.2.1 (bE a0.2.2.2.1) a1 a2 v8 (fun u9 => kk10 u9) (fun z5 => ifb (ilt z5 (0 : Int)) (k (((0 : Int), ((0 : Int), (0 : Int)), (0 : Int)), false)) (dI a0.2.2.2.1 z5 fun e6 => k (e6, true))) (fun _ => k (((0 : Int), ((0 : Int), (0 : Int)), (0 : Int)), false))) (0 : Int)
def vr (a0 : Val ba) (a1 : Int) (a2 : Int) : Option ((Val (.pair dr .bool))) := Nl a0 a1 a2 some
def gx (c0 : (Val ab)) (c1 : Int) (c9 : Int) (v0 : Int) (kn : Int → Option ρ) (k0 : Int → Option ρ) (k1 : Unit → Option ρ) : Option ρ :=
  ifb (ilt v0 c1) (dI c0 v0 fun e9 => ifb (ieq e9.1 c9) (k0 v0) (ck (v0 + (1 : Int)) fun n10 => kn n10)) (k1 ())
def gw (c0 : (Val ao)) (c2 : Int) (c5 : (Val ae)) (c6 : Int) (c15 : Int) (v0 : Int) (kn : Int → Option ρ) (k0 : Int → Option ρ) (k1 : Unit → Option ρ) : Option ρ :=
  ifb (ilt v0 c6) (dI c5 v0 fun e14 => aZ (gM c0 e14 c15) fun r15 => ifb (ieq r15 c2) (k0 c2) (ck (v0 + (1 : Int)) fun n16 => kn n16)) (k1 ())
def dM (c0 : (Val ao)) (c1 : (Val ae)) (c2 : Int) (c11 : Int) (c18 : (Val ae)) (v0 : Int) (kn : Int → Option ρ) (k0 : Int → Option ρ) (k1 : Unit → Option ρ) : Option ρ :=
  ifb (ilt v0 c2) (ca ((ile (0 : Int) v0) && (ilt v0 (dt c18))) (gg c18 (Int.toNat v0) fun e13 => bt (fun (v20 : Int) kk22 => gw c0 e13 c1 (bE c1) c11 v20 (fun u21 => kk22 u21) (fun z17 => k0 z17) (fun _ => ck (v0 + (1 : Int)) fun n19 => kn n19)) (0 : Int))) (k1 ())
def dL (c0 : (Val ae)) (c1 : Int) (c2 : Int) (c3 : Int) (c4 : (Val ac)) (c5 : (Val aa)) (c6 : (Val af)) (c7 : (Val ab)) (c8 : (Val aa)) (c10 : Int) (v0 : Int) (kn : Int → Option ρ) (k0 : Int → Option ρ) (k1 : Unit → Option ρ) : Option ρ :=
  ifb (ilt v0 c1) (dI c0 v0 fun e25 => aZ (vr ((c2, c3), c4, c5, c6, c7, c8) e25 c10) fun r26 => ifb r26.2 (k0 (9 : Int)) (ck (v0 + (1 : Int)) fun n27 => kn n27)) (k1 ())
def lJ (a0 : Val ba) (a1 : (Val ao)) (a2 : Int) (k : Int → Option ρ) : Option ρ :=
  dI a0.2.2.2.2.1 a2 fun e1 => aZ (cM e1.1 (1 : Int) (1099511627776 : Int)) fun r2 => ifb (!r2) (k (1 : Int)) (aZ (jK e1.2.1) fun r3 => ifb (!r3) (k (1 : Int)) (aZ (cM e1.2.2.2.2.1 (-1125899906842624 : Int) (1125899906842624 : Int)) fun r4 => ifb (!r4) (k (1 : Int)) (aZ (cM e1.2.2.2.2.2.1 (0 : Int) (1073741824 : Int)) fun r5 => ifb (!r5) (k (1 : Int)) (aZ (fu e1.2.2.2.2.2.2 (-10000 : Int) (10000 : Int)) fun r6 => ifb (!r6) (k (1 : Int)) (aZ (ky e1.2.2.1) fun r7 => ifb (!r7) (k (1 : Int)) (aZ (ky e1.2.2.2.1) fun r8 => ifb (!r8) (k (1 : Int)) (ca ((ile (0 : Int) a2) && (ile a2 (dt a0.2.2.2.2.1))) (bt (fun (v54 : Int) kk56 => gx (List.take (Int.toNat a2) a0.2.2.2.2.1) (bE (List.take (Int.toNat a2) a0.2.2.2.2.1)) e1.1 v54 (fun u55 => kk56 u55) (fun z11 => ifb (ige z11 (0 : Int)) (k (6 : Int)) (aZ (bL ([e1.2.2.1, e1.2.2.2.1])) fun r12 => bt (fun (v36 : Int) kk38 => dM a1 r12 (bE ([(5 : Int), (4 : Int)])) e1.2.1 ([(5 : Int), (4 : Int)]) v36 (fun u37 => kk38 u37) (fun z23 => k z23) (fun _ => bt (fun (v33 : Int) kk35 => dL r12 (bE r12) a0.1.1 a0.1.2 a0.2.1 a0.2.2.1 a0.2.2.2.1 a0.2.2.2.2.1 a0.2.2.2.2.2 e1.2.1 v33 (fun u34 => kk35 u34) (fun z28 => k z28) (fun _ => aZ (eA e1.2.2.1 e1.2.2.2.1) fun r30 => aZ (eA e1.2.2.2.1 e1.2.2.1) fun r31 => ifb (igt (bE r30) (1 : Int)) (k (1 : Int)) (ifb (igt (bE r31) (1 : Int)) (k (1 : Int)) (ck ((bE r30) + (bE r31)) fun n32 => ifb (ieq n32 (0 : Int)) (k (1 : Int)) (k (0 : Int)))))) (0 : Int))) (0 : Int))) (fun _ => aZ (bL ([e1.2.2.1, e1.2.2.2.1])) fun r40 => bt (fun (v51 : Int) kk53 => dM a1 r40 (bE ([(5 : Int), (4 : Int)])) e1.2.1 ([(5 : Int), (4 : Int)]) v51 (fun u52 => kk53 u52) (fun z41 => k z41) (fun _ => bt (fun (v48 : Int) kk50 => dL r40 (bE r40) a0.1.1 a0.1.2 a0.2.1 a0.2.2.1 a0.2.2.2.1 a0.2.2.2.2.1 a0.2.2.2.2.2 e1.2.1 v48 (fun u49 => kk50 u49) (fun z43 => k z43) (fun _ => aZ (eA e1.2.2.1 e1.2.2.2.1) fun r45 => aZ (eA e1.2.2.2.1 e1.2.2.1) fun r46 => ifb (igt (bE r45) (1 : Int)) (k (1 : Int)) (ifb (igt (bE r46) (1 : Int)) (k (1 : Int)) (ck ((bE r45) + (bE r46)) fun n47 => ifb (ieq n47 (0 : Int)) (k (1 : Int)) (k (0 : Int)))))) (0 : Int))) (0 : Int))) (0 : Int)))))))))
def dC (a0 : Val ba) (a1 : (Val ao)) (a2 : Int) : Option (Int) := lJ a0 a1 a2 some
def ln (b : Val ba) (s : Val ao) : Option (List Int) :=
  aZ (FX (fun u => dw u.1 u.2 s) (b.2.2.1 : List (Int × Int))) fun l1 => aZ (FX (fun i => fB b s i) (sI (b.2.2.2.1 : List (Val dr)).length)) fun l2 =>
    aZ (FX (fun i => dC b s i) (sI (b.2.2.2.2.1 : List (Val bm)).length)) fun l3 => aZ (FX (fun u => dw u.1 u.2 s) (b.2.2.2.2.2 : List (Int × Int))) fun l4 => some (l1 ++ (l2 ++ (l3 ++ l4)))
def Hp (a0 : Val ba) (k : Int → Option ρ) : Option ρ :=
  aZ (fu a0.1 (0 : Int) (1000000 : Int)) fun r1 => ifb (!r1) (k (1 : Int)) (ifb (igt (bE a0.2.1) (12 : Int)) (k (2 : Int)) (ifb (igt (bE a0.2.2.1) (40 : Int)) (k (2 : Int)) (ifb (igt (bE a0.2.2.2.1) (12 : Int)) (k (2 : Int)) (ifb (igt (bE a0.2.2.2.2.1) (40 : Int)) (k (2 : Int)) (ifb (igt (bE a0.2.2.2.2.2) (10 : Int)) (k (2 : Int)) (aZ (eZ a0) fun r2 => ifb (ine r2 (0 : Int)) (k r2) (aZ (df a0) fun r3 => OH (ln a0 r3) (fun e4 => k e4) (aZ (nm a0) fun r5 => ifb (igt (bE r5) (59 : Int)) (k (2 : Int)) (ck ((2 : Int) * (bE a0.2.1)) fun n6 => ck ((bE r5) - (bE a0.2.1)) fun n7 => ck ((2 : Int) * n7) fun n8 => ck (n6 + n8) fun n9 => ck ((2 : Int) * (bE a0.2.2.2.2.1)) fun n10 => ck (n9 + n10) fun n11 => ifb (igt n11 (300 : Int)) (k (2 : Int)) (k (0 : Int)))))))))))
def bZ (a0 : Val ba) : Option (Int) := Hp a0 some
def vl (l : List (Val bj)) (m : List (Int × Bool)) : Option (List (Val bj)) :=
  ca (bW l.length) (some (l.filter fun g => (mJ (k := tI) (v := .bool) g.1 m).getD false))
def pC (c0 : (Val ae)) (c1 : Int) (v0 : Int) (v1 : (Val aj)) (kn : Int → (Val aj) → Option ρ) (k0 : (Val aj) → Option ρ) : Option ρ :=
  ifb (ilt v0 c1) (dI c0 v0 fun e9 => ck (v0 + (1 : Int)) fun n10 => kn n10 (EU (k := tI) (v := .bool) e9 true v1)) (k0 v1)
def vd (c1 : (Val aa)) (c2 : Int) (c5 : (Val ac)) (c8 : (Val ab)) (v0 : Int) (v1 : (Val aj)) (v2 : (Val aj)) (kn : Int → (Val aj) → (Val aj) → Option ρ) (k0 : (Val (.pair aj aj)) → Option ρ) : Option ρ :=
  ifb (ilt v0 c2) (dI c1 v0 fun e1 => ifb (ff e1.1 0) (none) (ifb (ff e1.1 1) (dI c5 e1.2 fun e2 => ck (v0 + (1 : Int)) fun n3 => kn n3 (EU (k := tI) (v := .bool) e2.1 true v1) v2) (ifb (ff e1.1 2) (dI c5 e1.2 fun e4 => ck (v0 + (1 : Int)) fun n5 => kn n5 (EU (k := tI) (v := .bool) e4.1 true v1) v2) (ca (ff e1.1 3) (dI c8 e1.2 fun e6 => dI c8 e1.2 fun e7 => aZ (bL ([e6.2.2.1, e7.2.2.2.1])) fun r8 => bt (fun (v13 : (Val (.pair tI aj))) kk16 => pC r8 (bE r8) v13.1 v13.2 (fun u14 u15 => kk16 (u14, u15)) (fun z11 => ck (v0 + (1 : Int)) fun n12 => kn n12 z11 (EU (k := tI) (v := .bool) e1.2 true v2))) ((0 : Int), v1)))))) (k0 (v1, v2))
def pB (c1 : (Val aa)) (c2 : Int) (v0 : Int) (v1 : (Val aj)) (kn : Int → (Val aj) → Option ρ) (k0 : (Val aj) → Option ρ) : Option ρ :=
  ifb (ilt v0 c2) (dI c1 v0 fun e18 => ck (v0 + (1 : Int)) fun n19 => kn n19 (EU (k := tI) (v := .bool) e18.1 true v1)) (k0 v1)
def pA (c0 : (Val aa)) (c1 : Int) (c19 : (Val aj)) (v0 : Int) (v1 : (Val aa)) (kn : Int → (Val aa) → Option ρ) (k0 : (Val aa) → Option ρ) : Option ρ :=
  ifb (ilt v0 c1) (dI c0 v0 fun e21 => ED (k := tI) (v := .bool) e21.1 c19 (fun y22 => ifb y22 (ca (bW ((List.length v1) + (List.length ([e21])))) (ck (v0 + (1 : Int)) fun n23 => kn n23 (v1 ++ ([e21])))) (ck (v0 + (1 : Int)) fun n24 => kn n24 v1)) (ck (v0 + (1 : Int)) fun n25 => kn n25 v1)) (k0 v1)
def pz (c0 : (Val af)) (c1 : Int) (c19 : (Val aj)) (v0 : Int) (v1 : (Val af)) (kn : Int → (Val af) → Option ρ) (k0 : (Val af) → Option ρ) : Option ρ :=
  ifb (ilt v0 c1) (dI c0 v0 fun e27 => ED (k := tI) (v := .bool) e27.1 c19 (fun y28 => ifb y28 (ca (bW ((List.length v1) + (List.length ([e27])))) (ck (v0 + (1 : Int)) fun n29 => kn n29 (v1 ++ ([e27])))) (ck (v0 + (1 : Int)) fun n30 => kn n30 v1)) (ck (v0 + (1 : Int)) fun n31 => kn n31 v1)) (k0 v1)
def pw (c0 : (Val ab)) (c1 : Int) (c12 : (Val aj)) (v0 : Int) (v1 : (Val ab)) (kn : Int → (Val ab) → Option ρ) (k0 : (Val ab) → Option ρ) : Option ρ :=
  ifb (ilt v0 c1) (dI c0 v0 fun e33 => ED (k := tI) (v := .bool) v0 c12 (fun y34 => ifb y34 (ca (bW (List.length e33.2.2.1)) (ca (bW (List.length e33.2.2.2.1)) (ca (bW ((List.length v1) + (List.length ([e33])))) (ck (v0 + (1 : Int)) fun n35 => kn n35 (v1 ++ ([e33])))))) (ck (v0 + (1 : Int)) fun n36 => kn n36 v1)) (ck (v0 + (1 : Int)) fun n37 => kn n37 v1)) (k0 v1)
def la (p : (Val aL)) (v : (Val ag)) (k : Val ba → Option ρ) : Option ρ :=
  bt (fun (v47 : (Val az)) kk50 => pA v.2.2.2.1 (bE v.2.2.2.1) v.2.2.2.2.2.2.2.2.2.2.2.2.2.2.2.2.2.2.2.2.2.1 v47.1 v47.2 (fun u48 u49 => kk50 (u48, u49)) (fun z26 => bt (fun (v43 : (Val (.pair tI af))) kk46 => pz v.2.2.2.2.1 (bE v.2.2.2.2.1) v.2.2.2.2.2.2.2.2.2.2.2.2.2.2.2.2.2.2.2.2.2.1 v43.1 v43.2 (fun u44 u45 => kk46 (u44, u45)) (fun z32 => bt (fun (v39 : (Val (.pair tI ab))) kk42 => pw v.2.2.2.2.2.1 (bE v.2.2.2.2.2.1) v.2.2.2.2.2.2.2.2.2.2.2.2.2.2.2.2.2.2.2.2.2.2.1 v39.1 v39.2 (fun u40 u41 => kk42 (u40, u41)) (fun z38 => k ((p.1, p.2.1), v.2.2.2.2.2.2.2.2.2.2.2.2.2.2.2.2.2.2.2.2.2.2.2, z26, z32, z38, p.2.2))) ((0 : Int), []))) ((0 : Int), []))) ((0 : Int), [])
def ze (a0 : Val ba) (a1 : (Val aa)) (a2 : (Val aa)) (kA : (Val aL) → (Val ag) → Option ρ) : Option ρ :=
  bt (fun (v55 : (Val (.pair tI (.pair aj aj)))) kk59 => vd a1 (bE a1) a0.2.1 a0.2.2.2.2.1 v55.1 v55.2.1 v55.2.2 (fun u56 u57 u58 => kk59 (u56, u57, u58)) (fun z17 => bt (fun (v51 : (Val (.pair tI aj))) kk54 => pB a2 (bE a2) v51.1 v51.2 (fun u52 u53 => kk54 (u52, u53)) (fun z20 => kA (a0.1.1, a0.1.2, a2) (a0.1.1, a0.1.2, a0.2.1, a0.2.2.1, a0.2.2.2.1, a0.2.2.2.2.1, a0.2.2.2.2.2, (0 : Int), (0 : Int), [], [], [], [], [], a0.1.1, a0.1.2, a0.2.1, a0.2.2.1, a0.2.2.2.1, a0.2.2.2.2.1, a0.2.2.2.2.2, z20, z17.2, []))) ((0 : Int), z17.1))) ((0 : Int), [], [])
def WE (a0 : Val ba) (a1 : (Val aa)) (a2 : (Val aa)) (k : Val ba → Option ρ) : Option ρ :=
  ze a0 a1 a2 fun p v => aZ (vl v.2.2.2.2.2.2.2.2.2.2.2.2.2.2.2.2.1 v.2.2.2.2.2.2.2.2.2.2.2.2.2.2.2.2.2.2.2.2.2.1) fun z => la p (v.1, v.2.1, v.2.2.1, v.2.2.2.1, v.2.2.2.2.1, v.2.2.2.2.2.1, v.2.2.2.2.2.2.1, v.2.2.2.2.2.2.2.1, v.2.2.2.2.2.2.2.2.1, v.2.2.2.2.2.2.2.2.2.1, v.2.2.2.2.2.2.2.2.2.2.1, v.2.2.2.2.2.2.2.2.2.2.2.1, v.2.2.2.2.2.2.2.2.2.2.2.2.1, v.2.2.2.2.2.2.2.2.2.2.2.2.2.1, v.2.2.2.2.2.2.2.2.2.2.2.2.2.2.1, v.2.2.2.2.2.2.2.2.2.2.2.2.2.2.2.1, v.2.2.2.2.2.2.2.2.2.2.2.2.2.2.2.2.1, v.2.2.2.2.2.2.2.2.2.2.2.2.2.2.2.2.2.1, v.2.2.2.2.2.2.2.2.2.2.2.2.2.2.2.2.2.2.1, v.2.2.2.2.2.2.2.2.2.2.2.2.2.2.2.2.2.2.2.1, v.2.2.2.2.2.2.2.2.2.2.2.2.2.2.2.2.2.2.2.2.1, v.2.2.2.2.2.2.2.2.2.2.2.2.2.2.2.2.2.2.2.2.2.1, v.2.2.2.2.2.2.2.2.2.2.2.2.2.2.2.2.2.2.2.2.2.2.1, z) k
def HN (a0 : Val ba) (a1 : (Val aa)) (a2 : (Val aa)) : Option (Val ba) := WE a0 a1 a2 some
end Go.Proofs.ZzM
end

noncomputable section
variable {ρ : Type}
set_option maxRecDepth 100000
namespace Go.Proofs.ZzM
open Go Go.Am
def Bt (a0 : Val bm) (k : Bool → Option ρ) : Option ρ :=
  ifb (ile (bE a0.2.2.1) (10 : Int)) (k (ile (bE a0.2.2.2.1) (10 : Int))) (k false)
def vo (a0 : Val bm) : Option (Bool) := Bt a0 some
def qr (c5 : (Val ab)) (v0 : Int) (kn : Int → Option ρ) (k0 : Bool → Option ρ) (k1 : Unit → Option ρ) : Option ρ :=
  ifb (ilt v0 (bE c5)) (ifb (ilt v0 (50 : Int)) (dI c5 v0 fun e1 => aZ (vo e1) fun r2 => ifb (!r2) (k0 false) (ck (v0 + (1 : Int)) fun n3 => kn n3)) (k1 ())) (k1 ())
def L3 (a0 : Val ba) (k : Bool → Option ρ) : Option ρ :=
  bt (fun (v6 : Int) kk8 => qr a0.2.2.2.2.1 v6 (fun u7 => kk8 u7) (fun z4 => k z4) (fun _ => ifb (ile (bE a0.2.1) (14 : Int)) (ifb (ile (bE a0.2.2.1) (45 : Int)) (ifb (ile (bE a0.2.2.2.1) (14 : Int)) (ifb (ile (bE a0.2.2.2.2.1) (42 : Int)) (k (ile (bE a0.2.2.2.2.2) (12 : Int))) (k false)) (k false)) (k false)) (k false))) (0 : Int)
def E8 (a0 : Val ba) : Option (Bool) := L3 a0 some
def qY (c0 : Int) (c1 : Int) (c2 : (Val af)) (c3 : Int) (c11 : Int) (v0 : Int) (v1 : Int) (kn : Int → Int → Option ρ) (k0 : Int → Option ρ) : Option ρ :=
  ifb (ilt v1 c3) (dI c2 v1 fun e1 => ck (c1 - (1 : Int)) fun n2 => ck ((Rc e1.2.1.2 n2) - (Rd e1.2.1.1 c0)) fun n3 => ck (n3 + (1 : Int)) fun n4 => ifb (ieq e1.1 c11) (ifb (igt n4 (0 : Int)) (ck (n4 * e1.2.2) fun n5 => ck (v0 + n5) fun n6 => ck (v1 + (1 : Int)) fun n7 => kn n6 n7) (ck (v1 + (1 : Int)) fun n8 => kn v0 n8)) (ck (v1 + (1 : Int)) fun n9 => kn v0 n9)) (k0 v0)
def qX (c0 : Int) (c1 : Int) (c3 : (Val aa)) (c4 : Int) (c5 : Int) (v0 : Int) (v1 : (Val ae)) (kn : Int → (Val ae) → Option ρ) (k0 : (Val ae) → Option ρ) : Option ρ :=
  ifb (ilt v0 c4) (dI c3 v0 fun e11 => ifb (ieq e11.1 c5) (ck (c1 - (1 : Int)) fun n12 => aZ (cM e11.2 c0 n12) fun r13 => ifb r13 (ca (bW ((List.length v1) + (List.length ([e11.2])))) (ck (v0 + (1 : Int)) fun n14 => kn n14 (v1 ++ ([e11.2])))) (ck (v0 + (1 : Int)) fun n15 => kn n15 v1)) (ck (v0 + (1 : Int)) fun n16 => kn n16 v1)) (k0 v1)
def M6 (a0 : Val ba) (a1 : Val bj) (a2 : Int) (a3 : Int) (k : Int → Option ρ) : Option ρ :=
  bt (fun (v24 : Val aY) kk27 => qY a2 a3 a0.2.2.2.1 (bE a0.2.2.2.1) a1.1 v24.1 v24.2 (fun u25 u26 => kk27 (u25, u26)) (fun z10 => bt (fun (v20 : (Val ax)) kk23 => qX a2 a3 a0.2.2.1 (bE a0.2.2.1) a1.1 v20.1 v20.2 (fun u21 u22 => kk23 (u21, u22)) (fun z17 => ca (bW (List.length z17)) (ca (bW (List.length (yh z17))) (ck ((bE (vv (yh z17))) * a1.2.2.2.2.2) fun n18 => ck (z10 + n18) fun n19 => k n19)))) ((0 : Int), []))) ((0 : Int), (0 : Int))
def ot (a0 : Val ba) (a1 : Val bj) (a2 : Int) (a3 : Int) : Option (Int) := M6 a0 a1 a2 a3 some
def cZ (c0 : (Val aa)) (c1 : Int) (c2 : Int) (c3 : Int) (v0 : Int) (kn : Int → Option ρ) (k0 : Int → Option ρ) (k1 : Unit → Option ρ) : Option ρ :=
  ifb (ilt v0 c1) (dI c0 v0 fun e1 => ifb ((ff c2 e1.1) && ((ff c3 e1.2) && true)) (k0 v0) (ck (v0 + (1 : Int)) fun n2 => kn n2)) (k1 ())
def eV (a0 : (Val aa)) (a1 : Val aY) (k : Int → Option ρ) : Option ρ :=
  bt (fun (v5 : Int) kk7 => cZ a0 (bE a0) a1.1 a1.2 v5 (fun u6 => kk7 u6) (fun z3 => k z3) (fun _ => k (-1 : Int))) (0 : Int)
def bY (a0 : (Val aa)) (a1 : Val aY) : Option (Int) := eV a0 a1 some
def tU (a0 : (Val aO)) (a1 : (Val ae)) (a2 : Int) (k : Int → Option ρ) : Option ρ :=
  ifb (ieq (bE a1) (0 : Int)) (k (0 : Int)) (dI a1 (0 : Int) fun e1 => aZ (bY a0.2.1 (e1, a2)) fun r2 => ck (r2 + (1 : Int)) fun n3 => k n3)
def gn (a0 : (Val aO)) (a1 : (Val ae)) (a2 : Int) : Option (Int) := tU a0 a1 a2 some
def lI (a0 : (Val ao)) (a1 : (Val ae)) (k : Val aY → Option ρ) : Option ρ :=
  ifb (ieq (bE a1) (0 : Int)) (k ((0 : Int), (1 : Int))) (dI a1 (0 : Int) fun e1 => ED (k := tI) (v := bj) e1 a0 (fun y2 => k y2.2.2.2.2.1) (k ((0 : Int), (0 : Int))))
def gK (a0 : (Val ao)) (a1 : (Val ae)) : Option (Val aY) := lI a0 a1 some
def ob (c0 : (Val aa)) (c1 : Int) (v0 : Int) (kn : Int → Option ρ) (k0 : Int → Option ρ) (k1 : Unit → Option ρ) : Option ρ :=
  ifb (ilt v0 c1) (dI c0 v0 fun e1 => aZ (pZ e1) fun r2 => ifb (!r2) (k0 (1 : Int)) (ck (v0 + (1 : Int)) fun n3 => kn n3)) (k1 ())
def GN (a0 : (Val aa)) (k : Int → Option ρ) : Option ρ :=
  bt (fun (v6 : Int) kk8 => ob a0 (bE a0) v6 (fun u7 => kk8 u7) (fun z4 => k z4) (fun _ => k (0 : Int))) (0 : Int)
def iK (a0 : (Val aa)) : Option (Int) := GN a0 some
def xA (a0 : Int) (a1 : Int) (k : Val jk → Option ρ) : Option ρ :=
  aZ (oq a0) fun r1 => aZ (oq a1) fun r2 => aZ (HO r1 r2) fun r3 => ifb (ff r3 0) (none) (ifb (ff r3 0) (none) (ifb (igt (IntKind.wrap .u64 (Int.tdiv r1 r3)) (2147483647 : Int)) (k (((0 : Int), (0 : Int)), (3 : Int))) (ifb (igt (IntKind.wrap .u64 (Int.tdiv r2 r3)) (2147483647 : Int)) (k (((0 : Int), (0 : Int)), (3 : Int))) (ifb (!((ilt a0 (0 : Int)) == (ilt a1 (0 : Int)))) (ck (0 - (IntKind.wrap .i64 (IntKind.wrap .u64 (Int.tdiv r1 r3)))) fun n4 => k ((n4, (IntKind.wrap .i64 (IntKind.wrap .u64 (Int.tdiv r2 r3)))), (0 : Int))) (k (((IntKind.wrap .i64 (IntKind.wrap .u64 (Int.tdiv r1 r3))), (IntKind.wrap .i64 (IntKind.wrap .u64 (Int.tdiv r2 r3)))), (0 : Int)))))))
def nl (a0 : Int) (a1 : Int) : Option (Val jk) := xA a0 a1 some
def R4 (a0 : Val aY) (a1 : Val aY) (k : Val jk → Option ρ) : Option ρ :=
  aZ (iK ([a0, a1])) fun r1 => ifb (ine r1 (0 : Int)) (k (((0 : Int), (0 : Int)), r1)) (ck (a0.1 * a1.2) fun n2 => ck (a1.1 * a0.2) fun n3 => ck (n2 - n3) fun n4 => ck (a0.2 * a1.2) fun n5 => aZ (nl n4 n5) fun r6 => k (r6.1, r6.2))
def NH (a0 : Val aY) (a1 : Val aY) : Option (Val jk) := R4 a0 a1 some
def qS (a0 : Val aY) (a1 : Val aY) (k : Val aY → Option ρ) : Option ρ :=
  aZ (NH a0 a1) fun r1 => k r1.1
def rq (a0 : Val aY) (a1 : Val aY) : Option (Val aY) := qS a0 a1 some
def R2 (a0 : Val aY) (a1 : Val aY) (k : Int → Option ρ) : Option ρ :=
  ck (a0.1 * a1.2) fun n1 => ck (a1.1 * a0.2) fun n2 => ifb ((ff a0.1 a1.1) && ((ff a0.2 a1.2) && true)) (k (0 : Int)) (ifb (ilt n1 n2) (k (-1 : Int)) (ifb (igt n1 n2) (k (1 : Int)) (k (0 : Int))))
def HP (a0 : Val aY) (a1 : Val aY) : Option (Int) := R2 a0 a1 some
def oO (a0 : Val cd) (k : Bool → Option ρ) : Option ρ :=
  aZ (iK ([a0.1, a0.2])) fun r1 => ifb (ieq r1 (0 : Int)) (aZ (HP a0.1 a0.2) fun r2 => k (ile r2 (0 : Int))) (k false)
def oU (a0 : Val cd) : Option (Bool) := oO a0 some
def R6 (a0 : Val aY) (a1 : Val aY) (k : Val jk → Option ρ) : Option ρ :=
  aZ (iK ([a0, a1])) fun r1 => ifb (ine r1 (0 : Int)) (k (((0 : Int), (0 : Int)), r1)) (ck (a0.1 * a1.1) fun n2 => ck (a0.2 * a1.2) fun n3 => aZ (nl n2 n3) fun r4 => k (r4.1, r4.2))
def HS (a0 : Val aY) (a1 : Val aY) : Option (Val jk) := R6 a0 a1 some
def GX (a0 : Val cd) (a1 : Val aY) (k : Val VP → Option ρ) : Option ρ :=
  aZ (oU a0) fun r1 => ifb (!r1) (k ((((0 : Int), (0 : Int)), (0 : Int), (0 : Int)), (1 : Int))) (aZ (pZ a1) fun r2 => ifb (!r2) (k ((((0 : Int), (0 : Int)), (0 : Int), (0 : Int)), (1 : Int))) (aZ (HS a1 a0.1) fun r3 => ifb (ine r3.2 (0 : Int)) (k ((((0 : Int), (0 : Int)), (0 : Int), (0 : Int)), r3.2)) (aZ (HS a1 a0.2) fun r4 => ifb (ine r4.2 (0 : Int)) (k ((((0 : Int), (0 : Int)), (0 : Int), (0 : Int)), r4.2)) (aZ (HP r3.1 r4.1) fun r5 => ifb (igt r5 (0 : Int)) (k ((r4.1, r3.1), (0 : Int))) (k ((r3.1, r4.1), (0 : Int)))))))
def HQ (a0 : Val cd) (a1 : Val aY) : Option (Val VP) := GX a0 a1 some
def qR (a0 : Val aY) (a1 : Val aY) (k : Val cd → Option ρ) : Option ρ :=
  aZ (HQ ((a1.1, (1 : Int)), a1.2, (1 : Int)) a0) fun r1 => k r1.1
def md (a0 : Val aY) (a1 : Val aY) : Option (Val cd) := qR a0 a1 some
def Cf (a0 : Val ba) (a1 : Val bm) (k : Val cd → Option ρ) : Option ρ :=
  aZ (df a0) fun r1 => aZ (eA a1.2.2.1 a1.2.2.2.1) fun r2 => aZ (gK r1 r2) fun r3 => aZ (eA a1.2.2.2.1 a1.2.2.1) fun r4 => aZ (gK r1 r4) fun r5 => aZ (rq r3 r5) fun r6 => aZ (md r6 a1.2.2.2.2.2.2) fun r7 => k r7
def mz (a0 : Val ba) (a1 : Val bm) : Option (Val cd) := Cf a0 a1 some
def Hj (a0 : Val ba) (a1 : Val bm) (k : Val aY → Option ρ) : Option ρ :=
  ck ((bE a1.2.2.1) - (1 : Int)) fun n1 => ck ((bE a1.2.2.2.1) - (1 : Int)) fun n2 => ck ((Rd (0 : Int) n1) * a0.1.1) fun n3 => ck ((Rd (0 : Int) n2) * a0.1.2) fun n4 => ck (n3 - n4) fun n5 => ck ((Rd (0 : Int) n1) * a0.1.2) fun n6 => ck ((Rd (0 : Int) n2) * a0.1.1) fun n7 => ck (n6 - n7) fun n8 => k (n5, n8)
def p9 (a0 : Val ba) (a1 : Val bm) : Option (Val aY) := Hj a0 a1 some
def GS (a0 : Int) (a1 : Int) (k : Int → Option ρ) : Option ρ :=
  ifb (ff a1 0) (none) (ck (Int.tdiv a0 a1) fun n1 => ifb (ff a1 0) (none) (ifb (ilt (Int.tmod a0 a1) (0 : Int)) (ck (n1 - (1 : Int)) fun n2 => k n2) (k n1)))
def uC (a0 : Int) (a1 : Int) : Option (Int) := GS a0 a1 some
def MR (a0 : Val aY) (k : Val aY → Option ρ) : Option ρ :=
  aZ (iK ([a0])) fun r1 => ifb (ine r1 (0 : Int)) (k ((0 : Int), r1)) (ck (0 - a0.1) fun n2 => aZ (uC n2 a0.2) fun r3 => ck (0 - r3) fun n4 => k (n4, (0 : Int)))
def AK (a0 : Val aY) : Option (Val aY) := MR a0 some
def G0 (a0 : Val aY) (k : Val aY → Option ρ) : Option ρ :=
  aZ (iK ([a0])) fun r1 => ifb (ine r1 (0 : Int)) (k ((0 : Int), r1)) (aZ (uC a0.1 a0.2) fun r2 => k (r2, (0 : Int)))
def uD (a0 : Val aY) : Option (Val aY) := G0 a0 some
def MV (a0 : Val ba) (a1 : Val bm) (k : Val aY → Option ρ) : Option ρ :=
  aZ (mz a0 a1) fun r1 => aZ (p9 a0 a1) fun r2 => aZ (uD r1.2) fun r3 => aZ (AK r1.1) fun r4 => ck (a1.2.2.2.2.1 - a1.2.2.2.2.2.1) fun n5 => ck (n5 - r2.2) fun n6 => ck (n6 - r3.1) fun n7 => ck (a1.2.2.2.2.1 + a1.2.2.2.2.2.1) fun n8 => ck (n8 - r2.1) fun n9 => ck (n9 - r4.1) fun n10 => k (n7, n10)
def ro (a0 : Val ba) (a1 : Val bm) : Option (Val aY) := MV a0 a1 some
def qV (c0 : Int) (c1 : (Val ae)) (c2 : Int) (c13 : Int) (c14 : Int) (c15 : (Val ac)) (c16 : (Val aa)) (c17 : (Val af)) (c18 : (Val ab)) (c19 : (Val aa)) (c22 : Int) (c23 : Int) (c24 : Int) (c25 : Int) (c26 : Int) (c27 : Int) (c28 : Int) (c29 : Int) (v0 : Int) (v1 : (Val ah)) (v2 : (Val aa)) (kn : Int → (Val ah) → (Val aa) → Option ρ) (k0 : Val ye → Option ρ) : Option ρ :=
  ifb (ilt v0 (bE c1)) (ck (c2 + v0) fun n9 => ck (n9 - (1 : Int)) fun n10 => ck (c2 + v0) fun n11 => ck (v0 - (1 : Int)) fun n12 => dI c1 n12 fun e13 => dI c1 v0 fun e14 => aZ (ot ((c13, c14), c15, c16, c17, c18, c19) (c22, c23, c24, (c25, c26), (c27, c28), c29) e13 e14) fun r15 => ck (0 - r15) fun n16 => ck (0 - n16) fun n17 => ca (bW ((List.length v1) + (List.length ([(n10, n11, (0 : Int)), (n11, n10, n17)])))) (ca (bW ((List.length v2) + (List.length ([((2 : Int), c0), ((2 : Int), c0)])))) (ck (v0 + (1 : Int)) fun n18 => kn n18 (v1 ++ ([(n10, n11, (0 : Int)), (n11, n10, n17)])) (v2 ++ ([((2 : Int), c0), ((2 : Int), c0)]))))) (k0 (v1, v2))
def qW (c0 : (Val ac)) (c1 : Int) (c9 : Int) (c10 : Int) (c11 : (Val ac)) (c12 : (Val aa)) (c13 : (Val af)) (c14 : (Val ab)) (c15 : (Val aa)) (c16 : (Val aa)) (c17 : Int) (v0 : Int) (v1 : (Val ah)) (v2 : (Val aa)) (kn : Int → (Val ah) → (Val aa) → Option ρ) (k0 : Val ye → Option ρ) : Option ρ :=
  ifb (ilt v0 c1) (dI c0 v0 fun e3 => aZ (me ((c9, c10), c11, c12, c13, c14, c15) e3) fun r4 => aZ (gn (((c9, c10), c11, c12, c13, c14, c15), c16, (c17, v1), v2) ([e3.1]) e3.2.1) fun r5 => ck (e3.2.2.1 + e3.2.2.2.1.1) fun n6 => ck (e3.2.2.1 + e3.2.2.2.1.2) fun n7 => ck (0 - n6) fun n8 => ca (bW ((List.length v1) + (List.length ([((0 : Int), r5, n7), (r5, (0 : Int), n8)])))) (ca (bW ((List.length v2) + (List.length ([((1 : Int), v0), ((1 : Int), v0)])))) (bt (fun (v21 : (Val (.pair tI ye))) kk25 => qV v0 r4 r5 c9 c10 c11 c12 c13 c14 c15 e3.1 e3.2.1 e3.2.2.1 e3.2.2.2.1.1 e3.2.2.2.1.2 e3.2.2.2.2.1.1 e3.2.2.2.2.1.2 e3.2.2.2.2.2 v21.1 v21.2.1 v21.2.2 (fun u22 u23 u24 => kk25 (u22, u23, u24)) (fun z19 => ck (v0 + (1 : Int)) fun n20 => kn n20 z19.1 z19.2)) ((1 : Int), (v1 ++ ([((0 : Int), r5, n7), (r5, (0 : Int), n8)])), (v2 ++ ([((1 : Int), v0), ((1 : Int), v0)])))))) (k0 (v1, v2))
def qU (c0 : (Val ab)) (c1 : Int) (c9 : Int) (c10 : Int) (c11 : (Val ac)) (c12 : (Val aa)) (c13 : (Val af)) (c14 : (Val ab)) (c15 : (Val aa)) (c16 : (Val aa)) (c17 : Int) (v0 : Int) (v1 : (Val ah)) (v2 : (Val aa)) (kn : Int → (Val ah) → (Val aa) → Option ρ) (k0 : Val ye → Option ρ) : Option ρ :=
  ifb (ilt v0 c1) (dI c0 v0 fun e27 => aZ (eA e27.2.2.2.1 e27.2.2.1) fun r28 => aZ (gn (((c9, c10), c11, c12, c13, c14, c15), c16, (c17, v1), v2) r28 e27.2.1) fun r29 => aZ (eA e27.2.2.1 e27.2.2.2.1) fun r30 => aZ (gn (((c9, c10), c11, c12, c13, c14, c15), c16, (c17, v1), v2) r30 e27.2.1) fun r31 => aZ (ro ((c9, c10), c11, c12, c13, c14, c15) e27) fun r32 => ck (0 - r32.1) fun n33 => ca (bW ((List.length v1) + (List.length ([(r29, r31, r32.2), (r31, r29, n33)])))) (ca (bW ((List.length v2) + (List.length ([((3 : Int), v0), ((3 : Int), v0)])))) (ck (v0 + (1 : Int)) fun n34 => kn n34 (v1 ++ ([(r29, r31, r32.2), (r31, r29, n33)])) (v2 ++ ([((3 : Int), v0), ((3 : Int), v0)]))))) (k0 (v1, v2))
def M3 (a0 : Val ba) (k : (Val aO) → Option ρ) : Option ρ :=
  aZ (nm a0) fun r1 => ck ((bE r1) + (1 : Int)) fun n2 => bt (fun (v41 : (Val (.pair tI ye))) kk45 => qW a0.2.1 (bE a0.2.1) a0.1.1 a0.1.2 a0.2.1 a0.2.2.1 a0.2.2.2.1 a0.2.2.2.2.1 a0.2.2.2.2.2 r1 n2 v41.1 v41.2.1 v41.2.2 (fun u42 u43 u44 => kk45 (u42, u43, u44)) (fun z26 => bt (fun (v36 : (Val (.pair tI ye))) kk40 => qU a0.2.2.2.2.1 (bE a0.2.2.2.2.1) a0.1.1 a0.1.2 a0.2.1 a0.2.2.1 a0.2.2.2.1 a0.2.2.2.2.1 a0.2.2.2.2.2 r1 n2 v36.1 v36.2.1 v36.2.2 (fun u37 u38 u39 => kk40 (u37, u38, u39)) (fun z35 => k (a0, r1, (n2, z35.1), z35.2))) ((0 : Int), z26.1, z26.2))) ((0 : Int), [], [])
def AO (a0 : Val ba) : Option ((Val aO)) := M3 a0 some
def Cj (a0 : Val ba) (k : (Val (.pair bo (.pair aa tI))) → Option ρ) : Option ρ :=
  aZ (bZ a0) fun r1 => ifb (ine r1 (0 : Int)) (k (((0 : Int), []), [], r1)) (aZ (AO a0) fun r2 => k (r2.2.2.1, r2.2.2.2, (0 : Int)))
def dc (a0 : Val ba) : Option ((Val (.pair bo (.pair aa tI)))) := Cj a0 some
def Ho (a0 : Val ba) (a1 : Val aY) (k : Val aY → Option ρ) : Option ρ :=
  aZ (bZ a0) fun r1 => ifb (ine r1 (0 : Int)) (k ((0 : Int), r1)) (aZ (nm a0) fun r2 => aZ (bY r2 a1) fun r3 => ifb (ilt r3 (0 : Int)) (k ((0 : Int), (5 : Int))) (ck (r3 + (1 : Int)) fun n4 => k (n4, (0 : Int))))
def er (a0 : Val ba) (a1 : Val aY) : Option (Val aY) := Ho a0 a1 some
def xm (a0 : (Val au)) (a1 : Val aY) (k : Int → Option ρ) : Option ρ :=
  aZ (er a0.1 a1) fun r1 => k r1.1
def fJ (a0 : (Val au)) (a1 : Val aY) : Option (Int) := xm a0 a1 some
def MC (a0 : Val bo) (a1 : Int) (k : Bool → Option ρ) : Option ρ :=
  ifb (ige a1 (0 : Int)) (k (ilt a1 a0.1)) (k false)
def oo (a0 : Val bo) (a1 : Int) : Option (Bool) := MC a0 a1 some
def nX (c0 : (Val ah)) (c1 : Int) (c2 : Int) (c3 : (Val ah)) (v0 : Int) (kn : Int → Option ρ) (k0 : Val aY → Option ρ) (k1 : Unit → Option ρ) : Option ρ :=
  ifb (ilt v0 c1) (dI c0 v0 fun e1 => aZ (oo (c2, c3) e1.1) fun r2 => ifb (!r2) (k0 ((1 : Int), v0)) (aZ (oo (c2, c3) e1.2.1) fun r3 => ifb (!r3) (k0 ((1 : Int), v0)) (ifb (ieq e1.1 e1.2.1) (k0 ((1 : Int), v0)) (ifb (ilt e1.2.2 (-4503599627370496 : Int)) (k0 ((1 : Int), v0)) (ifb (igt e1.2.2 (4503599627370496 : Int)) (k0 ((1 : Int), v0)) (ck (v0 + (1 : Int)) fun n4 => kn n4)))))) (k1 ())
def GE (a0 : Val bo) (k : Val aY → Option ρ) : Option ρ :=
  ifb (ilt a0.1 (1 : Int)) (k ((1 : Int), (-1 : Int))) (ifb (igt a0.1 (60 : Int)) (k ((1 : Int), (-1 : Int))) (ifb (igt (bE a0.2) (300 : Int)) (k ((2 : Int), (-1 : Int))) (bt (fun (v7 : Int) kk9 => nX a0.2 (bE a0.2) a0.1 a0.2 v7 (fun u8 => kk9 u8) (fun z5 => k (z5.1, z5.2)) (fun _ => k ((0 : Int), (-1 : Int)))) (0 : Int))))
def lr (a0 : Val bo) : Option (Val aY) := GE a0 some
def fZ (c1 : (Val ah)) (c2 : Int) (v0 : Int) (v1 : Int) (kn : Int → Int → Option ρ) (k0 : Int → Option ρ) : Option ρ :=
  ifb (ilt v1 c2) (dI c1 v1 fun e1 => ck (v0 + (Rc e1.2.2 (0 : Int))) fun n2 => ck (v1 + (1 : Int)) fun n3 => kn n2 n3) (k0 v0)
def dS (c2 : Int) (c5 : (Val ae)) (v0 : Int) (v1 : (Val aw)) (v2 : (Val ae)) (kn : Int → (Val aw) → (Val ae) → Option ρ) (k0 : (Val aF) → Option ρ) : Option ρ :=
  ifb (ilt v0 c2) (ca ((ile (0 : Int) v0) && (ilt v0 (dt c5))) (gg c5 (Int.toNat v0) fun e5 => ifb (ine e5 (1152921504606846976 : Int)) (ca (bW ((List.length v2) + (List.length ([v0])))) (ca ((ile (0 : Int) v0) && (ilt v0 (dt v1))) (gg v1 (Int.toNat v0) fun e6 => ck (v0 + (1 : Int)) fun n7 => kn n7 (List.set v1 (Int.toNat v0) true) (v2 ++ ([v0]))))) (ck (v0 + (1 : Int)) fun n8 => kn n8 v1 v2))) (k0 (v1, v2))
def g8 (c0 : (Val aj)) (c1 : Int) (c2 : Int) (c3 : (Val ah)) (c4 : Int) (v0 : Int) (v1 : (Val ae)) (v2 : (Val aw)) (v3 : (Val ae)) (kn : Int → (Val ae) → (Val aw) → (Val ae) → Option ρ) (k0 : (Val (.pair .bool (.pair ae aF))) → Option ρ) (k1 : (Val (.pair ae aF)) → Option ρ) : Option ρ :=
  ifb (ilt v0 c4) (dI c3 v0 fun e17 => ifb (ine e17.1 c2) (ck (v0 + (1 : Int)) fun n18 => kn n18 v1 v2 v3) (ED (k := tI) (v := .bool) v0 c0 (fun y19 => ifb y19 (ck (v0 + (1 : Int)) fun n20 => kn n20 v1 v2 v3) (ca ((ile (0 : Int) c2) && (ilt c2 (dt v1))) (gg v1 (Int.toNat c2) fun e21 => ck (e21 + e17.2.2) fun n22 => ca ((ile (0 : Int) e17.2.1) && (ilt e17.2.1 (dt v1))) (gg v1 (Int.toNat e17.2.1) fun e23 => ifb (ige n22 e23) (ck (v0 + (1 : Int)) fun n24 => kn n24 v1 v2 v3) (ca ((ile (0 : Int) c2) && (ilt c2 (dt v1))) (gg v1 (Int.toNat c2) fun e25 => ck (e25 + e17.2.2) fun n26 => ca ((ile (0 : Int) e17.2.1) && (ilt e17.2.1 (dt v1))) (gg v1 (Int.toNat e17.2.1) fun e27 => ca ((ile (0 : Int) e17.2.1) && (ilt e17.2.1 (dt (List.set v1 (Int.toNat e17.2.1) n26)))) (gg (List.set v1 (Int.toNat e17.2.1) n26) (Int.toNat e17.2.1) fun e28 => ifb (ilt e28 c1) (k0 (false, (List.set v1 (Int.toNat e17.2.1) n26), v2, v3)) (ca ((ile (0 : Int) e17.2.1) && (ilt e17.2.1 (dt v2))) (gg v2 (Int.toNat e17.2.1) fun e29 => ifb (!e29) (ca (bW ((List.length v3) + (List.length ([e17.2.1])))) (ca ((ile (0 : Int) e17.2.1) && (ilt e17.2.1 (dt v2))) (gg v2 (Int.toNat e17.2.1) fun e30 => ck (v0 + (1 : Int)) fun n31 => kn n31 (List.set v1 (Int.toNat e17.2.1) n26) (List.set v2 (Int.toNat e17.2.1) true) (v3 ++ ([e17.2.1]))))) (ck (v0 + (1 : Int)) fun n32 => kn n32 (List.set v1 (Int.toNat e17.2.1) n26) v2 v3))))))))))) (ca ((ile (0 : Int) c2) && (ilt c2 (dt v1))) (gg v1 (Int.toNat c2) fun e33 => ck (e33 + e17.2.2) fun n34 => ca ((ile (0 : Int) e17.2.1) && (ilt e17.2.1 (dt v1))) (gg v1 (Int.toNat e17.2.1) fun e35 => ifb (ige n34 e35) (ck (v0 + (1 : Int)) fun n36 => kn n36 v1 v2 v3) (ca ((ile (0 : Int) c2) && (ilt c2 (dt v1))) (gg v1 (Int.toNat c2) fun e37 => ck (e37 + e17.2.2) fun n38 => ca ((ile (0 : Int) e17.2.1) && (ilt e17.2.1 (dt v1))) (gg v1 (Int.toNat e17.2.1) fun e39 => ca ((ile (0 : Int) e17.2.1) && (ilt e17.2.1 (dt (List.set v1 (Int.toNat e17.2.1) n38)))) (gg (List.set v1 (Int.toNat e17.2.1) n38) (Int.toNat e17.2.1) fun e40 => ifb (ilt e40 c1) (k0 (false, (List.set v1 (Int.toNat e17.2.1) n38), v2, v3)) (ca ((ile (0 : Int) e17.2.1) && (ilt e17.2.1 (dt v2))) (gg v2 (Int.toNat e17.2.1) fun e41 => ifb (!e41) (ca (bW ((List.length v3) + (List.length ([e17.2.1])))) (ca ((ile (0 : Int) e17.2.1) && (ilt e17.2.1 (dt v2))) (gg v2 (Int.toNat e17.2.1) fun e42 => ck (v0 + (1 : Int)) fun n43 => kn n43 (List.set v1 (Int.toNat e17.2.1) n38) (List.set v2 (Int.toNat e17.2.1) true) (v3 ++ ([e17.2.1]))))) (ck (v0 + (1 : Int)) fun n44 => kn n44 (List.set v1 (Int.toNat e17.2.1) n38) v2 v3)))))))))))) (k1 (v1, v2, v3))
def de (c0 : (Val aj)) (c1 : Int) (c4 : Int) (c5 : (Val ah)) (v0 : (Val ae)) (v1 : (Val aw)) (v2 : (Val ae)) (v3 : (Val ae)) (kn : (Val ae) → (Val aw) → (Val ae) → (Val ae) → Option ρ) (k0 : (Val (.pair .bool aG)) → Option ρ) : Option ρ :=
  ifb (ieq (bE v3) (0 : Int)) (k0 (true, v0, v1, v2, v3)) (ca (ilt (0 : Int) (dt v3)) (gg v3 0 fun e10 => ca (ile (1 : Int) (dt v3)) (ca (decide (1 + (List.length v3 - 1) = List.length v3)) (ca ((ile (0 : Int) e10) && (ilt e10 (dt v1))) (gg v1 (Int.toNat e10) fun e11 => ca ((ile (0 : Int) e10) && (ilt e10 (dt v2))) (gg v2 (Int.toNat e10) fun e12 => ck (e12 + (1 : Int)) fun n13 => ca ((ile (0 : Int) e10) && (ilt e10 (dt v2))) (gg v2 (Int.toNat e10) fun e14 => ca ((ile (0 : Int) e10) && (ilt e10 (dt (List.set v2 (Int.toNat e10) n13)))) (gg (List.set v2 (Int.toNat e10) n13) (Int.toNat e10) fun e15 => ck (c4 + (1 : Int)) fun n16 => ifb (igt e15 n16) (k0 (false, v0, (List.set v1 (Int.toNat e10) false), (List.set v2 (Int.toNat e10) n13), (List.drop 1 v3))) (bt (fun (v47 : (Val (.pair tI (.pair ae aF)))) kk52 => g8 c0 c1 e10 c5 (bE c5) v47.1 v47.2.1 v47.2.2.1 v47.2.2.2 (fun u48 u49 u50 u51 => kk52 (u48, u49, u50, u51)) (fun z45 => k0 (z45.1, z45.2.1, z45.2.2.1, (List.set v2 (Int.toNat e10) n13), z45.2.2.2)) (fun z46 => kn z46.1 z46.2.1 (List.set v2 (Int.toNat e10) n13) z46.2.2)) ((0 : Int), v0, (List.set v1 (Int.toNat e10) false), (List.drop 1 v3)))))))))))
def gZ (c0 : Int) (c1 : Int) (v0 : Int) (v1 : (Val ae)) (kn : Int → (Val ae) → Option ρ) (k0 : (Val ae) → Option ρ) : Option ρ :=
  ifb (ilt v0 c1) (ca ((ile (0 : Int) v0) && (ilt v0 (dt v1))) (gg v1 (Int.toNat v0) fun e55 => ck (e55 - c0) fun n56 => ca ((ile (0 : Int) v0) && (ilt v0 (dt v1))) (gg v1 (Int.toNat v0) fun e57 => ck (v0 + (1 : Int)) fun n58 => kn n58 (List.set v1 (Int.toNat v0) n56)))) (k0 v1)
def tF (a0 : Val bo) (a1 : (Val aj)) (k : (Val (.pair ae .bool)) → Option ρ) : Option ρ :=
  ca ((ile (0 : Int) a0.1) && (bW (Int.toNat a0.1))) (ca ((ile (0 : Int) a0.1) && (bW (Int.toNat a0.1))) (ca ((ile (0 : Int) a0.1) && (bW (Int.toNat a0.1))) (bt (fun (v75 : Val aY) kk78 => fZ a0.2 (bE a0.2) v75.1 v75.2 (fun u76 u77 => kk78 (u76, u77)) (fun z4 => bt (fun (v70 : (Val (.pair tI aF))) kk74 => dS a0.1 (List.replicate (Int.toNat a0.1) (0 : Int)) v70.1 v70.2.1 v70.2.2 (fun u71 u72 u73 => kk74 (u71, u72, u73)) (fun z9 => bt (fun (v64 : (Val aG)) kk69 => de a1 z4 a0.1 a0.2 v64.1 v64.2.1 v64.2.2.1 v64.2.2.2 (fun u65 u66 u67 u68 => kk69 (u65, u66, u67, u68)) (fun z53 => ifb (!z53.1) (k ([], false)) (ca (ilt (0 : Int) (dt z53.2.1)) (gg z53.2.1 0 fun e54 => bt (fun (v60 : (Val ax)) kk63 => gZ e54 (bE z53.2.1) v60.1 v60.2 (fun u61 u62 => kk63 (u61, u62)) (fun z59 => k (z59, true))) ((0 : Int), z53.2.1))))) ((List.replicate (Int.toNat a0.1) (0 : Int)), z9.1, (List.replicate (Int.toNat a0.1) (0 : Int)), z9.2))) ((0 : Int), (List.replicate (Int.toNat a0.1) false), []))) ((0 : Int), (0 : Int)))))
def jf (a0 : Val bo) (a1 : (Val aj)) : Option ((Val (.pair ae .bool))) := tF a0 a1 some
def nV (c0 : (Val ae)) (c1 : Int) (c2 : Int) (c3 : (Val ah)) (v0 : Int) (kn : Int → Option ρ) (k0 : Int → Option ρ) (k1 : Unit → Option ρ) : Option ρ :=
  ifb (ilt v0 c1) (dI c0 v0 fun e2 => aZ (oo (c2, c3) e2) fun r3 => ifb (!r3) (k0 (1 : Int)) (ck (v0 + (1 : Int)) fun n4 => kn n4)) (k1 ())
def Gw (a0 : Val bo) (a1 : (Val ae)) (k : Int → Option ρ) : Option ρ :=
  aZ (lr a0) fun r1 => ifb (ine r1.1 (0 : Int)) (k r1.1) (bt (fun (v8 : Int) kk10 => nV a1 (bE a1) a0.1 a0.2 v8 (fun u9 => kk10 u9) (fun z5 => k z5) (fun _ => aZ (jf a0 ([])) fun r7 => ifb (!r7.2) (k (9 : Int)) (k (0 : Int)))) (0 : Int))
def AJ (a0 : Val bo) (a1 : (Val ae)) : Option (Int) := Gw a0 a1 some
def l5 (c2 : Int) (v0 : Int) (v1 : (Val ae)) (kn : Int → (Val ae) → Option ρ) (k0 : (Val ae) → Option ρ) : Option ρ :=
  ifb (ilt v0 c2) (ca ((ile (0 : Int) v0) && (ilt v0 (dt v1))) (gg v1 (Int.toNat v0) fun e1 => ck (v0 + (1 : Int)) fun n2 => kn n2 (List.set v1 (Int.toNat v0) (1152921504606846976 : Int)))) (k0 v1)
def qO (c1 : (Val ah)) (c2 : Int) (v0 : Int) (v1 : Int) (kn : Int → Int → Option ρ) (k0 : Int → Option ρ) : Option ρ :=
  ifb (ilt v1 c2) (dI c1 v1 fun e5 => ck (v0 + (Rc e5.2.2 (0 : Int))) fun n6 => ck (v1 + (1 : Int)) fun n7 => kn n6 n7) (k0 v0)
def qN (c2 : Int) (c5 : (Val ae)) (v0 : Int) (v1 : (Val aw)) (v2 : (Val ae)) (kn : Int → (Val aw) → (Val ae) → Option ρ) (k0 : (Val aF) → Option ρ) : Option ρ :=
  ifb (ilt v0 c2) (ca ((ile (0 : Int) v0) && (ilt v0 (dt c5))) (gg c5 (Int.toNat v0) fun e9 => ifb (ine e9 (1152921504606846976 : Int)) (ca (bW ((List.length v2) + (List.length ([v0])))) (ca ((ile (0 : Int) v0) && (ilt v0 (dt v1))) (gg v1 (Int.toNat v0) fun e10 => ck (v0 + (1 : Int)) fun n11 => kn n11 (List.set v1 (Int.toNat v0) true) (v2 ++ ([v0]))))) (ck (v0 + (1 : Int)) fun n12 => kn n12 v1 v2))) (k0 (v1, v2))
def zz (c0 : (Val aj)) (c1 : Int) (c2 : Int) (c3 : (Val ah)) (c4 : Int) (v0 : Int) (v1 : (Val ae)) (v2 : (Val aw)) (v3 : (Val ae)) (kn : Int → (Val ae) → (Val aw) → (Val ae) → Option ρ) (k0 : (Val (.pair .bool (.pair ae aF))) → Option ρ) (k1 : (Val (.pair ae aF)) → Option ρ) : Option ρ :=
  ifb (ilt v0 c4) (dI c3 v0 fun e21 => ifb (ine e21.1 c2) (ck (v0 + (1 : Int)) fun n22 => kn n22 v1 v2 v3) (ED (k := tI) (v := .bool) v0 c0 (fun y23 => ifb y23 (ck (v0 + (1 : Int)) fun n24 => kn n24 v1 v2 v3) (ca ((ile (0 : Int) c2) && (ilt c2 (dt v1))) (gg v1 (Int.toNat c2) fun e25 => ck (e25 + e21.2.2) fun n26 => ca ((ile (0 : Int) e21.2.1) && (ilt e21.2.1 (dt v1))) (gg v1 (Int.toNat e21.2.1) fun e27 => ifb (ige n26 e27) (ck (v0 + (1 : Int)) fun n28 => kn n28 v1 v2 v3) (ca ((ile (0 : Int) c2) && (ilt c2 (dt v1))) (gg v1 (Int.toNat c2) fun e29 => ck (e29 + e21.2.2) fun n30 => ca ((ile (0 : Int) e21.2.1) && (ilt e21.2.1 (dt v1))) (gg v1 (Int.toNat e21.2.1) fun e31 => ca ((ile (0 : Int) e21.2.1) && (ilt e21.2.1 (dt (List.set v1 (Int.toNat e21.2.1) n30)))) (gg (List.set v1 (Int.toNat e21.2.1) n30) (Int.toNat e21.2.1) fun e32 => ifb (ilt e32 c1) (k0 (false, (List.set v1 (Int.toNat e21.2.1) n30), v2, v3)) (ca ((ile (0 : Int) e21.2.1) && (ilt e21.2.1 (dt v2))) (gg v2 (Int.toNat e21.2.1) fun e33 => ifb (!e33) (ca (bW ((List.length v3) + (List.length ([e21.2.1])))) (ca ((ile (0 : Int) e21.2.1) && (ilt e21.2.1 (dt v2))) (gg v2 (Int.toNat e21.2.1) fun e34 => ck (v0 + (1 : Int)) fun n35 => kn n35 (List.set v1 (Int.toNat e21.2.1) n30) (List.set v2 (Int.toNat e21.2.1) true) (v3 ++ ([e21.2.1]))))) (ck (v0 + (1 : Int)) fun n36 => kn n36 (List.set v1 (Int.toNat e21.2.1) n30) v2 v3))))))))))) (ca ((ile (0 : Int) c2) && (ilt c2 (dt v1))) (gg v1 (Int.toNat c2) fun e37 => ck (e37 + e21.2.2) fun n38 => ca ((ile (0 : Int) e21.2.1) && (ilt e21.2.1 (dt v1))) (gg v1 (Int.toNat e21.2.1) fun e39 => ifb (ige n38 e39) (ck (v0 + (1 : Int)) fun n40 => kn n40 v1 v2 v3) (ca ((ile (0 : Int) c2) && (ilt c2 (dt v1))) (gg v1 (Int.toNat c2) fun e41 => ck (e41 + e21.2.2) fun n42 => ca ((ile (0 : Int) e21.2.1) && (ilt e21.2.1 (dt v1))) (gg v1 (Int.toNat e21.2.1) fun e43 => ca ((ile (0 : Int) e21.2.1) && (ilt e21.2.1 (dt (List.set v1 (Int.toNat e21.2.1) n42)))) (gg (List.set v1 (Int.toNat e21.2.1) n42) (Int.toNat e21.2.1) fun e44 => ifb (ilt e44 c1) (k0 (false, (List.set v1 (Int.toNat e21.2.1) n42), v2, v3)) (ca ((ile (0 : Int) e21.2.1) && (ilt e21.2.1 (dt v2))) (gg v2 (Int.toNat e21.2.1) fun e45 => ifb (!e45) (ca (bW ((List.length v3) + (List.length ([e21.2.1])))) (ca ((ile (0 : Int) e21.2.1) && (ilt e21.2.1 (dt v2))) (gg v2 (Int.toNat e21.2.1) fun e46 => ck (v0 + (1 : Int)) fun n47 => kn n47 (List.set v1 (Int.toNat e21.2.1) n42) (List.set v2 (Int.toNat e21.2.1) true) (v3 ++ ([e21.2.1]))))) (ck (v0 + (1 : Int)) fun n48 => kn n48 (List.set v1 (Int.toNat e21.2.1) n42) v2 v3)))))))))))) (k1 (v1, v2, v3))
def qM (c0 : (Val aj)) (c1 : Int) (c4 : Int) (c5 : (Val ah)) (v0 : (Val ae)) (v1 : (Val aw)) (v2 : (Val ae)) (v3 : (Val ae)) (kn : (Val ae) → (Val aw) → (Val ae) → (Val ae) → Option ρ) (k0 : (Val (.pair .bool aG)) → Option ρ) : Option ρ :=
  ifb (ieq (bE v3) (0 : Int)) (k0 (true, v0, v1, v2, v3)) (ca (ilt (0 : Int) (dt v3)) (gg v3 0 fun e14 => ca (ile (1 : Int) (dt v3)) (ca (decide (1 + (List.length v3 - 1) = List.length v3)) (ca ((ile (0 : Int) e14) && (ilt e14 (dt v1))) (gg v1 (Int.toNat e14) fun e15 => ca ((ile (0 : Int) e14) && (ilt e14 (dt v2))) (gg v2 (Int.toNat e14) fun e16 => ck (e16 + (1 : Int)) fun n17 => ca ((ile (0 : Int) e14) && (ilt e14 (dt v2))) (gg v2 (Int.toNat e14) fun e18 => ca ((ile (0 : Int) e14) && (ilt e14 (dt (List.set v2 (Int.toNat e14) n17)))) (gg (List.set v2 (Int.toNat e14) n17) (Int.toNat e14) fun e19 => ck (c4 + (1 : Int)) fun n20 => ifb (igt e19 n20) (k0 (false, v0, (List.set v1 (Int.toNat e14) false), (List.set v2 (Int.toNat e14) n17), (List.drop 1 v3))) (bt (fun (v51 : (Val (.pair tI (.pair ae aF)))) kk56 => zz c0 c1 e14 c5 (bE c5) v51.1 v51.2.1 v51.2.2.1 v51.2.2.2 (fun u52 u53 u54 u55 => kk56 (u52, u53, u54, u55)) (fun z49 => k0 (z49.1, z49.2.1, z49.2.2.1, (List.set v2 (Int.toNat e14) n17), z49.2.2.2)) (fun z50 => kn z50.1 z50.2.1 (List.set v2 (Int.toNat e14) n17) z50.2.2)) ((0 : Int), v0, (List.set v1 (Int.toNat e14) false), (List.drop 1 v3)))))))))))
def B0 (a0 : Val bo) (a1 : (Val aj)) (a2 : Int) (k : (Val ae) → Option ρ) : Option ρ :=
  ca ((ile (0 : Int) a0.1) && (bW (Int.toNat a0.1))) (bt (fun (v73 : (Val ax)) kk76 => l5 (bE (List.replicate (Int.toNat a0.1) (0 : Int))) v73.1 v73.2 (fun u74 u75 => kk76 (u74, u75)) (fun z3 => ca ((ile (0 : Int) a2) && (ilt a2 (dt z3))) (gg z3 (Int.toNat a2) fun e4 => ca ((ile (0 : Int) a0.1) && (bW (Int.toNat a0.1))) (ca ((ile (0 : Int) a0.1) && (bW (Int.toNat a0.1))) (bt (fun (v69 : Val aY) kk72 => qO a0.2 (bE a0.2) v69.1 v69.2 (fun u70 u71 => kk72 (u70, u71)) (fun z8 => bt (fun (v64 : (Val (.pair tI aF))) kk68 => qN a0.1 (List.set z3 (Int.toNat a2) (0 : Int)) v64.1 v64.2.1 v64.2.2 (fun u65 u66 u67 => kk68 (u65, u66, u67)) (fun z13 => bt (fun (v58 : (Val aG)) kk63 => qM a1 z8 a0.1 a0.2 v58.1 v58.2.1 v58.2.2.1 v58.2.2.2 (fun u59 u60 u61 u62 => kk63 (u59, u60, u61, u62)) (fun z57 => k z57.2.1)) ((List.set z3 (Int.toNat a2) (0 : Int)), z13.1, (List.replicate (Int.toNat a0.1) (0 : Int)), z13.2))) ((0 : Int), (List.replicate (Int.toNat a0.1) false), []))) ((0 : Int), (0 : Int))))))) ((0 : Int), (List.replicate (Int.toNat a0.1) (0 : Int))))
def vq (a0 : Val bo) (a1 : (Val aj)) (a2 : Int) : Option ((Val ae)) := B0 a0 a1 a2 some
def GK (a0 : Val bo) (a1 : Int) (a2 : Int) (k : Val aY → Option ρ) : Option ρ :=
  aZ (AJ a0 ([a1, a2])) fun r1 => ifb (ine r1 (0 : Int)) (k ((0 : Int), r1)) (aZ (vq a0 ([]) a1) fun r2 => dI r2 a2 fun e3 => ifb (ieq e3 (1152921504606846976 : Int)) (k ((0 : Int), (5 : Int))) (k (e3, (0 : Int))))
def nk (a0 : Val bo) (a1 : Int) (a2 : Int) : Option (Val aY) := GK a0 a1 a2 some
def oD (a0 : (Val au)) (a1 : Int) (a2 : Int) (k : Int → Option ρ) : Option ρ :=
  aZ (nk a0.2 a2 a1) fun r1 => k r1.1
def cg (a0 : (Val au)) (a1 : Int) (a2 : Int) : Option (Int) := oD a0 a1 a2 some
def oC (a0 : (Val au)) (a1 : Val aY) (k : Int → Option ρ) : Option ρ :=
  aZ (fJ a0 a1) fun r1 => aZ (cg a0 (0 : Int) r1) fun r2 => ck (0 - r2) fun n3 => k n3
def fI (a0 : (Val au)) (a1 : Val aY) : Option (Int) := oC a0 a1 some
def ki (a0 : (Val au)) (a1 : Val aY) (k : Int → Option ρ) : Option ρ :=
  aZ (fJ a0 a1) fun r1 => aZ (cg a0 r1 (0 : Int)) fun r2 => k r2
def f7 (a0 : (Val au)) (a1 : Val aY) : Option (Int) := ki a0 a1 some
def kh (a0 : (Val au)) (a1 : Val aY) (k : Val aY → Option ρ) : Option ρ :=
  aZ (fI a0 a1) fun r1 => aZ (f7 a0 a1) fun r2 => k (r1, r2)
def eM (a0 : (Val au)) (a1 : Val aY) : Option (Val aY) := kh a0 a1 some
def rh (c0 : Int) (v0 : Int) (v1 : (Val ab)) (kn : Int → (Val ab) → Option ρ) (k0 : (Val ab) → Option ρ) : Option ρ :=
  ifb (ilt v0 c0) (ca ((ile (0 : Int) v0) && (ilt v0 (dt v1))) (gg v1 (Int.toNat v0) fun e2 => ca (bW (List.length e2.2.2.1)) (ca (bW (List.length e2.2.2.2.1)) (ca ((ile (0 : Int) v0) && (ilt v0 (dt v1))) (gg v1 (Int.toNat v0) fun e3 => ca ((ile (0 : Int) v0) && (ilt v0 (dt (List.set v1 (Int.toNat v0) (e3.1, e3.2.1, e2.2.2.1, e3.2.2.2))))) (gg (List.set v1 (Int.toNat v0) (e3.1, e3.2.1, e2.2.2.1, e3.2.2.2)) (Int.toNat v0) fun e4 => ck (v0 + (1 : Int)) fun n5 => kn n5 (List.set (List.set v1 (Int.toNat v0) (e3.1, e3.2.1, e2.2.2.1, e3.2.2.2)) (Int.toNat v0) (e4.1, e4.2.1, e4.2.2.1, e2.2.2.2.1, e4.2.2.2.2)))))))) (k0 v1)
def Nt (a0 : Val ba) (a1 : Val aY) (k : (Val aI) → Option ρ) : Option ρ :=
  aZ (bZ a0) fun r1 => ifb (ine r1 (0 : Int)) (k ((((0 : Int), (0 : Int)), [], [], [], [], []), r1)) (ca (bW (List.length a0.2.1)) (ca (bW (List.length a0.2.2.1)) (ca (bW (List.length a0.2.2.2.1)) (ca (bW (List.length a0.2.2.2.2.2)) (ca (bW (List.length a0.2.2.2.2.1)) (bt (fun (v8 : (Val (.pair tI ab))) kk11 => rh (bE a0.2.2.2.2.1) v8.1 v8.2 (fun u9 u10 => kk11 (u9, u10)) (fun z6 => ca (bW ((List.length a0.2.2.2.2.2) + (List.length ([a1])))) (aZ (bZ (a0.1, a0.2.1, a0.2.2.1, a0.2.2.2.1, z6, (a0.2.2.2.2.2 ++ ([a1])))) fun r7 => ifb (ine r7 (0 : Int)) (k ((((0 : Int), (0 : Int)), [], [], [], [], []), r7)) (k ((a0.1, a0.2.1, a0.2.2.1, a0.2.2.2.1, z6, (a0.2.2.2.2.2 ++ ([a1]))), (0 : Int)))))) ((0 : Int), a0.2.2.2.2.1)))))))
def iP (a0 : Val ba) (a1 : Val aY) : Option ((Val aI)) := Nt a0 a1 some
def oL (a0 : Val bo) (k : (Val aP) → Option ρ) : Option ρ :=
  aZ (lr a0) fun r1 => ifb (ine r1.1 (0 : Int)) (k (false, r1.1)) (aZ (jf a0 ([])) fun r2 => k (r2.2, (0 : Int)))
def cR (a0 : Val bo) : Option ((Val aP)) := oL a0 some
def cr (c0 : Int) (c12 : (Val aa)) (v0 : Int) (v1 : Int) (v2 : Int) (v3 : (Val ac)) (v4 : (Val aa)) (v5 : (Val af)) (v6 : (Val ab)) (v7 : (Val aa)) (kn : Int → Int → Int → (Val ac) → (Val aa) → (Val af) → (Val ab) → (Val aa) → Option ρ) (k0 : (Val ay) → Option ρ) (k1 : (Val ai) → Option ρ) : Option ρ :=
  ifb (ilt v0 c0) (ca ((ile (0 : Int) v0) && (ilt v0 (dt c12))) (gg c12 (Int.toNat v0) fun e2 => aZ (er ((v1, v2), v3, v4, v5, v6, v7) e2) fun r3 => ifb (ieq r3.2 (0 : Int)) (ck (v0 + (1 : Int)) fun n4 => kn n4 v1 v2 v3 v4 v5 v6 v7) (aZ (iP ((v1, v2), v3, v4, v5, v6, v7) e2) fun r5 => ifb (ine r5.2 (0 : Int)) (k0 (r5.2, v1, v2, v3, v4, v5, v6, v7)) (ck (v0 + (1 : Int)) fun n6 => kn n6 r5.1.1.1 r5.1.1.2 r5.1.2.1 r5.1.2.2.1 r5.1.2.2.2.1 r5.1.2.2.2.2.1 r5.1.2.2.2.2.2)))) (k1 (v1, v2, v3, v4, v5, v6, v7))
def tz (a0 : Val ba) (a1 : Val aY) (k : Val jk → Option ρ) : Option ρ :=
  aZ (bZ a0) fun r1 => ifb (ine r1 (0 : Int)) (ca (ine r1 (0 : Int)) (k (((0 : Int), (0 : Int)), r1))) (bt (fun (v12 : (Val ay)) kk21 => cr (bE ([a1])) ([a1]) v12.1 v12.2.1 v12.2.2.1 v12.2.2.2.1 v12.2.2.2.2.1 v12.2.2.2.2.2.1 v12.2.2.2.2.2.2.1 v12.2.2.2.2.2.2.2 (fun u13 u14 u15 u16 u17 u18 u19 u20 => kk21 (u13, u14, u15, u16, u17, u18, u19, u20)) (fun z7 => ca (ine z7.1 (0 : Int)) (k (((0 : Int), (0 : Int)), z7.1))) (fun z8 => aZ (dc ((z8.1, z8.2.1), z8.2.2)) fun r9 => ifb (ine r9.2.2 (0 : Int)) (ca (ine r9.2.2 (0 : Int)) (k (((0 : Int), (0 : Int)), r9.2.2))) (aZ (cR r9.1) fun r10 => ifb (!r10.1) (k (((0 : Int), (0 : Int)), (9 : Int))) (aZ (eM (((z8.1, z8.2.1), z8.2.2), r9.1) a1) fun r11 => k (r11, (0 : Int)))))) ((0 : Int), a0.1.1, a0.1.2, a0.2.1, a0.2.2.1, a0.2.2.2.1, a0.2.2.2.2.1, a0.2.2.2.2.2))
def gk (a0 : Val ba) (a1 : Val aY) : Option (Val jk) := tz a0 a1 some
def oK (c0 : Int) (c14 : (Val aa)) (v0 : Int) (v1 : Int) (v2 : Int) (v3 : (Val ac)) (v4 : (Val aa)) (v5 : (Val af)) (v6 : (Val ab)) (v7 : (Val aa)) (kn : Int → Int → Int → (Val ac) → (Val aa) → (Val af) → (Val ab) → (Val aa) → Option ρ) (k0 : (Val ay) → Option ρ) (k1 : (Val ai) → Option ρ) : Option ρ :=
  ifb (ilt v0 c0) (ca ((ile (0 : Int) v0) && (ilt v0 (dt c14))) (gg c14 (Int.toNat v0) fun e2 => aZ (er ((v1, v2), v3, v4, v5, v6, v7) e2) fun r3 => ifb (ieq r3.2 (0 : Int)) (ck (v0 + (1 : Int)) fun n4 => kn n4 v1 v2 v3 v4 v5 v6 v7) (aZ (iP ((v1, v2), v3, v4, v5, v6, v7) e2) fun r5 => ifb (ine r5.2 (0 : Int)) (k0 (r5.2, v1, v2, v3, v4, v5, v6, v7)) (ck (v0 + (1 : Int)) fun n6 => kn n6 r5.1.1.1 r5.1.1.2 r5.1.2.1 r5.1.2.2.1 r5.1.2.2.2.1 r5.1.2.2.2.2.1 r5.1.2.2.2.2.2)))) (k1 (v1, v2, v3, v4, v5, v6, v7))
def xv (a0 : Val ba) (a1 : Val aY) (a2 : Val aY) (k : Val jk → Option ρ) : Option ρ :=
  aZ (bZ a0) fun r1 => ifb (ine r1 (0 : Int)) (ca (ine r1 (0 : Int)) (k (((0 : Int), (0 : Int)), r1))) (bt (fun (v16 : (Val ay)) kk25 => oK (bE ([a1, a2])) ([a1, a2]) v16.1 v16.2.1 v16.2.2.1 v16.2.2.2.1 v16.2.2.2.2.1 v16.2.2.2.2.2.1 v16.2.2.2.2.2.2.1 v16.2.2.2.2.2.2.2 (fun u17 u18 u19 u20 u21 u22 u23 u24 => kk25 (u17, u18, u19, u20, u21, u22, u23, u24)) (fun z7 => ca (ine z7.1 (0 : Int)) (k (((0 : Int), (0 : Int)), z7.1))) (fun z8 => aZ (dc ((z8.1, z8.2.1), z8.2.2)) fun r9 => ifb (ine r9.2.2 (0 : Int)) (ca (ine r9.2.2 (0 : Int)) (k (((0 : Int), (0 : Int)), r9.2.2))) (aZ (cR r9.1) fun r10 => ifb (!r10.1) (k (((0 : Int), (0 : Int)), (9 : Int))) (aZ (fJ (((z8.1, z8.2.1), z8.2.2), r9.1) a1) fun r11 => aZ (fJ (((z8.1, z8.2.1), z8.2.2), r9.1) a2) fun r12 => aZ (cg (((z8.1, z8.2.1), z8.2.2), r9.1) r12 r11) fun r13 => ck (0 - r13) fun n14 => aZ (cg (((z8.1, z8.2.1), z8.2.2), r9.1) r11 r12) fun r15 => k ((n14, r15), (0 : Int)))))) ((0 : Int), a0.1.1, a0.1.2, a0.2.1, a0.2.2.1, a0.2.2.2.1, a0.2.2.2.2.1, a0.2.2.2.2.2))
def ni (a0 : Val ba) (a1 : Val aY) (a2 : Val aY) : Option (Val jk) := xv a0 a1 a2 some
def Cl (a0 : (Val ae)) (a1 : (Val ae)) (k : (Val (.pair ae aB)) → Option ρ) : Option ρ :=
  aZ (ky a0) fun r1 => ifb (!r1) (k ([], [], (1 : Int))) (aZ (ky a1) fun r2 => ifb (!r2) (k ([], [], (1 : Int))) (aZ (eA a0 a1) fun r3 => aZ (eA a1 a0) fun r4 => k (r3, r4, (0 : Int))))
def qd (a0 : (Val ae)) (a1 : (Val ae)) : Option ((Val (.pair ae aB))) := Cl a0 a1 some
def L5 (a0 : (Val ae)) (a1 : Int) (k : Bool → Option ρ) : Option ρ :=
  aZ (qd a0 ([])) fun r1 => ifb (ieq r1.2.2 (0 : Int)) (k (ile (bE a0) a1)) (k false)
def E9 (a0 : (Val ae)) (a1 : Int) : Option (Bool) := L5 a0 a1 some
def F9 (a0 : Int) (k : Bool → Option ρ) : Option ρ :=
  ifb (ige a0 (0 : Int)) (k (ile a0 (20000 : Int))) (k false)
def AF (a0 : Int) : Option (Bool) := F9 a0 some
def nM (c0 : Int) (c1 : (Val ae)) (c2 : Int) (v0 : Int) (v1 : (Val aa)) (kn : Int → (Val aa) → Option ρ) (k0 : (Val aa) → Option ρ) : Option ρ :=
  ifb (ilt v0 c2) (dI c1 v0 fun e2 => ca (bW ((List.length v1) + (List.length ([(e2, c0)])))) (ck (v0 + (1 : Int)) fun n3 => kn n3 (v1 ++ ([(e2, c0)])))) (k0 v1)
def F4 (a0 : Int) (a1 : (Val am)) (k : (Val aa) → Option ρ) : Option ρ :=
  aZ (bL a1) fun r1 => bt (fun (v5 : (Val az)) kk8 => nM a0 r1 (bE r1) v5.1 v5.2 (fun u6 u7 => kk8 (u6, u7)) (fun z4 => k z4)) ((0 : Int), [])
def AE (a0 : Int) (a1 : (Val am)) : Option ((Val aa)) := F4 a0 a1 some
def qG (c0 : (Val aa)) (c1 : Int) (v0 : Int) (v1 : Int) (v2 : Int) (v3 : (Val ac)) (v4 : (Val aa)) (v5 : (Val af)) (v6 : (Val ab)) (v7 : (Val aa)) (kn : Int → Int → Int → (Val ac) → (Val aa) → (Val af) → (Val ab) → (Val aa) → Option ρ) (k0 : (Val ay) → Option ρ) (k1 : (Val ai) → Option ρ) : Option ρ :=
  ifb (ilt v0 c1) (dI c0 v0 fun e9 => aZ (er ((v1, v2), v3, v4, v5, v6, v7) e9) fun r10 => ifb (ieq r10.2 (0 : Int)) (ck (v0 + (1 : Int)) fun n11 => kn n11 v1 v2 v3 v4 v5 v6 v7) (aZ (iP ((v1, v2), v3, v4, v5, v6, v7) e9) fun r12 => ifb (ine r12.2 (0 : Int)) (k0 (r12.2, v1, v2, v3, v4, v5, v6, v7)) (ck (v0 + (1 : Int)) fun n13 => kn n13 r12.1.1.1 r12.1.1.2 r12.1.2.1 r12.1.2.2.1 r12.1.2.2.2.1 r12.1.2.2.2.2.1 r12.1.2.2.2.2.2))) (k1 (v1, v2, v3, v4, v5, v6, v7))
def qF (c0 : (Val au)) (c1 : (Val aa)) (c2 : Int) (v0 : Int) (v1 : Int) (v2 : Int) (kn : Int → Int → Int → Option ρ) (k0 : Val aY → Option ρ) : Option ρ :=
  ifb (ilt v0 c2) (dI c1 v0 fun e27 => aZ (eM c0 e27) fun r28 => ck (v1 + r28.1) fun n29 => ck (v2 + r28.2) fun n30 => ck (v0 + (1 : Int)) fun n31 => kn n31 n29 n30) (k0 (v1, v2))
def Mx (a0 : Val ba) (a1 : Int) (a2 : (Val ae)) (k : Val jk → Option ρ) : Option ρ :=
  aZ (bZ a0) fun r1 => ifb (ine r1 (0 : Int)) (k (((0 : Int), (0 : Int)), r1)) (ifb (ieq (bE a2) (0 : Int)) (k (((0 : Int), (0 : Int)), (1 : Int))) (aZ (E9 a2 (6 : Int)) fun r2 => ifb (!r2) (k (((0 : Int), (0 : Int)), (1 : Int))) (aZ (AF a1) fun r3 => ifb (!r3) (k (((0 : Int), (0 : Int)), (1 : Int))) (aZ (AE a1 ([a2])) fun r4 => aZ (bZ a0) fun r5 => ifb (ine r5 (0 : Int)) (ifb (ine r5 (0 : Int)) (k (((0 : Int), (0 : Int)), r5)) (ck ((bE a2) - (1 : Int)) fun n6 => ck (n6 * a0.1.1) fun n7 => ck (n6 * a0.1.2) fun n8 => none)) (bt (fun (v38 : (Val ay)) kk47 => qG r4 (bE r4) v38.1 v38.2.1 v38.2.2.1 v38.2.2.2.1 v38.2.2.2.2.1 v38.2.2.2.2.2.1 v38.2.2.2.2.2.2.1 v38.2.2.2.2.2.2.2 (fun u39 u40 u41 u42 u43 u44 u45 u46 => kk47 (u39, u40, u41, u42, u43, u44, u45, u46)) (fun z14 => ifb (ine z14.1 (0 : Int)) (k (((0 : Int), (0 : Int)), z14.1)) (ck ((bE a2) - (1 : Int)) fun n15 => ck (n15 * a0.1.1) fun n16 => ck (n15 * a0.1.2) fun n17 => none)) (fun z18 => aZ (dc ((z18.1, z18.2.1), z18.2.2)) fun r19 => ifb (ine r19.2.2 (0 : Int)) (ifb (ine r19.2.2 (0 : Int)) (k (((0 : Int), (0 : Int)), r19.2.2)) (ck ((bE a2) - (1 : Int)) fun n20 => ck (n20 * a0.1.1) fun n21 => ck (n20 * a0.1.2) fun n22 => none)) (aZ (cR r19.1) fun r23 => ifb (!r23.1) (k (((0 : Int), (0 : Int)), (9 : Int))) (ck ((bE a2) - (1 : Int)) fun n24 => ck (n24 * a0.1.1) fun n25 => ck (n24 * a0.1.2) fun n26 => bt (fun (v33 : Val ci) kk37 => qF (((z18.1, z18.2.1), z18.2.2), r19.1) r4 (bE r4) v33.1 v33.2.1 v33.2.2 (fun u34 u35 u36 => kk37 (u34, u35, u36)) (fun z32 => k (z32, (0 : Int)))) ((0 : Int), n25, n26))))) ((0 : Int), a0.1.1, a0.1.2, a0.2.1, a0.2.2.1, a0.2.2.2.1, a0.2.2.2.2.1, a0.2.2.2.2.2))))))
def Fc (a0 : Val ba) (a1 : Int) (a2 : (Val ae)) : Option (Val jk) := Mx a0 a1 a2 some
def xj (a0 : Val aY) (a1 : Val aY) (k : Int → Option ρ) : Option ρ :=
  ifb (ile a1.1 a0.1) (ifb (ile a0.2 a1.2) (k (1 : Int)) (ifb (ilt a0.2 a1.1) (k (2 : Int)) (ifb (ilt a1.2 a0.1) (k (2 : Int)) (k (3 : Int))))) (ifb (ilt a0.2 a1.1) (k (2 : Int)) (ifb (ilt a1.2 a0.1) (k (2 : Int)) (k (3 : Int))))
def nf (a0 : Val aY) (a1 : Val aY) : Option (Int) := xj a0 a1 some
def tx (c0 : Int) (c12 : (Val aa)) (v0 : Int) (v1 : Int) (v2 : Int) (v3 : (Val ac)) (v4 : (Val aa)) (v5 : (Val af)) (v6 : (Val ab)) (v7 : (Val aa)) (kn : Int → Int → Int → (Val ac) → (Val aa) → (Val af) → (Val ab) → (Val aa) → Option ρ) (k0 : (Val ay) → Option ρ) (k1 : (Val ai) → Option ρ) : Option ρ :=
  ifb (ilt v0 c0) (ca ((ile (0 : Int) v0) && (ilt v0 (dt c12))) (gg c12 (Int.toNat v0) fun e2 => aZ (er ((v1, v2), v3, v4, v5, v6, v7) e2) fun r3 => ifb (ieq r3.2 (0 : Int)) (ck (v0 + (1 : Int)) fun n4 => kn n4 v1 v2 v3 v4 v5 v6 v7) (aZ (iP ((v1, v2), v3, v4, v5, v6, v7) e2) fun r5 => ifb (ine r5.2 (0 : Int)) (k0 (r5.2, v1, v2, v3, v4, v5, v6, v7)) (ck (v0 + (1 : Int)) fun n6 => kn n6 r5.1.1.1 r5.1.1.2 r5.1.2.1 r5.1.2.2.1 r5.1.2.2.2.1 r5.1.2.2.2.2.1 r5.1.2.2.2.2.2)))) (k1 (v1, v2, v3, v4, v5, v6, v7))
def Gg (a0 : Val ba) (a1 : Val aY) (a2 : Val aY) (k : Val aY → Option ρ) : Option ρ :=
  aZ (bZ a0) fun r1 => ifb (ine r1 (0 : Int)) (ifb (ine r1 (0 : Int)) (k ((0 : Int), r1)) (ca (igt a2.1 a2.2) (k ((0 : Int), (1 : Int))))) (bt (fun (v13 : (Val ay)) kk22 => tx (bE ([a1])) ([a1]) v13.1 v13.2.1 v13.2.2.1 v13.2.2.2.1 v13.2.2.2.2.1 v13.2.2.2.2.2.1 v13.2.2.2.2.2.2.1 v13.2.2.2.2.2.2.2 (fun u14 u15 u16 u17 u18 u19 u20 u21 => kk22 (u14, u15, u16, u17, u18, u19, u20, u21)) (fun z7 => ifb (ine z7.1 (0 : Int)) (k ((0 : Int), z7.1)) (ca (igt a2.1 a2.2) (k ((0 : Int), (1 : Int))))) (fun z8 => aZ (dc ((z8.1, z8.2.1), z8.2.2)) fun r9 => ifb (ine r9.2.2 (0 : Int)) (ifb (ine r9.2.2 (0 : Int)) (k ((0 : Int), r9.2.2)) (ca (igt a2.1 a2.2) (k ((0 : Int), (1 : Int))))) (aZ (cR r9.1) fun r10 => ifb (!r10.1) (k ((0 : Int), (9 : Int))) (ifb (igt a2.1 a2.2) (k ((0 : Int), (1 : Int))) (aZ (eM (((z8.1, z8.2.1), z8.2.2), r9.1) a1) fun r11 => aZ (nf r11 a2) fun r12 => k (r12, (0 : Int))))))) ((0 : Int), a0.1.1, a0.1.2, a0.2.1, a0.2.2.1, a0.2.2.2.1, a0.2.2.2.2.1, a0.2.2.2.2.2))
def AG (a0 : Val ba) (a1 : Val aY) (a2 : Val aY) : Option (Val aY) := Gg a0 a1 a2 some
def rg (c0 : Int) (v0 : Int) (v1 : (Val ab)) (kn : Int → (Val ab) → Option ρ) (k0 : (Val ab) → Option ρ) : Option ρ :=
  ifb (ilt v0 c0) (ca ((ile (0 : Int) v0) && (ilt v0 (dt v1))) (gg v1 (Int.toNat v0) fun e2 => ca (bW (List.length e2.2.2.1)) (ca (bW (List.length e2.2.2.2.1)) (ca ((ile (0 : Int) v0) && (ilt v0 (dt v1))) (gg v1 (Int.toNat v0) fun e3 => ca ((ile (0 : Int) v0) && (ilt v0 (dt (List.set v1 (Int.toNat v0) (e3.1, e3.2.1, e2.2.2.1, e3.2.2.2))))) (gg (List.set v1 (Int.toNat v0) (e3.1, e3.2.1, e2.2.2.1, e3.2.2.2)) (Int.toNat v0) fun e4 => ck (v0 + (1 : Int)) fun n5 => kn n5 (List.set (List.set v1 (Int.toNat v0) (e3.1, e3.2.1, e2.2.2.1, e3.2.2.2)) (Int.toNat v0) (e4.1, e4.2.1, e4.2.2.1, e2.2.2.2.1, e4.2.2.2.2)))))))) (k0 v1)
def No (a0 : Val ba) (a1 : Val bm) (k : (Val aI) → Option ρ) : Option ρ :=
  ca (bW (List.length a1.2.2.1)) (ca (bW (List.length a1.2.2.2.1)) (aZ (bZ a0) fun r1 => ifb (ine r1 (0 : Int)) (k ((((0 : Int), (0 : Int)), [], [], [], [], []), r1)) (ca (bW (List.length a0.2.1)) (ca (bW (List.length a0.2.2.1)) (ca (bW (List.length a0.2.2.2.1)) (ca (bW (List.length a0.2.2.2.2.2)) (ca (bW (List.length a0.2.2.2.2.1)) (bt (fun (v8 : (Val (.pair tI ab))) kk11 => rg (bE a0.2.2.2.2.1) v8.1 v8.2 (fun u9 u10 => kk11 (u9, u10)) (fun z6 => ca (bW ((List.length z6) + (List.length ([a1])))) (aZ (bZ (a0.1, a0.2.1, a0.2.2.1, a0.2.2.2.1, (z6 ++ ([a1])), a0.2.2.2.2.2)) fun r7 => ifb (ine r7 (0 : Int)) (k ((((0 : Int), (0 : Int)), [], [], [], [], []), r7)) (k ((a0.1, a0.2.1, a0.2.2.1, a0.2.2.2.1, (z6 ++ ([a1])), a0.2.2.2.2.2), (0 : Int)))))) ((0 : Int), a0.2.2.2.2.1)))))))))
def mf (a0 : Val ba) (a1 : Val bm) : Option ((Val aI)) := No a0 a1 some
def G4 (a0 : Val ba) (a1 : Val bm) (a2 : Val aY) (k : Val jk → Option ρ) : Option ρ :=
  aZ (mz a0 a1) fun r1 => aZ (p9 a0 a1) fun r2 => aZ (AK r1.1) fun r3 => aZ (uD r1.2) fun r4 => ck (r3.1 + r2.1) fun n5 => ck (n5 - a1.2.2.2.2.2.1) fun n6 => ck (r4.1 + r2.2) fun n7 => ck (n7 + a1.2.2.2.2.2.1) fun n8 => ifb (igt n6 n8) (k (((0 : Int), (0 : Int)), (5 : Int))) (ck (a2.1 + n6) fun n9 => ck (a2.2 + n8) fun n10 => k ((n9, n10), (0 : Int)))
def p8 (a0 : Val ba) (a1 : Val bm) (a2 : Val aY) : Option (Val jk) := G4 a0 a1 a2 some
def xL (a0 : Val ba) (a1 : Val bm) (k : Val jk → Option ρ) : Option ρ :=
  aZ (mf a0 (a1.1, a1.2.1, a1.2.2.1, a1.2.2.2.1, (0 : Int), a1.2.2.2.2.2)) fun r1 => ifb (ine r1.2 (0 : Int)) (k (((0 : Int), (0 : Int)), r1.2)) (aZ (AO r1.1) fun r2 => ck ((bE r2.2.2.1.2) - (2 : Int)) fun n3 => ca ((ile (0 : Int) n3) && (ile n3 (dt r2.2.2.1.2))) (aZ (eA a1.2.2.1 a1.2.2.2.1) fun r4 => aZ (gn r2 r4 a1.2.1) fun r5 => aZ (eA a1.2.2.2.1 a1.2.2.1) fun r6 => aZ (gn r2 r6 a1.2.1) fun r7 => aZ (nk (r2.2.2.1.1, (List.take (Int.toNat n3) r2.2.2.1.2)) r7 r5) fun r8 => ifb (ine r8.2 (0 : Int)) (k (((0 : Int), (0 : Int)), r8.2)) (aZ (nk (r2.2.2.1.1, (List.take (Int.toNat n3) r2.2.2.1.2)) r5 r7) fun r9 => ifb (ine r9.2 (0 : Int)) (k (((0 : Int), (0 : Int)), r9.2)) (ck (0 - r9.1) fun n10 => aZ (p8 a0 (a1.1, a1.2.1, a1.2.2.1, a1.2.2.2.1, (0 : Int), a1.2.2.2.2.2) (n10, r8.1)) fun r11 => k (r11.1, r11.2)))))
def rt (a0 : Val ba) (a1 : Val bm) : Option (Val jk) := xL a0 a1 some
def G2 (a0 : Val ba) (a1 : Int) (k : (Val (.pair bm tI)) → Option ρ) : Option ρ :=
  aZ (bZ a0) fun r1 => ifb (ine r1 (0 : Int)) (k (((0 : Int), (0 : Int), [], [], (0 : Int), (0 : Int), (0 : Int), (0 : Int)), r1)) (ifb (ilt a1 (0 : Int)) (k (((0 : Int), (0 : Int), [], [], (0 : Int), (0 : Int), (0 : Int), (0 : Int)), (1 : Int))) (ifb (ige a1 (bE a0.2.2.2.2.1)) (k (((0 : Int), (0 : Int), [], [], (0 : Int), (0 : Int), (0 : Int), (0 : Int)), (1 : Int))) (dI a0.2.2.2.2.1 a1 fun e2 => k (e2, (0 : Int)))))
def AM (a0 : Val ba) (a1 : Int) : Option ((Val (.pair bm tI))) := G2 a0 a1 some
def Nq (a0 : Val ba) (a1 : Int) (k : Val jk → Option ρ) : Option ρ :=
  aZ (AM a0 a1) fun r1 => ifb (ine r1.2 (0 : Int)) (k (((0 : Int), (0 : Int)), r1.2)) (aZ (ro a0 r1.1) fun r2 => k (r2, (0 : Int)))
def Fd (a0 : Val ba) (a1 : Int) : Option (Val jk) := Nq a0 a1 some
def tm (a0 : (Val ae)) (a1 : (Val au)) (a2 : (Val (.ptr bm))) (k : Int → Option ρ) : Option ρ :=
  ifb (ieq (bE a0) (0 : Int)) (k (0 : Int)) (dI a0 (0 : Int) fun e1 => aZ (fJ a1 (e1, a2.2.1)) fun r2 => k r2)
def lq (a0 : (Val ae)) (a1 : (Val au)) (a2 : (Val (.ptr bm))) : Option (Int) := tm a0 a1 a2 some
def tk (a0 : Int) (a1 : Int) (a2 : (Val au)) (a3 : (Val (.ptr tI))) (a4 : (Val aM)) (a5 : (Val (.ptr tI))) (k : Val ci → Option ρ) : Option ρ :=
  aZ (cg a2 a0 a1) fun r1 => aZ (cg a2 a3 a1) fun r2 => ck (r2 + a4.2) fun n3 => aZ (cg a2 a0 a5) fun r4 => ck (n3 + r4) fun n5 => aZ (cg a2 a5 a1) fun r6 => ck (r6 - a4.1) fun n7 => aZ (cg a2 a0 a3) fun r8 => ck (n7 + r8) fun n9 => k (r1, n5, n9)
def lp (a0 : Int) (a1 : Int) (a2 : (Val au)) (a3 : (Val (.ptr tI))) (a4 : (Val aM)) (a5 : (Val (.ptr tI))) : Option (Val ci) := tk a0 a1 a2 a3 a4 a5 some
def jA (c0 : Int) (c3 : (Val aa)) (c4 : (Val ah)) (c5 : Int) (v0 : Int) (v1 : (Val ah)) (kn : Int → (Val ah) → Option ρ) (k0 : (Val ah) → Option ρ) : Option ρ :=
  ifb (ilt v0 c5) (dI c4 v0 fun e7 => dI c3 v0 fun e8 => ifb (!((ff e8.1 (3 : Int)) && ((ff e8.2 c0) && true))) (ca (bW ((List.length v1) + (List.length ([e7])))) (ck (v0 + (1 : Int)) fun n9 => kn n9 (v1 ++ ([e7])))) (ck (v0 + (1 : Int)) fun n10 => kn n10 v1)) (k0 v1)
def Bz (a0 : (Val au)) (a1 : Val aY) (a2 : Val bm) (k : (Val (.pair eP tI)) → Option ρ) : Option ρ :=
  aZ (rt a0.1 a2) fun r1 => ifb (ine r1.2 (0 : Int)) (k ((((0 : Int), (0 : Int)), ((0 : Int), (0 : Int), (0 : Int)), (0 : Int), (0 : Int), (0 : Int)), r1.2)) (aZ (mf a0.1 (a2.1, a2.2.1, a2.2.2.1, a2.2.2.2.1, (0 : Int), a2.2.2.2.2.2)) fun r2 => ifb (ine r2.2 (0 : Int)) (k ((((0 : Int), (0 : Int)), ((0 : Int), (0 : Int), (0 : Int)), (0 : Int), (0 : Int), (0 : Int)), r2.2)) (ck ((bE r2.1.2.2.2.2.1) - (1 : Int)) fun n3 => aZ (Fd r2.1 n3) fun r4 => aZ (qd a2.2.2.1 a2.2.2.2.1) fun r5 => aZ (dc r2.1) fun r6 => bt (fun (v17 : Val bo) kk20 => jA n3 r6.2.1 r6.1.2 (bE r6.1.2) v17.1 v17.2 (fun u18 u19 => kk20 (u18, u19)) (fun z11 => aZ (lq r5.1 (r2.1, r6.1.1, z11) (a2.1, a2.2.1, a2.2.2.1, a2.2.2.2.1, (0 : Int), a2.2.2.2.2.2)) fun r12 => aZ (lq r5.2.1 (r2.1, r6.1.1, z11) (a2.1, a2.2.1, a2.2.2.1, a2.2.2.2.1, (0 : Int), a2.2.2.2.2.2)) fun r13 => aZ (fJ (r2.1, r6.1.1, z11) a1) fun r14 => aZ (lp r14 (0 : Int) (r2.1, r6.1.1, z11) r13 r4.1 r12) fun r15 => aZ (lp (0 : Int) r14 (r2.1, r6.1.1, z11) r13 r4.1 r12) fun r16 => k ((r1.1, r15, r16), (0 : Int)))) ((0 : Int), [])))
def pX (a0 : (Val au)) (a1 : Val aY) (a2 : Val bm) : Option ((Val (.pair eP tI))) := Bz a0 a1 a2 some
def qA (a0 : Val ci) (k : (Val ae) → Option ρ) : Option ρ :=
  ck (a0.2.2 - a0.2.1) fun n1 => ck (Int.tdiv n1 (2 : Int)) fun n2 => ck (a0.1 - a0.2.1) fun n3 => ck (a0.2.2 - a0.1) fun n4 => ck (n2 - (1 : Int)) fun n5 => ck (n2 + (1 : Int)) fun n6 => k ([n3, n4, n2, n5, n6])
def gC (a0 : Val ci) : Option ((Val ae)) := qA a0 some
def BC (a0 : Val ci) (a1 : Int) (k : Int → Option ρ) : Option ρ :=
  ck (a0.2.1 + a1) fun n1 => ck (a0.2.2 - a1) fun n2 => k (Rc (Rc a0.1 n1) n2)
def pY (a0 : Val ci) (a1 : Int) : Option (Int) := BC a0 a1 some
def oA (a0 : Val eP) (a1 : Int) (k : Val aY → Option ρ) : Option ρ :=
  aZ (pY a0.2.2 a1) fun r1 => ck (0 - r1) fun n2 => aZ (pY a0.2.1 a1) fun r3 => k (n2, r3)
def dO (a0 : Val eP) (a1 : Int) : Option (Val aY) := oA a0 a1 some
def fY (c0 : Int) (c4 : Int) (c5 : Int) (v0 : Int) (v1 : (Val ae)) (kn : Int → (Val ae) → Option ρ) (k0 : (Val ae) → Option ρ) : Option ρ :=
  ck (c0 + (2 : Int)) fun n3 => ifb (ile v0 n3) (ifb (igt v0 c4) (ifb (ilt v0 c5) (ca (bW ((List.length v1) + (List.length ([v0])))) (ck (v0 + (1 : Int)) fun n4 => kn n4 (v1 ++ ([v0])))) (ck (v0 + (1 : Int)) fun n5 => kn n5 v1)) (ck (v0 + (1 : Int)) fun n6 => kn n6 v1)) (k0 v1)
def ik (c0 : (Val ae)) (c1 : Int) (c2 : Int) (c3 : Int) (v0 : Int) (v1 : (Val ae)) (kn : Int → (Val ae) → Option ρ) (k0 : (Val ae) → Option ρ) : Option ρ :=
  ifb (ilt v0 c1) (dI c0 v0 fun e1 => ck (e1 - (2 : Int)) fun n2 => bt (fun (v9 : (Val ax)) kk12 => fY e1 c2 c3 v9.1 v9.2 (fun u10 u11 => kk12 (u10, u11)) (fun z7 => ck (v0 + (1 : Int)) fun n8 => kn n8 z7)) (n2, v1)) (k0 v1)
def oB (a0 : Val eP) (a1 : (Val ae)) (k : (Val ae) → Option ρ) : Option ρ :=
  bt (fun (v14 : (Val ax)) kk17 => ik a1 (bE a1) a0.1.1 a0.1.2 v14.1 v14.2 (fun u15 u16 => kk17 (u15, u16)) (fun z13 => k z13)) ((0 : Int), [a0.1.1, a0.1.2])
def iI (a0 : Val eP) (a1 : (Val ae)) : Option ((Val ae)) := oB a0 a1 some
def gU (c0 : (Val ae)) (c1 : Int) (c2 : Int) (c3 : Int) (c4 : Int) (c5 : Int) (c6 : Int) (c7 : Int) (c8 : Int) (c9 : Int) (v0 : Int) (v1 : Int) (kn : Int → Int → Option ρ) (k0 : Int → Option ρ) : Option ρ :=
  ifb (ilt v1 c1) (dI c0 v1 fun e5 => aZ (dO ((c2, c3), (c4, c5, c6), c7, c8, c9) e5) fun r6 => ck (r6.2 - r6.1) fun n7 => ck (v1 + (1 : Int)) fun n8 => kn (Rd v0 n7) n8) (k0 v0)
def mO (a0 : Val eP) (k : Int → Option ρ) : Option ρ :=
  aZ (gC a0.2.1) fun r1 => aZ (gC a0.2.2) fun r2 => aZ (bL ([r1, r2])) fun r3 => aZ (iI a0 r3) fun r4 => bt (fun (v10 : Val aY) kk13 => gU r4 (bE r4) a0.1.1 a0.1.2 a0.2.1.1 a0.2.1.2.1 a0.2.1.2.2 a0.2.2.1 a0.2.2.2.1 a0.2.2.2.2 v10.1 v10.2 (fun u11 u12 => kk13 (u11, u12)) (fun z9 => k z9)) ((-1 : Int), (0 : Int))
def jG (a0 : Val eP) : Option (Int) := mO a0 some
def tr (c0 : Int) (c18 : (Val aa)) (v0 : Int) (v1 : Int) (v2 : Int) (v3 : (Val ac)) (v4 : (Val aa)) (v5 : (Val af)) (v6 : (Val ab)) (v7 : (Val aa)) (kn : Int → Int → Int → (Val ac) → (Val aa) → (Val af) → (Val ab) → (Val aa) → Option ρ) (k0 : (Val ay) → Option ρ) (k1 : (Val ai) → Option ρ) : Option ρ :=
  ifb (ilt v0 c0) (ca ((ile (0 : Int) v0) && (ilt v0 (dt c18))) (gg c18 (Int.toNat v0) fun e2 => aZ (er ((v1, v2), v3, v4, v5, v6, v7) e2) fun r3 => ifb (ieq r3.2 (0 : Int)) (ck (v0 + (1 : Int)) fun n4 => kn n4 v1 v2 v3 v4 v5 v6 v7) (aZ (iP ((v1, v2), v3, v4, v5, v6, v7) e2) fun r5 => ifb (ine r5.2 (0 : Int)) (k0 (r5.2, v1, v2, v3, v4, v5, v6, v7)) (ck (v0 + (1 : Int)) fun n6 => kn n6 r5.1.1.1 r5.1.1.2 r5.1.2.1 r5.1.2.2.1 r5.1.2.2.2.1 r5.1.2.2.2.2.1 r5.1.2.2.2.2.2)))) (k1 (v1, v2, v3, v4, v5, v6, v7))
def Gd (a0 : Val ba) (a1 : Val aY) (a2 : Val bm) (k : Val aY → Option ρ) : Option ρ :=
  aZ (bZ a0) fun r1 => ifb (ine r1 (0 : Int)) (ca (ine r1 (0 : Int)) (k ((0 : Int), r1))) (bt (fun (v13 : (Val ay)) kk22 => tr (bE ([a1])) ([a1]) v13.1 v13.2.1 v13.2.2.1 v13.2.2.2.1 v13.2.2.2.2.1 v13.2.2.2.2.2.1 v13.2.2.2.2.2.2.1 v13.2.2.2.2.2.2.2 (fun u14 u15 u16 u17 u18 u19 u20 u21 => kk22 (u14, u15, u16, u17, u18, u19, u20, u21)) (fun z7 => ca (ine z7.1 (0 : Int)) (k ((0 : Int), z7.1))) (fun z8 => aZ (dc ((z8.1, z8.2.1), z8.2.2)) fun r9 => ifb (ine r9.2.2 (0 : Int)) (ca (ine r9.2.2 (0 : Int)) (k ((0 : Int), r9.2.2))) (aZ (cR r9.1) fun r10 => ifb (!r10.1) (k ((0 : Int), (9 : Int))) (aZ (pX (((z8.1, z8.2.1), z8.2.2), r9.1) a1 a2) fun r11 => ifb (ine r11.2 (0 : Int)) (k ((0 : Int), r11.2)) (aZ (jG r11.1) fun r12 => k (r12, (0 : Int))))))) ((0 : Int), a0.1.1, a0.1.2, a0.2.1, a0.2.2.1, a0.2.2.2.1, a0.2.2.2.2.1, a0.2.2.2.2.2))
def uw (a0 : Val ba) (a1 : Val aY) (a2 : Val bm) : Option (Val aY) := Gd a0 a1 a2 some
def kK (c0 : (Val ae)) (c1 : Int) (c3 : (Val ah)) (v0 : Int) (kn : Int → Option ρ) (k0 : Int → Option ρ) (k1 : Unit → Option ρ) : Option ρ :=
  ifb (ilt v0 c1) (dI c0 v0 fun e1 => ifb (ilt e1 (0 : Int)) (k0 v0) (ifb (ige e1 (bE c3)) (k0 v0) (ck (v0 + (1 : Int)) fun n2 => kn n2))) (k1 ())
def xw (a0 : Val bo) (a1 : (Val ae)) (k : Int → Option ρ) : Option ρ :=
  ifb (igt (bE a1) (80 : Int)) (k (2 : Int)) (bt (fun (v5 : Int) kk7 => kK a1 (bE a1) a0.2 v5 (fun u6 => kk7 u6) (fun z3 => ifb (ige z3 (0 : Int)) (k (1 : Int)) (k (0 : Int))) (fun _ => k (0 : Int))) (0 : Int))
def nj (a0 : Val bo) (a1 : (Val ae)) : Option (Int) := xw a0 a1 some
def qK (c0 : (Val ae)) (c1 : Int) (c3 : (Val ah)) (v0 : Int) (v1 : Int) (v2 : Int) (kn : Int → Int → Int → Option ρ) (k0 : (Val (.pair tI (.pair tI .bool))) → Option ρ) (k1 : Val aY → Option ρ) : Option ρ :=
  ifb (ilt v2 c1) (dI c0 v2 fun e1 => dI c3 e1 fun e2 => ifb (ine e2.1 v0) (k0 ((0 : Int), (0 : Int), false)) (ck (v1 + e2.2.2) fun n3 => ck (v2 + (1 : Int)) fun n4 => kn e2.2.1 n3 n4)) (k1 (v0, v1))
def MB (a0 : Val bo) (a1 : Int) (a2 : (Val ae)) (k : (Val (.pair tI (.pair tI .bool))) → Option ρ) : Option ρ :=
  bt (fun (v7 : Val ci) kk11 => qK a2 (bE a2) a0.2 v7.1 v7.2.1 v7.2.2 (fun u8 u9 u10 => kk11 (u8, u9, u10)) (fun z5 => k (z5.1, z5.2.1, z5.2.2)) (fun z6 => k (z6.1, z6.2, true))) (a1, (0 : Int), (0 : Int))
def AI (a0 : Val bo) (a1 : Int) (a2 : (Val ae)) : Option ((Val (.pair tI (.pair tI .bool)))) := MB a0 a1 a2 some
def oN (a0 : Val bo) (a1 : Int) (a2 : Int) (a3 : (Val ae)) (k : Val aY → Option ρ) : Option ρ :=
  aZ (lr a0) fun r1 => ifb (ine r1.1 (0 : Int)) (k ((0 : Int), r1.1)) (aZ (oo a0 a1) fun r2 => ifb (!r2) (k ((0 : Int), (1 : Int))) (aZ (oo a0 a2) fun r3 => ifb (!r3) (k ((0 : Int), (1 : Int))) (aZ (nj a0 a3) fun r4 => ifb (ine r4 (0 : Int)) (k ((0 : Int), r4)) (aZ (AI a0 a1 a3) fun r5 => ifb (!r5.2.2) (k ((0 : Int), (8 : Int))) (ifb (ine r5.1 a2) (k ((0 : Int), (8 : Int))) (k (r5.2.1, (0 : Int))))))))
def iJ (a0 : Val bo) (a1 : Int) (a2 : Int) (a3 : (Val ae)) : Option (Val aY) := oN a0 a1 a2 a3 some
def qH (a0 : Val fK) (k : Int → Option ρ) : Option ρ :=
  aZ (bZ a0.1) fun r1 => ifb (ine r1 (0 : Int)) (k r1) (aZ (er a0.1 a0.2.1) fun r2 => ifb (ine r2.2 (0 : Int)) (k (5 : Int)) (aZ (dc a0.1) fun r3 => ck (0 - a0.2.2.2.1) fun n4 => ifb a0.2.2.1 (aZ (iJ r3.1 (0 : Int) r2.1 a0.2.2.2.2) fun r5 => ifb (ine r5.2 (0 : Int)) (k (8 : Int)) (ifb (ine r5.1 a0.2.2.2.1) (k (8 : Int)) (k (0 : Int)))) (aZ (iJ r3.1 r2.1 (0 : Int) a0.2.2.2.2) fun r6 => ifb (ine r6.2 (0 : Int)) (k (8 : Int)) (ifb (ine r6.1 n4) (k (8 : Int)) (k (0 : Int))))))
def jI (a0 : Val fK) : Option (Int) := qH a0 some
def oM (a0 : Val bo) (a1 : (Val ae)) (k : Int → Option ρ) : Option ρ :=
  aZ (lr a0) fun r1 => ifb (ine r1.1 (0 : Int)) (k r1.1) (aZ (nj a0 a1) fun r2 => ifb (ine r2 (0 : Int)) (k r2) (ifb (ieq (bE a1) (0 : Int)) (k (8 : Int)) (dI a1 (0 : Int) fun e3 => dI a0.2 e3 fun e4 => aZ (AI a0 e4.1 a1) fun r5 => ifb (!r5.2.2) (k (8 : Int)) (ifb (ine r5.1 e4.1) (k (8 : Int)) (ifb (ige r5.2.1 (0 : Int)) (k (8 : Int)) (k (0 : Int)))))))
def kO (a0 : Val bo) (a1 : (Val ae)) : Option (Int) := oM a0 a1 some
def oH (a0 : Val fK) (k : Int → Option ρ) : Option ρ :=
  aZ (bZ a0.1) fun r1 => ifb (ine r1 (0 : Int)) (k r1) (ifb (!((ff a0.2.1.1 (0 : Int)) && ((ff a0.2.1.2 (0 : Int)) && true))) (k (1 : Int)) (ifb a0.2.2.1 (k (1 : Int)) (ifb (ine a0.2.2.2.1 (0 : Int)) (k (1 : Int)) (aZ (dc a0.1) fun r2 => aZ (kO r2.1 a0.2.2.2.2) fun r3 => ifb (ine r3 (0 : Int)) (k (8 : Int)) (k (0 : Int))))))
def kM (a0 : Val fK) : Option (Int) := oH a0 some
def cf (c0 : (Val ac)) (c1 : Int) (c2 : Int) (c3 : Int) (c4 : Int) (c5 : Int) (c6 : Int) (c7 : Int) (c8 : Int) (c9 : Int) (v0 : Int) (kn : Int → Option ρ) (k0 : Int → Option ρ) (k1 : Unit → Option ρ) : Option ρ :=
  ifb (ilt v0 c1) (dI c0 v0 fun e1 => ifb ((ff c2 e1.1) && ((ff c3 e1.2.1) && ((ff c4 e1.2.2.1) && ((ff c5 e1.2.2.2.1.1) && ((ff c6 e1.2.2.2.1.2) && ((ff c7 e1.2.2.2.2.1.1) && ((ff c8 e1.2.2.2.2.1.2) && ((ff c9 e1.2.2.2.2.2) && true)))))))) (k0 v0) (ck (v0 + (1 : Int)) fun n2 => kn n2)) (k1 ())
def ej (a0 : (Val ac)) (a1 : Val bj) (k : Int → Option ρ) : Option ρ :=
  bt (fun (v5 : Int) kk7 => cf a0 (bE a0) a1.1 a1.2.1 a1.2.2.1 a1.2.2.2.1.1 a1.2.2.2.1.2 a1.2.2.2.2.1.1 a1.2.2.2.2.1.2 a1.2.2.2.2.2 v5 (fun u6 => kk7 u6) (fun z3 => k z3) (fun _ => k (-1 : Int))) (0 : Int)
def eo (a0 : (Val ac)) (a1 : Val bj) : Option (Int) := ej a0 a1 some
def dF (a0 : (Val ac)) (a1 : Val bj) (k : Bool → Option ρ) : Option ρ :=
  aZ (eo a0 a1) fun r1 => k (ige r1 (0 : Int))
def cN (a0 : (Val ac)) (a1 : Val bj) : Option (Bool) := dF a0 a1 some
def cB (c0 : (Val aa)) (c1 : Int) (c2 : Int) (c3 : Int) (v0 : Int) (kn : Int → Option ρ) (k0 : Int → Option ρ) (k1 : Unit → Option ρ) : Option ρ :=
  ifb (ilt v0 c1) (dI c0 v0 fun e1 => ifb ((ff c2 e1.1) && ((ff c3 e1.2) && true)) (k0 v0) (ck (v0 + (1 : Int)) fun n2 => kn n2)) (k1 ())
def fE (a0 : (Val aa)) (a1 : Val aY) (k : Int → Option ρ) : Option ρ :=
  bt (fun (v5 : Int) kk7 => cB a0 (bE a0) a1.1 a1.2 v5 (fun u6 => kk7 u6) (fun z3 => k z3) (fun _ => k (-1 : Int))) (0 : Int)
def fH (a0 : (Val aa)) (a1 : Val aY) : Option (Int) := fE a0 a1 some
def ew (a0 : (Val aa)) (a1 : Val aY) (k : Bool → Option ρ) : Option ρ :=
  aZ (fH a0 a1) fun r1 => k (ige r1 (0 : Int))
def cG (a0 : (Val aa)) (a1 : Val aY) : Option (Bool) := ew a0 a1 some
def cm (c0 : (Val af)) (c1 : Int) (c2 : Int) (c3 : Int) (c4 : Int) (c5 : Int) (v0 : Int) (kn : Int → Option ρ) (k0 : Int → Option ρ) (k1 : Unit → Option ρ) : Option ρ :=
  ifb (ilt v0 c1) (dI c0 v0 fun e1 => ifb ((ff c2 e1.1) && ((ff c3 e1.2.1.1) && ((ff c4 e1.2.1.2) && ((ff c5 e1.2.2) && true)))) (k0 v0) (ck (v0 + (1 : Int)) fun n2 => kn n2)) (k1 ())
def eW (a0 : (Val af)) (a1 : Val dr) (k : Int → Option ρ) : Option ρ :=
  bt (fun (v5 : Int) kk7 => cm a0 (bE a0) a1.1 a1.2.1.1 a1.2.1.2 a1.2.2 v5 (fun u6 => kk7 u6) (fun z3 => k z3) (fun _ => k (-1 : Int))) (0 : Int)
def eY (a0 : (Val af)) (a1 : Val dr) : Option (Int) := eW a0 a1 some
def dR (a0 : (Val af)) (a1 : Val dr) (k : Bool → Option ρ) : Option ρ :=
  aZ (eY a0 a1) fun r1 => k (ige r1 (0 : Int))
def cn (a0 : (Val af)) (a1 : Val dr) : Option (Bool) := dR a0 a1 some
def qz (c0 : (Val ac)) (c1 : Int) (v0 : Int) (v1 : (Val aj)) (kn : Int → (Val aj) → Option ρ) (k0 : (Val aj) → Option ρ) : Option ρ :=
  ifb (ilt v0 c1) (dI c0 v0 fun e1 => ck (v0 + (1 : Int)) fun n2 => kn n2 (EU (k := tI) (v := .bool) e1.1 true v1)) (k0 v1)
def km (c0 : (Val ae)) (c1 : (Val ae)) (c2 : Int) (v0 : Int) (kn : Int → Option ρ) (k0 : Bool → Option ρ) (k1 : Unit → Option ρ) : Option ρ :=
  ifb (ilt v0 c2) (dI c0 v0 fun e7 => dI c1 v0 fun e8 => ifb (ine e7 e8) (k0 false) (ck (v0 + (1 : Int)) fun n9 => kn n9)) (k1 ())
def qy (c0 : (Val ae)) (c1 : (Val ae)) (c2 : Int) (v0 : Int) (kn : Int → Option ρ) (k0 : Bool → Option ρ) (k1 : Unit → Option ρ) : Option ρ :=
  ifb (ilt v0 c2) (dI c0 v0 fun e12 => dI c1 v0 fun e13 => ifb (ine e12 e13) (k0 false) (ck (v0 + (1 : Int)) fun n14 => kn n14)) (k1 ())
def mT (c0 : (Val ab)) (c1 : Int) (c17 : Int) (c18 : Int) (c19 : (Val ae)) (c20 : (Val ae)) (c21 : Int) (c22 : Int) (c23 : Int) (c24 : Int) (v0 : Int) (kn : Int → Option ρ) (k0 : Int → Option ρ) (k1 : Unit → Option ρ) : Option ρ :=
  ifb (ilt v0 c1) (dI c0 v0 fun e5 => ifb (ieq c17 e5.1) (ifb (ieq c18 e5.2.1) (ifb (ieq c21 e5.2.2.2.2.1) (ifb (ieq c22 e5.2.2.2.2.2.1) (ifb ((ff c23 e5.2.2.2.2.2.2.1) && ((ff c24 e5.2.2.2.2.2.2.2) && true)) (ifb (ine (bE c19) (bE e5.2.2.1)) (ck (v0 + (1 : Int)) fun n6 => kn n6) (bt (fun (v30 : Int) kk32 => km c19 e5.2.2.1 (bE c19) v30 (fun u31 => kk32 u31) (fun z10 => ifb z10 (ifb (ine (bE c20) (bE e5.2.2.2.1)) (ck (v0 + (1 : Int)) fun n11 => kn n11) (bt (fun (v18 : Int) kk20 => qy c20 e5.2.2.2.1 (bE c20) v18 (fun u19 => kk20 u19) (fun z15 => ifb z15 (k0 v0) (ck (v0 + (1 : Int)) fun n16 => kn n16)) (fun _ => k0 v0)) (0 : Int))) (ck (v0 + (1 : Int)) fun n21 => kn n21)) (fun _ => ifb (ine (bE c20) (bE e5.2.2.2.1)) (ck (v0 + (1 : Int)) fun n23 => kn n23) (bt (fun (v27 : Int) kk29 => qy c20 e5.2.2.2.1 (bE c20) v27 (fun u28 => kk29 u28) (fun z24 => ifb z24 (k0 v0) (ck (v0 + (1 : Int)) fun n25 => kn n25)) (fun _ => k0 v0)) (0 : Int)))) (0 : Int))) (ck (v0 + (1 : Int)) fun n33 => kn n33)) (ck (v0 + (1 : Int)) fun n34 => kn n34)) (ck (v0 + (1 : Int)) fun n35 => kn n35)) (ck (v0 + (1 : Int)) fun n36 => kn n36)) (ck (v0 + (1 : Int)) fun n37 => kn n37)) (k1 ())
def mU (c0 : (Val ab)) (c1 : Int) (c14 : (Val ab)) (v0 : Int) (kn : Int → Option ρ) (k0 : Bool → Option ρ) (k1 : Unit → Option ρ) : Option ρ :=
  ifb (ilt v0 c1) (dI c0 v0 fun e4 => bt (fun (v41 : Int) kk43 => mT c14 (bE c14) e4.1 e4.2.1 e4.2.2.1 e4.2.2.2.1 e4.2.2.2.2.1 e4.2.2.2.2.2.1 e4.2.2.2.2.2.2.1 e4.2.2.2.2.2.2.2 v41 (fun u42 => kk43 u42) (fun z38 => ifb (!(ige z38 (0 : Int))) (k0 false) (ck (v0 + (1 : Int)) fun n39 => kn n39)) (fun _ => k0 false)) (0 : Int)) (k1 ())
def mS (c0 : (Val ac)) (c1 : Int) (c17 : (Val ac)) (v0 : Int) (kn : Int → Option ρ) (k0 : Int → Option ρ) (k1 : Unit → Option ρ) : Option ρ :=
  ifb (ilt v0 c1) (dI c0 v0 fun e46 => aZ (cN c17 e46) fun r47 => ifb (!r47) (k0 v0) (ck (v0 + (1 : Int)) fun n48 => kn n48)) (k1 ())
def iY (c0 : (Val aa)) (c1 : Int) (c16 : (Val aj)) (c18 : (Val aa)) (v0 : Int) (kn : Int → Option ρ) (k0 : Int → Option ρ) (k1 : Unit → Option ρ) : Option ρ :=
  ifb (ilt v0 c1) (dI c0 v0 fun e50 => ED (k := tI) (v := .bool) e50.1 c16 (fun y51 => ifb y51 (aZ (cG c18 e50) fun r52 => ifb (!r52) (k0 v0) (ck (v0 + (1 : Int)) fun n53 => kn n53)) (ck (v0 + (1 : Int)) fun n54 => kn n54)) (ck (v0 + (1 : Int)) fun n55 => kn n55)) (k1 ())
def kj (c0 : (Val aa)) (c1 : Int) (c16 : (Val aj)) (c19 : (Val aa)) (v0 : Int) (kn : Int → Option ρ) (k0 : Int → Option ρ) (k1 : Unit → Option ρ) : Option ρ :=
  ifb (ilt v0 c1) (dI c0 v0 fun e57 => ED (k := tI) (v := .bool) e57.1 c16 (fun y58 => ifb y58 (aZ (cG c19 e57) fun r59 => ifb (!r59) (k0 v0) (ck (v0 + (1 : Int)) fun n60 => kn n60)) (ck (v0 + (1 : Int)) fun n61 => kn n61)) (ck (v0 + (1 : Int)) fun n62 => kn n62)) (k1 ())
def du (c0 : (Val af)) (c1 : Int) (c16 : (Val aj)) (c20 : (Val af)) (v0 : Int) (kn : Int → Option ρ) (k0 : Int → Option ρ) (k1 : Unit → Option ρ) : Option ρ :=
  ifb (ilt v0 c1) (dI c0 v0 fun e64 => ED (k := tI) (v := .bool) e64.1 c16 (fun y65 => ifb y65 (aZ (cn c20 e64) fun r66 => ifb (!r66) (k0 v0) (ck (v0 + (1 : Int)) fun n67 => kn n67)) (ck (v0 + (1 : Int)) fun n68 => kn n68)) (ck (v0 + (1 : Int)) fun n69 => kn n69)) (k1 ())
def cz (c0 : (Val af)) (c1 : Int) (c16 : (Val aj)) (c21 : (Val af)) (v0 : Int) (kn : Int → Option ρ) (k0 : Int → Option ρ) (k1 : Unit → Option ρ) : Option ρ :=
  ifb (ilt v0 c1) (dI c0 v0 fun e71 => ED (k := tI) (v := .bool) e71.1 c16 (fun y72 => ifb y72 (aZ (cn c21 e71) fun r73 => ifb (!r73) (k0 v0) (ck (v0 + (1 : Int)) fun n74 => kn n74)) (ck (v0 + (1 : Int)) fun n75 => kn n75)) (ck (v0 + (1 : Int)) fun n76 => kn n76)) (k1 ())
def Mh (a0 : Val ba) (a1 : Val ba) (k : Bool → Option ρ) : Option ρ :=
  bt (fun (v231 : (Val (.pair tI aj))) kk234 => qz a0.2.1 (bE a0.2.1) v231.1 v231.2 (fun u232 u233 => kk234 (u232, u233)) (fun z3 => bt (fun (v228 : Int) kk230 => mU a0.2.2.2.2.1 (bE a0.2.2.2.2.1) a1.2.2.2.2.1 v228 (fun u229 => kk230 u229) (fun z44 => k z44) (fun _ => ifb ((ff a0.1.1 a1.1.1) && ((ff a0.1.2 a1.1.2) && true)) (bt (fun (v225 : Int) kk227 => mS a0.2.1 (bE a0.2.1) a1.2.1 v225 (fun u226 => kk227 u226) (fun z49 => ifb (!(ige z49 (0 : Int))) (bt (fun (v146 : Int) kk148 => iY a0.2.2.1 (bE a0.2.2.1) z3 a1.2.2.1 v146 (fun u147 => kk148 u147) (fun z56 => ifb (!(ige z56 (0 : Int))) (bt (fun (v107 : Int) kk109 => kj a1.2.2.1 (bE a1.2.2.1) z3 a0.2.2.1 v107 (fun u108 => kk109 u108) (fun z63 => ifb (!(ige z63 (0 : Int))) (bt (fun (v88 : Int) kk90 => du a0.2.2.2.1 (bE a0.2.2.2.1) z3 a1.2.2.2.1 v88 (fun u89 => kk90 u89) (fun z70 => ifb (!(ige z70 (0 : Int))) (bt (fun (v79 : Int) kk81 => cz a1.2.2.2.1 (bE a1.2.2.2.1) z3 a0.2.2.2.1 v79 (fun u80 => kk81 u80) (fun z77 => k (!(ige z77 (0 : Int)))) (fun _ => k true)) (0 : Int)) (k false)) (fun _ => bt (fun (v85 : Int) kk87 => cz a1.2.2.2.1 (bE a1.2.2.2.1) z3 a0.2.2.2.1 v85 (fun u86 => kk87 u86) (fun z83 => k (!(ige z83 (0 : Int)))) (fun _ => k true)) (0 : Int))) (0 : Int)) (k false)) (fun _ => bt (fun (v104 : Int) kk106 => du a0.2.2.2.1 (bE a0.2.2.2.1) z3 a1.2.2.2.1 v104 (fun u105 => kk106 u105) (fun z92 => ifb (!(ige z92 (0 : Int))) (bt (fun (v95 : Int) kk97 => cz a1.2.2.2.1 (bE a1.2.2.2.1) z3 a0.2.2.2.1 v95 (fun u96 => kk97 u96) (fun z93 => k (!(ige z93 (0 : Int)))) (fun _ => k true)) (0 : Int)) (k false)) (fun _ => bt (fun (v101 : Int) kk103 => cz a1.2.2.2.1 (bE a1.2.2.2.1) z3 a0.2.2.2.1 v101 (fun u102 => kk103 u102) (fun z99 => k (!(ige z99 (0 : Int)))) (fun _ => k true)) (0 : Int))) (0 : Int))) (0 : Int)) (k false)) (fun _ => bt (fun (v143 : Int) kk145 => kj a1.2.2.1 (bE a1.2.2.1) z3 a0.2.2.1 v143 (fun u144 => kk145 u144) (fun z111 => ifb (!(ige z111 (0 : Int))) (bt (fun (v124 : Int) kk126 => du a0.2.2.2.1 (bE a0.2.2.2.1) z3 a1.2.2.2.1 v124 (fun u125 => kk126 u125) (fun z112 => ifb (!(ige z112 (0 : Int))) (bt (fun (v115 : Int) kk117 => cz a1.2.2.2.1 (bE a1.2.2.2.1) z3 a0.2.2.2.1 v115 (fun u116 => kk117 u116) (fun z113 => k (!(ige z113 (0 : Int)))) (fun _ => k true)) (0 : Int)) (k false)) (fun _ => bt (fun (v121 : Int) kk123 => cz a1.2.2.2.1 (bE a1.2.2.2.1) z3 a0.2.2.2.1 v121 (fun u122 => kk123 u122) (fun z119 => k (!(ige z119 (0 : Int)))) (fun _ => k true)) (0 : Int))) (0 : Int)) (k false)) (fun _ => bt (fun (v140 : Int) kk142 => du a0.2.2.2.1 (bE a0.2.2.2.1) z3 a1.2.2.2.1 v140 (fun u141 => kk142 u141) (fun z128 => ifb (!(ige z128 (0 : Int))) (bt (fun (v131 : Int) kk133 => cz a1.2.2.2.1 (bE a1.2.2.2.1) z3 a0.2.2.2.1 v131 (fun u132 => kk133 u132) (fun z129 => k (!(ige z129 (0 : Int)))) (fun _ => k true)) (0 : Int)) (k false)) (fun _ => bt (fun (v137 : Int) kk139 => cz a1.2.2.2.1 (bE a1.2.2.2.1) z3 a0.2.2.2.1 v137 (fun u138 => kk139 u138) (fun z135 => k (!(ige z135 (0 : Int)))) (fun _ => k true)) (0 : Int))) (0 : Int))) (0 : Int))) (0 : Int)) (k false)) (fun _ => bt (fun (v222 : Int) kk224 => iY a0.2.2.1 (bE a0.2.2.1) z3 a1.2.2.1 v222 (fun u223 => kk224 u223) (fun z150 => ifb (!(ige z150 (0 : Int))) (bt (fun (v183 : Int) kk185 => kj a1.2.2.1 (bE a1.2.2.1) z3 a0.2.2.1 v183 (fun u184 => kk185 u184) (fun z151 => ifb (!(ige z151 (0 : Int))) (bt (fun (v164 : Int) kk166 => du a0.2.2.2.1 (bE a0.2.2.2.1) z3 a1.2.2.2.1 v164 (fun u165 => kk166 u165) (fun z152 => ifb (!(ige z152 (0 : Int))) (bt (fun (v155 : Int) kk157 => cz a1.2.2.2.1 (bE a1.2.2.2.1) z3 a0.2.2.2.1 v155 (fun u156 => kk157 u156) (fun z153 => k (!(ige z153 (0 : Int)))) (fun _ => k true)) (0 : Int)) (k false)) (fun _ => bt (fun (v161 : Int) kk163 => cz a1.2.2.2.1 (bE a1.2.2.2.1) z3 a0.2.2.2.1 v161 (fun u162 => kk163 u162) (fun z159 => k (!(ige z159 (0 : Int)))) (fun _ => k true)) (0 : Int))) (0 : Int)) (k false)) (fun _ => bt (fun (v180 : Int) kk182 => du a0.2.2.2.1 (bE a0.2.2.2.1) z3 a1.2.2.2.1 v180 (fun u181 => kk182 u181) (fun z168 => ifb (!(ige z168 (0 : Int))) (bt (fun (v171 : Int) kk173 => cz a1.2.2.2.1 (bE a1.2.2.2.1) z3 a0.2.2.2.1 v171 (fun u172 => kk173 u172) (fun z169 => k (!(ige z169 (0 : Int)))) (fun _ => k true)) (0 : Int)) (k false)) (fun _ => bt (fun (v177 : Int) kk179 => cz a1.2.2.2.1 (bE a1.2.2.2.1) z3 a0.2.2.2.1 v177 (fun u178 => kk179 u178) (fun z175 => k (!(ige z175 (0 : Int)))) (fun _ => k true)) (0 : Int))) (0 : Int))) (0 : Int)) (k false)) (fun _ => bt (fun (v219 : Int) kk221 => kj a1.2.2.1 (bE a1.2.2.1) z3 a0.2.2.1 v219 (fun u220 => kk221 u220) (fun z187 => ifb (!(ige z187 (0 : Int))) (bt (fun (v200 : Int) kk202 => du a0.2.2.2.1 (bE a0.2.2.2.1) z3 a1.2.2.2.1 v200 (fun u201 => kk202 u201) (fun z188 => ifb (!(ige z188 (0 : Int))) (bt (fun (v191 : Int) kk193 => cz a1.2.2.2.1 (bE a1.2.2.2.1) z3 a0.2.2.2.1 v191 (fun u192 => kk193 u192) (fun z189 => k (!(ige z189 (0 : Int)))) (fun _ => k true)) (0 : Int)) (k false)) (fun _ => bt (fun (v197 : Int) kk199 => cz a1.2.2.2.1 (bE a1.2.2.2.1) z3 a0.2.2.2.1 v197 (fun u198 => kk199 u198) (fun z195 => k (!(ige z195 (0 : Int)))) (fun _ => k true)) (0 : Int))) (0 : Int)) (k false)) (fun _ => bt (fun (v216 : Int) kk218 => du a0.2.2.2.1 (bE a0.2.2.2.1) z3 a1.2.2.2.1 v216 (fun u217 => kk218 u217) (fun z204 => ifb (!(ige z204 (0 : Int))) (bt (fun (v207 : Int) kk209 => cz a1.2.2.2.1 (bE a1.2.2.2.1) z3 a0.2.2.2.1 v207 (fun u208 => kk209 u208) (fun z205 => k (!(ige z205 (0 : Int)))) (fun _ => k true)) (0 : Int)) (k false)) (fun _ => bt (fun (v213 : Int) kk215 => cz a1.2.2.2.1 (bE a1.2.2.2.1) z3 a0.2.2.2.1 v213 (fun u214 => kk215 u214) (fun z211 => k (!(ige z211 (0 : Int)))) (fun _ => k true)) (0 : Int))) (0 : Int))) (0 : Int))) (0 : Int))) (0 : Int)) (k false))) (0 : Int))) ((0 : Int), [])
def AD (a0 : Val ba) (a1 : Val ba) : Option (Bool) := Mh a0 a1 some
def BF (a0 : Val ba) (a1 : Val fK) (k : (Val aP) → Option ρ) : Option ρ :=
  aZ (bZ a0) fun r1 => ifb (ine r1 (0 : Int)) (k (false, r1)) (ifb ((ff a1.2.1.1 (0 : Int)) && ((ff a1.2.1.2 (0 : Int)) && true)) (aZ (kM a1) fun r2 => ifb (ine r2 (0 : Int)) (k (false, r2)) (aZ (AD a1.1 a0) fun r3 => k (r3, (0 : Int)))) (aZ (jI a1) fun r4 => ifb (ine r4 (0 : Int)) (k (false, r4)) (aZ (AD a1.1 a0) fun r5 => k (r5, (0 : Int)))))
def vp (a0 : Val ba) (a1 : Val fK) : Option ((Val aP)) := BF a0 a1 some
def vf (c2 : Int) (v0 : Int) (v1 : (Val ae)) (kn : Int → (Val ae) → Option ρ) (k0 : (Val ae) → Option ρ) : Option ρ :=
  ifb (ilt v0 c2) (ca ((ile (0 : Int) v0) && (ilt v0 (dt v1))) (gg v1 (Int.toNat v0) fun e1 => ck (v0 + (1 : Int)) fun n2 => kn n2 (List.set v1 (Int.toNat v0) (1152921504606846976 : Int)))) (k0 v1)
def MD (c1 : Int) (v0 : Int) (v1 : (Val ae)) (kn : Int → (Val ae) → Option ρ) (k0 : (Val ae) → Option ρ) : Option ρ :=
  ifb (ilt v0 c1) (ca ((ile (0 : Int) v0) && (ilt v0 (dt v1))) (gg v1 (Int.toNat v0) fun e7 => ck (v0 + (1 : Int)) fun n8 => kn n8 (List.set v1 (Int.toNat v0) (1152921504606846976 : Int)))) (k0 v1)
def zy (c0 : (Val ae)) (c1 : (Val ah)) (c2 : Int) (v0 : Int) (v1 : (Val ae)) (kn : Int → (Val ae) → Option ρ) (k0 : (Val ae) → Option ρ) : Option ρ :=
  ifb (ilt v0 c2) (dI c1 v0 fun e10 => dI c0 e10.2.1 fun e11 => ifb (ine e11 (1152921504606846976 : Int)) (ca ((ile (0 : Int) e10.1) && (ilt e10.1 (dt v1))) (gg v1 (Int.toNat e10.1) fun e12 => dI c0 e10.2.1 fun e13 => ck (e10.2.2 + e13) fun n14 => ca ((ile (0 : Int) e10.1) && (ilt e10.1 (dt v1))) (gg v1 (Int.toNat e10.1) fun e15 => ck (v0 + (1 : Int)) fun n16 => kn n16 (List.set v1 (Int.toNat e10.1) (Rc e12 n14))))) (ck (v0 + (1 : Int)) fun n17 => kn n17 v1)) (k0 v1)
def EX (c0 : Int) (c1 : Int) (c2 : (Val ah)) (v0 : Int) (v1 : (Val am)) (kn : Int → (Val am) → Option ρ) (k0 : (Val am) → Option ρ) : Option ρ :=
  ifb (ilt v0 c0) (ck ((bE v1) - (1 : Int)) fun n5 => ca ((ile (0 : Int) n5) && (ilt n5 (dt v1))) (gg v1 (Int.toNat n5) fun e6 => ca ((ile (0 : Int) c1) && (bW (Int.toNat c1))) (bt (fun (v24 : (Val ax)) kk27 => MD (bE (List.replicate (Int.toNat c1) (0 : Int))) v24.1 v24.2 (fun u25 u26 => kk27 (u25, u26)) (fun z9 => bt (fun (v20 : (Val ax)) kk23 => zy e6 c2 (bE c2) v20.1 v20.2 (fun u21 u22 => kk23 (u21, u22)) (fun z18 => ca (bW ((List.length v1) + (List.length ([z18])))) (ck (v0 + (1 : Int)) fun n19 => kn n19 (v1 ++ ([z18]))))) ((0 : Int), z9))) ((0 : Int), (List.replicate (Int.toNat c1) (0 : Int)))))) (k0 v1)
def Gp (a0 : Val bo) (a1 : Int) (a2 : Int) (k : (Val am) → Option ρ) : Option ρ :=
  ca ((ile (0 : Int) a0.1) && (bW (Int.toNat a0.1))) (bt (fun (v33 : (Val ax)) kk36 => vf (bE (List.replicate (Int.toNat a0.1) (0 : Int))) v33.1 v33.2 (fun u34 u35 => kk36 (u34, u35)) (fun z3 => ca ((ile (0 : Int) a1) && (ilt a1 (dt z3))) (gg z3 (Int.toNat a1) fun e4 => bt (fun (v29 : (Val (.pair tI am))) kk32 => EX a2 a0.1 a0.2 v29.1 v29.2 (fun u30 u31 => kk32 (u30, u31)) (fun z28 => k z28)) ((0 : Int), [(List.set z3 (Int.toNat a1) (0 : Int))])))) ((0 : Int), (List.replicate (Int.toNat a0.1) (0 : Int))))
def uz (a0 : Val bo) (a1 : Int) (a2 : Int) : Option ((Val am)) := Gp a0 a1 a2 some
def Dr (c0 : Int) (c1 : Int) (c2 : (Val ah)) (v0 : Int) (v1 : (Val aH)) (kn : Int → (Val aH) → Option ρ) (k0 : (Val aH) → Option ρ) : Option ρ :=
  ifb (ilt v0 c0) (aZ (uz (c1, c2) v0 c1) fun r3 => ca ((ile (0 : Int) v0) && (ilt v0 (dt v1))) (gg v1 (Int.toNat v0) fun e4 => ck (v0 + (1 : Int)) fun n5 => kn n5 (List.set v1 (Int.toNat v0) r3))) (k0 v1)
def Dm (c0 : Int) (c1 : (Val am)) (c2 : (Val ah)) (c3 : Int) (v0 : Int) (v1 : Int) (v2 : Int) (v3 : (Val ae)) (kn : Int → Int → Int → (Val ae) → Option ρ) (k0 : (Val (.pair tI ax)) → Option ρ) : Option ρ :=
  ifb (ilt v2 c3) (dI c2 v2 fun e16 => ifb (ieq e16.1 v0) (ck (c0 - (1 : Int)) fun n17 => dI c1 n17 fun e18 => dI e18 e16.2.1 fun e19 => ifb (ine e19 (1152921504606846976 : Int)) (ck (v1 + e16.2.2) fun n20 => ck (c0 - (1 : Int)) fun n21 => dI c1 n21 fun e22 => dI e22 e16.2.1 fun e23 => ck (n20 + e23) fun n24 => ifb (ilt n24 (0 : Int)) (ca (bW ((List.length v3) + (List.length ([v2])))) (ck (v1 + e16.2.2) fun n25 => k0 (e16.2.1, n25, (v3 ++ ([v2]))))) (ck (v2 + (1 : Int)) fun n26 => kn v0 v1 n26 v3)) (ck (v2 + (1 : Int)) fun n27 => kn v0 v1 n27 v3)) (ck (v2 + (1 : Int)) fun n28 => kn v0 v1 n28 v3)) (k0 (v0, v1, v3))
def Dn (c0 : (Val am)) (c8 : (Val ah)) (v0 : Int) (v1 : Int) (v2 : Int) (v3 : (Val ae)) (kn : Int → Int → Int → (Val ae) → Option ρ) (k0 : (Val ae) → Option ρ) : Option ρ :=
  ifb (igt v1 (0 : Int)) (bt (fun (v31 : (Val aA)) kk36 => Dm v1 c0 c8 (bE c8) v31.1 v31.2.1 v31.2.2.1 v31.2.2.2 (fun u32 u33 u34 u35 => kk36 (u32, u33, u34, u35)) (fun z29 => ck (v1 - (1 : Int)) fun n30 => kn z29.1 n30 z29.2.1 z29.2.2)) (v0, v2, (0 : Int), v3)) (k0 v3)
def Dp (c0 : Int) (c1 : (Val ah)) (c2 : Int) (c3 : Int) (c4 : (Val ah)) (c5 : (Val aH)) (v0 : Int) (kn : Int → Option ρ) (k0 : Unit → Option ρ) (k1 : (Val ax) → Option ρ) (k2 : Unit → Option ρ) : Option ρ :=
  ifb (ilt v0 c2) (dI c1 v0 fun e7 => ca ((ile (0 : Int) e7.1) && (ilt e7.1 (dt c5))) (gg c5 (Int.toNat e7.1) fun e8 => ck (c0 - (1 : Int)) fun n9 => dI e8 n9 fun e10 => dI e10 e7.2.1 fun e11 => ifb (ieq e11 (1152921504606846976 : Int)) (ck (v0 + (1 : Int)) fun n12 => kn n12) (ck (e7.2.2 + e11) fun n13 => ifb (ige n13 (0 : Int)) (ck (v0 + (1 : Int)) fun n14 => kn n14) (ifb (igt c0 c3) (k0 ()) (ca ((ile (0 : Int) e7.1) && (ilt e7.1 (dt c5))) (gg c5 (Int.toNat e7.1) fun e15 => bt (fun (v38 : (Val aA)) kk43 => Dn e15 c4 v38.1 v38.2.1 v38.2.2.1 v38.2.2.2 (fun u39 u40 u41 u42 => kk43 (u39, u40, u41, u42)) (fun z37 => k1 ((0 : Int), z37))) (e7.1, c0, (0 : Int), []))))))) (k2 ())
def Dq (c0 : Int) (c1 : (Val ah)) (c2 : (Val aH)) (v0 : Int) (kn : Int → Option ρ) (k0 : Unit → Option ρ) (k1 : (Val ax) → Option ρ) : Option ρ :=
  bt (fun (v48 : Int) kk50 => Dp v0 c1 (bE c1) c0 c1 c2 v48 (fun u49 => kk50 u49) (fun _ => k0 ()) (fun z45 => k1 (z45.1, z45.2)) (fun _ => ck (v0 + (1 : Int)) fun n47 => kn n47)) (0 : Int)
def GC (a0 : Val bo) (k : (Val aB) → Option ρ) : Option ρ :=
  aZ (lr a0) fun r1 => ifb (ine r1.1 (0 : Int)) (k ([], r1.1)) (aZ (jf a0 ([])) fun r2 => ifb r2.2 (k ([], (5 : Int))) (ca ((ile (0 : Int) a0.1) && (bW (Int.toNat a0.1))) (bt (fun (v56 : (Val (.pair tI aH))) kk59 => Dr (bE (List.replicate (Int.toNat a0.1) ([] : (Val am)))) a0.1 a0.2 v56.1 v56.2 (fun u57 u58 => kk59 (u57, u58)) (fun z6 => bt (fun (v53 : Int) kk55 => Dq a0.1 a0.2 z6 v53 (fun u54 => kk55 u54) (fun _ => k ([], (5 : Int))) (fun z52 => k (z52.2, z52.1))) (1 : Int))) ((0 : Int), (List.replicate (Int.toNat a0.1) ([] : (Val am)))))))
def uA (a0 : Val bo) : Option ((Val aB)) := GC a0 some
def kI (c0 : (Val aa)) (c1 : (Val ae)) (c2 : Int) (v0 : Int) (v1 : (Val aa)) (kn : Int → (Val aa) → Option ρ) (k0 : (Val aa) → Option ρ) : Option ρ :=
  ifb (ilt v0 c2) (dI c1 v0 fun e2 => dI c0 e2 fun e3 => ca (bW ((List.length v1) + (List.length ([e3])))) (ck (v0 + (1 : Int)) fun n4 => kn n4 (v1 ++ ([e3])))) (k0 v1)
def xl (a0 : Val ba) (a1 : (Val ae)) (k : (Val aa) → Option ρ) : Option ρ :=
  aZ (dc a0) fun r1 => bt (fun (v6 : (Val az)) kk9 => kI r1.2.1 a1 (bE a1) v6.1 v6.2 (fun u7 u8 => kk9 (u7, u8)) (fun z5 => k z5)) ((0 : Int), [])
def ng (a0 : Val ba) (a1 : (Val ae)) : Option ((Val aa)) := xl a0 a1 some
def Gj (a0 : Val ba) (k : (Val (.pair fK tI)) → Option ρ) : Option ρ :=
  aZ (dc a0) fun r1 => ifb (ine r1.2.2 (0 : Int)) (k (((((0 : Int), (0 : Int)), [], [], [], [], []), ((0 : Int), (0 : Int)), false, (0 : Int), []), r1.2.2)) (aZ (uA r1.1) fun r2 => ifb (ine r2.2 (0 : Int)) (k (((((0 : Int), (0 : Int)), [], [], [], [], []), ((0 : Int), (0 : Int)), false, (0 : Int), []), r2.2)) (aZ (ng a0 r2.1) fun r3 => aZ (HN a0 r3 ([])) fun r4 => aZ (dc r4) fun r5 => aZ (uA r5.1) fun r6 => ifb (ine r6.2 (0 : Int)) (k (((((0 : Int), (0 : Int)), [], [], [], [], []), ((0 : Int), (0 : Int)), false, (0 : Int), []), r6.2)) (k ((r4, ((0 : Int), (0 : Int)), false, (0 : Int), r6.1), (0 : Int)))))
def AH (a0 : Val ba) : Option ((Val (.pair fK tI))) := Gj a0 some
def qE (a0 : Int) (k : Int → Option ρ) : Option ρ :=
  k (Rd (-288230376151711744 : Int) (Rc a0 (288230376151711744 : Int)))
def jH (a0 : Int) : Option (Int) := qE a0 some
def qB (a0 : Val ci) (a1 : Int) (k : (Val ae) → Option ρ) : Option ρ :=
  ck (a1 - a0.2.1) fun n1 => ck (a0.2.2 - a1) fun n2 => k ([n1, n2])
def gD (a0 : Val ci) (a1 : Int) : Option ((Val ae)) := qB a0 a1 some
def oF (c0 : Int) (c20 : (Val aa)) (v0 : Int) (v1 : Int) (v2 : Int) (v3 : (Val ac)) (v4 : (Val aa)) (v5 : (Val af)) (v6 : (Val ab)) (v7 : (Val aa)) (kn : Int → Int → Int → (Val ac) → (Val aa) → (Val af) → (Val ab) → (Val aa) → Option ρ) (k0 : (Val ay) → Option ρ) (k1 : (Val ai) → Option ρ) : Option ρ :=
  ifb (ilt v0 c0) (ca ((ile (0 : Int) v0) && (ilt v0 (dt c20))) (gg c20 (Int.toNat v0) fun e2 => aZ (er ((v1, v2), v3, v4, v5, v6, v7) e2) fun r3 => ifb (ieq r3.2 (0 : Int)) (ck (v0 + (1 : Int)) fun n4 => kn n4 v1 v2 v3 v4 v5 v6 v7) (aZ (iP ((v1, v2), v3, v4, v5, v6, v7) e2) fun r5 => ifb (ine r5.2 (0 : Int)) (k0 (r5.2, v1, v2, v3, v4, v5, v6, v7)) (ck (v0 + (1 : Int)) fun n6 => kn n6 r5.1.1.1 r5.1.1.2 r5.1.2.1 r5.1.2.2.1 r5.1.2.2.2.1 r5.1.2.2.2.2.1 r5.1.2.2.2.2.2)))) (k1 (v1, v2, v3, v4, v5, v6, v7))
def kJ (c0 : (Val ae)) (c1 : Int) (c11 : Int) (c12 : Int) (c31 : Int) (c32 : Int) (c33 : Int) (c34 : Int) (c35 : Int) (c36 : Int) (c37 : Int) (c38 : Int) (v0 : Int) (kn : Int → Option ρ) (k0 : Int → Option ρ) (k1 : Unit → Option ρ) : Option ρ :=
  ifb (ilt v0 c1) (dI c0 v0 fun e26 => aZ (dO ((c31, c32), (c33, c34, c35), c36, c37, c38) e26) fun r27 => aZ (nf r27 (c11, c12)) fun r28 => ifb (ieq r28 (3 : Int)) (k0 v0) (ck (v0 + (1 : Int)) fun n29 => kn n29)) (k1 ())
def xr (a0 : Val ba) (a1 : Val aY) (a2 : Val aY) (a3 : Val bm) (k : (Val aP) → Option ρ) : Option ρ :=
  aZ (bZ a0) fun r1 => ifb (ine r1 (0 : Int)) (ifb (ine r1 (0 : Int)) (k (false, r1)) (ca (igt a2.1 a2.2) (k (false, (1 : Int))))) (bt (fun (v35 : (Val ay)) kk44 => oF (bE ([a1])) ([a1]) v35.1 v35.2.1 v35.2.2.1 v35.2.2.2.1 v35.2.2.2.2.1 v35.2.2.2.2.2.1 v35.2.2.2.2.2.2.1 v35.2.2.2.2.2.2.2 (fun u36 u37 u38 u39 u40 u41 u42 u43 => kk44 (u36, u37, u38, u39, u40, u41, u42, u43)) (fun z7 => ifb (ine z7.1 (0 : Int)) (k (false, z7.1)) (ca (igt a2.1 a2.2) (k (false, (1 : Int))))) (fun z8 => aZ (dc ((z8.1, z8.2.1), z8.2.2)) fun r9 => ifb (ine r9.2.2 (0 : Int)) (ifb (ine r9.2.2 (0 : Int)) (k (false, r9.2.2)) (ca (igt a2.1 a2.2) (k (false, (1 : Int))))) (aZ (cR r9.1) fun r10 => ifb (!r10.1) (k (false, (9 : Int))) (ifb (igt a2.1 a2.2) (k (false, (1 : Int))) (aZ (pX (((z8.1, z8.2.1), z8.2.2), r9.1) a1 a3) fun r11 => ifb (ine r11.2 (0 : Int)) (k (false, r11.2)) (aZ (gC r11.1.2.1) fun r12 => aZ (gC r11.1.2.2) fun r13 => aZ (bL ([r12, r13])) fun r14 => aZ (jH a2.1) fun r15 => aZ (jH a2.2) fun r16 => aZ (gD r11.1.2.1 r15) fun r17 => ck (0 - r15) fun n18 => aZ (gD r11.1.2.2 n18) fun r19 => aZ (bL ([r14, r17, r19])) fun r20 => aZ (gD r11.1.2.1 r16) fun r21 => ck (0 - r16) fun n22 => aZ (gD r11.1.2.2 n22) fun r23 => aZ (bL ([r20, r21, r23])) fun r24 => aZ (iI r11.1 r24) fun r25 => bt (fun (v32 : Int) kk34 => kJ r25 (bE r25) r15 r16 r11.1.1.1 r11.1.1.2 r11.1.2.1.1 r11.1.2.1.2.1 r11.1.2.1.2.2 r11.1.2.2.1 r11.1.2.2.2.1 r11.1.2.2.2.2 v32 (fun u33 => kk34 u33) (fun z30 => k ((!(ige z30 (0 : Int))), (0 : Int))) (fun _ => k (true, (0 : Int)))) (0 : Int))))))) ((0 : Int), a0.1.1, a0.1.2, a0.2.1, a0.2.2.1, a0.2.2.2.1, a0.2.2.2.2.1, a0.2.2.2.2.2))
def nh (a0 : Val ba) (a1 : Val aY) (a2 : Val aY) (a3 : Val bm) : Option ((Val aP)) := xr a0 a1 a2 a3 some
def s7 (k : Val ba → Option ρ) : Option ρ :=
  k (((0 : Int), (2 : Int)), [((1 : Int), (0 : Int), (1000 : Int), ((-5 : Int), (5 : Int)), ((1 : Int), (10 : Int)), (1 : Int)), ((2 : Int), (0 : Int), (1000 : Int), ((-50 : Int), (50 : Int)), ((1 : Int), (4 : Int)), (0 : Int))], [((1 : Int), (10 : Int))], [((1 : Int), ((20 : Int), (29 : Int)), (3 : Int))], [((7 : Int), (10 : Int), [(1 : Int)], [(2 : Int)], (-20 : Int), (1 : Int), (100 : Int), (200 : Int))], [])
def ut : Option (Val ba) := s7 some
def oa (c0 : (Val am)) (c1 : Int) (c4 : Int) (c5 : Int) (v0 : Int) (kn : Int → Option ρ) (k0 : Int → Option ρ) (k1 : Unit → Option ρ) : Option ρ :=
  ifb (ilt v0 c1) (dI c0 v0 fun e3 => dI e3 c4 fun e4 => ifb (ieq e4 c5) (k0 v0) (ck (v0 + (1 : Int)) fun n5 => kn n5)) (k1 ())
def Ds (c0 : Int) (c1 : (Val am)) (c2 : (Val ah)) (c3 : Int) (c7 : Int) (v0 : Int) (v1 : Int) (v2 : Int) (v3 : (Val ae)) (kn : Int → Int → Int → (Val ae) → Option ρ) (k0 : (Val (.pair tI ax)) → Option ρ) : Option ρ :=
  ifb (ilt v2 c3) (dI c2 v2 fun e7 => ifb (ieq e7.1 v0) (ck (c0 - (1 : Int)) fun n8 => dI c1 n8 fun e9 => dI e9 e7.2.1 fun e10 => ifb (ine e10 (1152921504606846976 : Int)) (ck (v1 + e7.2.2) fun n11 => ck (c0 - (1 : Int)) fun n12 => dI c1 n12 fun e13 => dI e13 e7.2.1 fun e14 => ck (n11 + e14) fun n15 => ifb (ieq n15 c7) (ca (bW ((List.length v3) + (List.length ([v2])))) (ck (v1 + e7.2.2) fun n16 => k0 (e7.2.1, n16, (v3 ++ ([v2]))))) (ck (v2 + (1 : Int)) fun n17 => kn v0 v1 n17 v3)) (ck (v2 + (1 : Int)) fun n18 => kn v0 v1 n18 v3)) (ck (v2 + (1 : Int)) fun n19 => kn v0 v1 n19 v3)) (k0 (v0, v1, v3))
def n0 (c0 : (Val am)) (c4 : Int) (c6 : (Val ah)) (v0 : Int) (v1 : Int) (v2 : Int) (v3 : (Val ae)) (kn : Int → Int → Int → (Val ae) → Option ρ) (k0 : (Val ae) → Option ρ) : Option ρ :=
  ifb (igt v1 (0 : Int)) (bt (fun (v22 : (Val aA)) kk27 => Ds v1 c0 c6 (bE c6) c4 v22.1 v22.2.1 v22.2.2.1 v22.2.2.2 (fun u23 u24 u25 u26 => kk27 (u23, u24, u25, u26)) (fun z20 => ck (v1 - (1 : Int)) fun n21 => kn z20.1 n21 z20.2.1 z20.2.2)) (v0, v2, (0 : Int), v3)) (k0 v3)
def GI (a0 : Val bo) (a1 : Int) (a2 : Int) (k : (Val aB) → Option ρ) : Option ρ :=
  aZ (nk a0 a1 a2) fun r1 => ifb (ine r1.2 (0 : Int)) (k ([], r1.2)) (aZ (uz a0 a2 a0.1) fun r2 => bt (fun (v43 : Int) kk45 => oa r2 (bE r2) a1 r1.1 v43 (fun u44 => kk45 u44) (fun z6 => bt (fun (v29 : (Val aA)) kk34 => n0 r2 r1.1 a0.2 v29.1 v29.2.1 v29.2.2.1 v29.2.2.2 (fun u30 u31 u32 u33 => kk34 (u30, u31, u32, u33)) (fun z28 => k (z28, (0 : Int)))) (a1, z6, (0 : Int), [])) (fun _ => bt (fun (v37 : (Val aA)) kk42 => n0 r2 r1.1 a0.2 v37.1 v37.2.1 v37.2.2.1 v37.2.2.2 (fun u38 u39 u40 u41 => kk42 (u38, u39, u40, u41)) (fun z36 => k (z36, (0 : Int)))) (a1, (-1 : Int), (0 : Int), []))) (0 : Int))
def uB (a0 : Val bo) (a1 : Int) (a2 : Int) : Option ((Val aB)) := GI a0 a1 a2 some
def qI (a0 : (Val au)) (a1 : (Val aM)) (a2 : (Val (.ptr .bool))) (k : (Val ae) → Option ρ) : Option ρ :=
  aZ (fJ a0 a1) fun r1 => ifb a2 (aZ (uB a0.2 (0 : Int) r1) fun r2 => k r2.1) (aZ (uB a0.2 r1 (0 : Int)) fun r3 => k r3.1)
def jJ (a0 : (Val au)) (a1 : (Val aM)) (a2 : (Val (.ptr .bool))) : Option ((Val ae)) := qI a0 a1 a2 some
def oJ (c0 : Int) (c14 : (Val aa)) (v0 : Int) (v1 : Int) (v2 : Int) (v3 : (Val ac)) (v4 : (Val aa)) (v5 : (Val af)) (v6 : (Val ab)) (v7 : (Val aa)) (kn : Int → Int → Int → (Val ac) → (Val aa) → (Val af) → (Val ab) → (Val aa) → Option ρ) (k0 : (Val ay) → Option ρ) (k1 : (Val ai) → Option ρ) : Option ρ :=
  ifb (ilt v0 c0) (ca ((ile (0 : Int) v0) && (ilt v0 (dt c14))) (gg c14 (Int.toNat v0) fun e2 => aZ (er ((v1, v2), v3, v4, v5, v6, v7) e2) fun r3 => ifb (ieq r3.2 (0 : Int)) (ck (v0 + (1 : Int)) fun n4 => kn n4 v1 v2 v3 v4 v5 v6 v7) (aZ (iP ((v1, v2), v3, v4, v5, v6, v7) e2) fun r5 => ifb (ine r5.2 (0 : Int)) (k0 (r5.2, v1, v2, v3, v4, v5, v6, v7)) (ck (v0 + (1 : Int)) fun n6 => kn n6 r5.1.1.1 r5.1.1.2 r5.1.2.1 r5.1.2.2.1 r5.1.2.2.2.1 r5.1.2.2.2.2.1 r5.1.2.2.2.2.2)))) (k1 (v1, v2, v3, v4, v5, v6, v7))
def oI (c0 : Int) (v0 : Int) (kn : Int → Option ρ) (k0 : Unit → Option ρ) : Option ρ :=
  ifb (ilt v0 c0) (none) (k0 ())
def xu (a0 : Val ba) (a1 : Val aY) (a2 : Bool) (k : (Val (.pair fK tI)) → Option ρ) : Option ρ :=
  aZ (bZ a0) fun r1 => ifb (ine r1 (0 : Int)) (ca (ine r1 (0 : Int)) (k (((((0 : Int), (0 : Int)), [], [], [], [], []), ((0 : Int), (0 : Int)), false, (0 : Int), []), r1))) (bt (fun (v26 : (Val ay)) kk35 => oJ (bE ([a1])) ([a1]) v26.1 v26.2.1 v26.2.2.1 v26.2.2.2.1 v26.2.2.2.2.1 v26.2.2.2.2.2.1 v26.2.2.2.2.2.2.1 v26.2.2.2.2.2.2.2 (fun u27 u28 u29 u30 u31 u32 u33 u34 => kk35 (u27, u28, u29, u30, u31, u32, u33, u34)) (fun z7 => ca (ine z7.1 (0 : Int)) (k (((((0 : Int), (0 : Int)), [], [], [], [], []), ((0 : Int), (0 : Int)), false, (0 : Int), []), z7.1))) (fun z8 => aZ (dc ((z8.1, z8.2.1), z8.2.2)) fun r9 => ifb (ine r9.2.2 (0 : Int)) (ca (ine r9.2.2 (0 : Int)) (k (((((0 : Int), (0 : Int)), [], [], [], [], []), ((0 : Int), (0 : Int)), false, (0 : Int), []), r9.2.2))) (aZ (cR r9.1) fun r10 => ifb (!r10.1) (k (((((0 : Int), (0 : Int)), [], [], [], [], []), ((0 : Int), (0 : Int)), false, (0 : Int), []), (9 : Int))) (aZ (jJ (((z8.1, z8.2.1), z8.2.2), r9.1) a1 a2) fun r11 => aZ (ng ((z8.1, z8.2.1), z8.2.2) r11) fun r12 => aZ (HN ((z8.1, z8.2.1), z8.2.2) r12 ([a1])) fun r13 => aZ (bZ r13) fun r14 => ifb (ine r14 (0 : Int)) (ifb (ine r14 (0 : Int)) (k (((((0 : Int), (0 : Int)), [], [], [], [], []), ((0 : Int), (0 : Int)), false, (0 : Int), []), r14)) (aZ (fI (((z8.1, z8.2.1), z8.2.2), r9.1) a1) fun r15 => none)) (bt (fun (v23 : Int) kk25 => oI (0 : Int) v23 (fun u24 => kk25 u24) (fun _ => aZ (dc r13) fun r17 => ifb (ine r17.2.2 (0 : Int)) (ifb (ine r17.2.2 (0 : Int)) (k (((((0 : Int), (0 : Int)), [], [], [], [], []), ((0 : Int), (0 : Int)), false, (0 : Int), []), r17.2.2)) (aZ (fI (((z8.1, z8.2.1), z8.2.2), r9.1) a1) fun r18 => none)) (aZ (cR r17.1) fun r19 => ifb (!r19.1) (k (((((0 : Int), (0 : Int)), [], [], [], [], []), ((0 : Int), (0 : Int)), false, (0 : Int), []), (9 : Int))) (aZ (fI (((z8.1, z8.2.1), z8.2.2), r9.1) a1) fun r20 => aZ (jJ (r13, r17.1) a1 a2) fun r21 => ifb a2 (aZ (f7 (((z8.1, z8.2.1), z8.2.2), r9.1) a1) fun r22 => k ((r13, a1, a2, r22, r21), (0 : Int))) (k ((r13, a1, a2, r20, r21), (0 : Int))))))) (0 : Int)))))) ((0 : Int), a0.1.1, a0.1.2, a0.2.1, a0.2.2.1, a0.2.2.2.1, a0.2.2.2.2.1, a0.2.2.2.2.2))
def rn (a0 : Val ba) (a1 : Val aY) (a2 : Bool) : Option ((Val (.pair fK tI))) := xu a0 a1 a2 some
def xe (k : Bool → Option ρ) : Option ρ :=
  aZ ut fun r1 => aZ (gk r1 ((2 : Int), (10 : Int))) fun r2 => aZ (gk r1 ((1 : Int), (30 : Int))) fun r3 => aZ (ni r1 ((1 : Int), (10 : Int)) ((2 : Int), (10 : Int))) fun r4 => aZ (Fc r1 (10 : Int) ([(1 : Int), (2 : Int)])) fun r5 => aZ (AG r1 ((2 : Int), (0 : Int)) ((990 : Int), (1010 : Int))) fun r6 => aZ (rn r1 ((2 : Int), (10 : Int)) true) fun r7 => ifb (ine r2.2 (0 : Int)) (k false) (ifb (ine r3.2 (0 : Int)) (k false) (ifb (ine r4.2 (0 : Int)) (k false) (ifb (ine r5.2 (0 : Int)) (k false) (ifb (ine r6.2 (0 : Int)) (k false) (ifb (ine r7.2 (0 : Int)) (k false) (ifb (!((ff r2.1.1 (984 : Int)) && ((ff r2.1.2 (1011 : Int)) && true))) (k false) (ifb (!((ff r3.1.1 (964 : Int)) && ((ff r3.1.2 (1005 : Int)) && true))) (k false) (ifb (!((ff r4.1.1 (-6 : Int)) && ((ff r4.1.2 (11 : Int)) && true))) (k false) (ifb (!((ff r5.1.1 (1979 : Int)) && ((ff r5.1.2 (2018 : Int)) && true))) (k false) (ifb (ine r6.1 (3 : Int)) (k false) (ifb (ine r7.1.2.2.2.1 (1011 : Int)) (k false) (aZ (uw r1 ((2 : Int), (10 : Int)) ((8 : Int), (10 : Int), [(1 : Int)], [(2 : Int)], (0 : Int), (0 : Int), (0 : Int), (0 : Int))) fun r8 => aZ (nh r1 ((2 : Int), (10 : Int)) ((900 : Int), (1100 : Int)) ((8 : Int), (10 : Int), [(1 : Int)], [(2 : Int)], (0 : Int), (0 : Int), (0 : Int), (0 : Int))) fun r9 => aZ (vp r1 r7.1) fun r10 => aZ (AH r1) fun r11 => ifb (ieq r8.2 (0 : Int)) (ifb (ieq r9.2 (0 : Int)) (ifb (ieq r10.2 (0 : Int)) (ifb (ieq r11.2 (5 : Int)) (ifb (ieq r8.1 (10 : Int)) (ifb r9.1 (ifb r10.1 (aZ (jI r7.1) fun r12 => k (ieq r12 (0 : Int))) (k false)) (k false)) (k false)) (k false)) (k false)) (k false)) (k false)))))))))))))
def gB : Option (Bool) := xe some
def ol (c0 : (Val ae)) (c1 : Int) (v0 : Int) (kn : Int → Option ρ) (k0 : Int → Option ρ) (k1 : Unit → Option ρ) : Option ρ :=
  ifb (ilt v0 c1) (dI c0 v0 fun e2 => aZ (jK e2) fun r3 => ifb (!r3) (k0 v0) (ck (v0 + (1 : Int)) fun n4 => kn n4)) (k1 ())
def Hl (a0 : Val ba) (a1 : Int) (a2 : (Val ae)) (k : Int → Option ρ) : Option ρ :=
  aZ (bZ a0) fun r1 => ifb (ine r1 (0 : Int)) (k r1) (bt (fun (v11 : Int) kk13 => ol a2 (bE a2) v11 (fun u12 => kk13 u12) (fun z5 => ifb (ige z5 (0 : Int)) (k (1 : Int)) (aZ (df a0) fun r6 => ED (k := tI) (v := bj) a1 r6 (fun y7 => k (0 : Int)) (k (5 : Int)))) (fun _ => aZ (df a0) fun r9 => ED (k := tI) (v := bj) a1 r9 (fun y10 => k (0 : Int)) (k (5 : Int)))) (0 : Int))
def AP (a0 : Val ba) (a1 : Int) (a2 : (Val ae)) : Option (Int) := Hl a0 a1 a2 some
def Nr (a0 : Val ba) (a1 : Int) (a2 : Int) (a3 : Int) (k : Val aY → Option ρ) : Option ρ :=
  aZ (AP a0 a1 ([a2, a3])) fun r1 => ifb (ine r1 (0 : Int)) (k ((0 : Int), r1)) (aZ (df a0) fun r2 => ED (k := tI) (v := bj) a1 r2 (fun y3 => ifb (igt a2 a3) (k ((0 : Int), (3 : Int))) (ifb (ilt a2 y3.2.1) (k ((0 : Int), (3 : Int))) (aZ (ot a0 y3 a2 a3) fun r4 => k (r4, (0 : Int))))) (ifb (igt a2 a3) (k ((0 : Int), (3 : Int))) (ifb (ilt a2 (0 : Int)) (k ((0 : Int), (3 : Int))) (aZ (ot a0 ((0 : Int), (0 : Int), (0 : Int), ((0 : Int), (0 : Int)), ((0 : Int), (0 : Int)), (0 : Int)) a2 a3) fun r5 => k (r5, (0 : Int))))))
def Fe (a0 : Val ba) (a1 : Int) (a2 : Int) (a3 : Int) : Option (Val aY) := Nr a0 a1 a2 a3 some
def mM (a0 : Val ba) (a1 : Int) (a2 : Int) (a3 : Int) (k : Bool → Option ρ) : Option ρ :=
  aZ (E8 a0) fun r1 => ifb (!r1) (aZ gB fun r2 => k r2) (ck (a2 + (Int.tmod (IntKind.wrap .i64 a3) (400 : Int))) fun n3 => aZ (gk a0 (a1, a2)) fun r4 => aZ (gk a0 (a1, n3)) fun r5 => aZ (Fe a0 a1 a2 n3) fun r6 => ifb (ine r4.2 (0 : Int)) (aZ gB fun r7 => k r7) (ifb (ine r5.2 (0 : Int)) (aZ gB fun r8 => k r8) (ifb (ine r6.2 (0 : Int)) (aZ gB fun r9 => k r9) (aZ (ni a0 (a1, a2) (a1, n3)) fun r10 => ifb (ieq r10.2 (0 : Int)) (ifb (ilt r10.1.1 (0 : Int)) (k false) (ifb (igt r10.1.2 r6.1) (k false) (aZ gB fun r11 => ifb r11 (ifb (ile r5.1.1 r4.1.1) (ifb (ile r5.1.2 r4.1.2) (ck (r4.1.1 - r6.1) fun n12 => ifb (ige r5.1.1 n12) (ck (r4.1.2 - r6.1) fun n13 => k (ige r5.1.2 n13)) (k false)) (k false)) (k false)) (k false)))) (aZ gB fun r14 => ifb r14 (ifb (ile r5.1.1 r4.1.1) (ifb (ile r5.1.2 r4.1.2) (ck (r4.1.1 - r6.1) fun n15 => ifb (ige r5.1.1 n15) (ck (r4.1.2 - r6.1) fun n16 => k (ige r5.1.2 n16)) (k false)) (k false)) (k false)) (k false))))))
def nc (a0 : Val ba) (a1 : Int) (a2 : Int) (a3 : Int) : Option (Bool) := mM a0 a1 a2 a3 some
end Go.Proofs.ZzM
end
