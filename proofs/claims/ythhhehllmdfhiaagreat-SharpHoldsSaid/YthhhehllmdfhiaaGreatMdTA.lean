/- lemmas -/
import Derived.Test.YthhhehllmdfhiaaGreatAmE
set_option linter.all false
set_option linter.unusedSectionVars false
set_option linter.unusedVariables false
set_option linter.unusedSimpArgs false
noncomputable section
variable {ρ : Type}
set_option maxRecDepth 100000
namespace Go.Proofs.ZzM
open Go Go.Am
abbrev tI : Ty := .int .i64
abbrev bc : Ty := (.pair tI tI)
abbrev cw : Ty := (.pair tI bc)
abbrev ci : Ty := (.pair bc bc)
abbrev jy : Ty := (.pair bc tI)
abbrev dG : Ty := (.pair tI jy)
abbrev XB : Ty := (.pair ci tI)
abbrev bq : Ty := (.pair tI (.slice cw))
abbrev eX : Ty := (.pair bc (.pair cw cw))
abbrev yY : Ty := (.pair (.slice cw) (.slice bc))
abbrev br : Ty := (.pair tI (.pair tI (.pair tI (.pair bc jy))))
abbrev bp : Ty := (.pair tI (.pair tI (.pair (.slice tI) (.pair (.slice tI) (.pair tI cw)))))
abbrev bg : Ty := (.pair bc (.pair (.slice br) (.pair (.slice bc) (.pair (.slice dG) (.pair (.slice bp) (.slice bc))))))
abbrev fW : Ty := (.pair bg (.pair bc (.pair .bool (.pair tI (.slice tI)))))
abbrev abZ : Ty := (.pair bg (.pair (.slice bc) (.pair bq (.slice bc))))
abbrev tyroom : Ty := (.pair bg bq)
abbrev aa : Ty := (.slice bc)
abbrev ab : Ty := (.slice bp)
abbrev ac : Ty := (.slice br)
abbrev ae : Ty := (.slice tI)
abbrev af : Ty := (.slice dG)
abbrev ag : Ty := (.pair tI (.pair tI (.pair ac (.pair aa (.pair af (.pair ab (.pair aa (.pair tI (.pair tI (.pair ac (.pair aa (.pair af (.pair ab (.pair aa (.pair tI (.pair tI (.pair ac (.pair aa (.pair af (.pair ab (.pair aa (.pair (.map tI .bool) (.pair (.map tI .bool) ac)))))))))))))))))))))))
abbrev ah : Ty := (.slice cw)
abbrev ai : Ty := (.pair tI (.pair tI (.pair ac (.pair aa (.pair af (.pair ab aa))))))
abbrev aj : Ty := (.map tI .bool)
abbrev ak : Ty := (.pair ae (.pair tI (.pair tI (.pair tI (.pair ac (.pair aa (.pair af (.pair ab (.pair aa (.pair tI (.pair tI (.pair tI (.pair tI (.pair tI (.pair tI (.pair ae (.pair ae (.pair tI (.pair tI (.pair tI (.pair tI (.pair aa (.pair tI (.pair tI (.pair ac (.pair aa (.pair af (.pair ab (.pair aa (.pair tI (.pair ah (.pair tI (.pair tI (.pair tI (.pair tI (.pair tI (.pair tI (.pair tI (.pair tI (.pair (.slice ae) (.pair (.slice ae) (.slice ae))))))))))))))))))))))))))))))))))))))))))
abbrev am : Ty := (.slice ae)
abbrev ao : Ty := (.map tI br)
abbrev aq : Ty := (.pair tI (.pair tI (.pair tI (.pair ac (.pair aa (.pair af (.pair ab (.pair aa (.pair tI (.pair tI (.pair tI (.pair tI (.pair tI (.pair tI (.pair ae (.pair ae (.pair tI (.pair tI (.pair tI (.pair tI aa))))))))))))))))))))
abbrev ar : Ty := (.pair tI (.pair tI (.pair tI (.pair tI (.pair tI cw)))))
abbrev au : Ty := (.ptr tyroom)
abbrev aw : Ty := (.slice .bool)
abbrev ax : Ty := (.pair tI ae)
abbrev ay : Ty := (.pair tI (.pair tI (.pair ac (.pair aa (.pair af (.pair ab (.pair aa ai)))))))
abbrev az : Ty := (.pair tI ai)
abbrev aA : Ty := (.pair ae tI)
abbrev aB : Ty := (.pair tI (.pair tI aa))
abbrev aC : Ty := (.ptr abZ)
abbrev aD : Ty := (.pair tI (.pair tI ax))
abbrev aE : Ty := (.pair .bool tI)
abbrev aF : Ty := (.pair tI (.pair tI (.pair tI (.pair ac (.pair aa (.pair af (.pair ab (.pair aa (.pair tI cw)))))))))
abbrev aG : Ty := (.pair tI bq)
abbrev aH : Ty := (.pair bg bp)
abbrev aI : Ty := (.pair tI (.pair tI (.pair tI (.pair ac (.pair aa (.pair af (.pair ab (.pair aa ar))))))))
abbrev aJ : Ty := (.pair bg bc)
abbrev aK : Ty := (.pair aw ae)
abbrev aL : Ty := (.pair ae (.pair aw (.pair ae ae)))
abbrev aM : Ty := (.pair bq bc)
abbrev aO : Ty := (.slice am)
abbrev aP : Ty := (.pair bg tI)
abbrev aQ : Ty := (.pair au bc)
abbrev aR : Ty := (.ptr bc)
abbrev aS : Ty := (.pair bq ae)
abbrev aT : Ty := (.pair tI aa)
abbrev aU : Ty := (.pair bc bp)
abbrev aV : Ty := (.pair bg (.pair bc .bool))
abbrev aW : Ty := (.pair aa bc)
abbrev aX : Ty := (.pair (.int .u64) (.int .u64))
abbrev aY : Ty := (.pair bg (.pair ao tI))
end Go.Proofs.ZzM
end

noncomputable section
variable {ρ : Type}
set_option maxRecDepth 100000
namespace Go.Proofs.ZzM
open Go Go.Am
def kW (c0 : (Val ac)) (c1 : Int) (v0 : Int) (v1 : (Val ao)) (kn : Int → (Val ao) → Option ρ) (k0 : (Val ao) → Option ρ) : Option ρ :=
  ifb (ilt v0 c1) (dn c0 v0 fun e1 => ck (v0 + (1 : Int)) fun n2 => kn n2 (F2 (k := tI) (v := br) e1.1 e1 v1)) (k0 v1)
def yw (a0 : Val bg) (k : (Val ao) → Option ρ) : Option ρ :=
  bw (fun (v4 : (Val (.pair tI ao))) kk7 => kW a0.2.1 (bK a0.2.1) v4.1 v4.2 (fun u5 u6 => kk7 (u5, u6)) (fun z3 => k z3)) ((0 : Int), [])
def fV (a0 : Val bg) : Option ((Val ao)) := yw a0 some
def C7 (a0 : Val bc) (a1 : Int) (a2 : Int) (k : Bool → Option ρ) : Option ρ :=
  ifb (ile a1 a0.1) (ifb (ile a0.1 a0.2) (k (ile a0.2 a2)) (k false)) (k false)
def fG (a0 : Val bc) (a1 : Int) (a2 : Int) : Option (Bool) := C7 a0 a1 a2 some
def C0 (a0 : Int) (a1 : Int) (a2 : Int) (k : Bool → Option ρ) : Option ρ :=
  ifb (ile a1 a0) (k (ile a0 a2)) (k false)
def cE (a0 : Int) (a1 : Int) (a2 : Int) : Option (Bool) := C0 a0 a1 a2 some
def Iz (a0 : Int) (k : Bool → Option ρ) : Option ρ :=
  bf (cE a0 (0 : Int) (20000 : Int)) fun r1 => k r1
def lO (a0 : Int) : Option (Bool) := Iz a0 some
def Ob (a0 : Int) (k : Int → Option ρ) : Option ρ :=
  ifb (ilt a0 (0 : Int)) (k (IntKind.wrap .u64 (0 - (IntKind.wrap .u64 a0)))) (k (IntKind.wrap .u64 a0))
def oR (a0 : Int) : Option (Int) := Ob a0 some
def vQ (v0 : Int) (v1 : Int) (kn : Int → Int → Option ρ) (k0 : Int → Option ρ) : Option ρ :=
  ifb (ine v1 (0 : Int)) (ifb (fo v1 0) (none) (kn v1 (Int.tmod v0 v1))) (k0 v0)
def TL (a0 : Int) (a1 : Int) (k : Int → Option ρ) : Option ρ :=
  bw (fun (v2 : (Val aX)) kk5 => vQ v2.1 v2.2 (fun u3 u4 => kk5 (u3, u4)) (fun z1 => k z1)) (a0, a1)
def I9 (a0 : Int) (a1 : Int) : Option (Int) := TL a0 a1 some
def Id (a0 : Val bc) (k : Bool → Option ρ) : Option ρ :=
  ifb (ige a0.2 (1 : Int)) (ifb (ile a0.2 (2147483647 : Int)) (bf (oR a0.1) fun r1 => ifb (ile r1 (2147483647 : Int)) (bf (oR a0.1) fun r2 => bf (oR a0.2) fun r3 => bf (I9 r2 r3) fun r4 => k (ieq r4 (1 : Int))) (k false)) (k false)) (k false)
def qB (a0 : Val bc) : Option (Bool) := Id a0 some
def yz (a0 : Val br) (k : Bool → Option ρ) : Option ρ :=
  bf (qB a0.2.2.2.2.1) fun r1 => ifb r1 (bf (cE a0.2.2.2.2.1.1 (-1000 : Int) (1000 : Int)) fun r2 => ifb r2 (bf (cE a0.1 (1 : Int) (1099511627776 : Int)) fun r3 => ifb r3 (bf (lO a0.2.1) fun r4 => ifb r4 (bf (cE a0.2.2.1 (1 : Int) (1125899906842624 : Int)) fun r5 => ifb r5 (bf (fG a0.2.2.2.1 (-1073741824 : Int) (1073741824 : Int)) fun r6 => ifb r6 (ifb (ile a0.2.2.2.2.1.2 (100 : Int)) (bf (cE a0.2.2.2.2.2 (0 : Int) (1048576 : Int)) fun r7 => k r7) (k false)) (k false)) (k false)) (k false)) (k false)) (bf (cE a0.1 (1 : Int) (1099511627776 : Int)) fun r8 => ifb r8 (bf (lO a0.2.1) fun r9 => ifb r9 (bf (cE a0.2.2.1 (1 : Int) (1125899906842624 : Int)) fun r10 => ifb r10 (bf (fG a0.2.2.2.1 (-1073741824 : Int) (1073741824 : Int)) fun r11 => ifb r11 (k false) (k false)) (k false)) (k false)) (k false))) (bf (cE a0.1 (1 : Int) (1099511627776 : Int)) fun r12 => ifb r12 (bf (lO a0.2.1) fun r13 => ifb r13 (bf (cE a0.2.2.1 (1 : Int) (1125899906842624 : Int)) fun r14 => ifb r14 (bf (fG a0.2.2.2.1 (-1073741824 : Int) (1073741824 : Int)) fun r15 => ifb r15 (k false) (k false)) (k false)) (k false)) (k false))
def sh (a0 : Val br) : Option (Bool) := yz a0 some
def hX (c0 : (Val ac)) (c1 : Int) (c4 : (Val ac)) (v0 : Int) (kn : Int → Option ρ) (k0 : Int → Option ρ) (k1 : Unit → Option ρ) : Option ρ :=
  ifb (ilt v0 c1) (dn c0 v0 fun e1 => bf (sh e1) fun r2 => ifb (!r2) (k0 (1 : Int)) (ifb (igt v0 (0 : Int)) (ck (v0 - (1 : Int)) fun n3 => dn c4 n3 fun e4 => ifb (ile e1.1 e4.1) (k0 (6 : Int)) (ck (v0 + (1 : Int)) fun n5 => kn n5)) (ck (v0 + (1 : Int)) fun n6 => kn n6))) (k1 ())
def nw (a0 : Val bg) (k : Int → Option ρ) : Option ρ :=
  bw (fun (v9 : Int) kk11 => hX a0.2.1 (bK a0.2.1) a0.2.1 v9 (fun u10 => kk11 u10) (fun z7 => k z7) (fun _ => k (0 : Int))) (0 : Int)
def fj (a0 : Val bg) : Option (Int) := nw a0 some
def f9 (c0 : (Val ae)) (c1 : Int) (c2 : Int) (v0 : Int) (kn : Int → Option ρ) (k0 : Int → Option ρ) (k1 : Unit → Option ρ) : Option ρ :=
  ifb (ilt v0 c2) (dn c0 v0 fun e1 => ifb (ieq c1 e1) (k0 v0) (ck (v0 + (1 : Int)) fun n2 => kn n2)) (k1 ())
def km (a0 : (Val ae)) (a1 : Int) (k : Int → Option ρ) : Option ρ :=
  bw (fun (v5 : Int) kk7 => f9 a0 a1 (bK a0) v5 (fun u6 => kk7 u6) (fun z3 => k z3) (fun _ => k (-1 : Int))) (0 : Int)
def iG (a0 : (Val ae)) (a1 : Int) : Option (Int) := km a0 a1 some
def iO (a0 : (Val ae)) (a1 : Int) (k : Bool → Option ρ) : Option ρ :=
  bf (iG a0 a1) fun r1 => k (ige r1 (0 : Int))
def dj (a0 : (Val ae)) (a1 : Int) : Option (Bool) := iO a0 a1 some
def rQ (c0 : (Val ab)) (c1 : Int) (c9 : Int) (v0 : Int) (v1 : (Val ae)) (kn : Int → (Val ae) → Option ρ) (k0 : (Val ae) → Option ρ) : Option ρ :=
  ifb (ilt v0 c1) (dn c0 v0 fun e1 => bf (dj e1.2.2.1 c9) fun r2 => bf (dj e1.2.2.2.1 c9) fun r3 => ifb (!(r2 == r3)) (ca (bZ ((List.length v1) + (List.length ([e1.2.1])))) (ck (v0 + (1 : Int)) fun n4 => kn n4 (v1 ++ ([e1.2.1])))) (ck (v0 + (1 : Int)) fun n5 => kn n5 v1)) (k0 v1)
def rP (c0 : (Val aa)) (c1 : Int) (c2 : Int) (v0 : Int) (v1 : (Val ae)) (kn : Int → (Val ae) → Option ρ) (k0 : (Val ae) → Option ρ) : Option ρ :=
  ifb (ilt v0 c1) (dn c0 v0 fun e7 => ifb (ieq e7.1 c2) (ca (bZ ((List.length v1) + (List.length ([e7.2])))) (ck (v0 + (1 : Int)) fun n8 => kn n8 (v1 ++ ([e7.2])))) (ck (v0 + (1 : Int)) fun n9 => kn n9 v1)) (k0 v1)
def OK (a0 : Val bg) (a1 : Val br) (k : (Val ae) → Option ρ) : Option ρ :=
  bw (fun (v15 : (Val ax)) kk18 => rQ a0.2.2.2.2.1 (bK a0.2.2.2.2.1) a1.1 v15.1 v15.2 (fun u16 u17 => kk18 (u16, u17)) (fun z6 => bw (fun (v11 : (Val ax)) kk14 => rP a0.2.2.2.2.2 (bK a0.2.2.2.2.2) a1.1 v11.1 v11.2 (fun u12 u13 => kk14 (u12, u13)) (fun z10 => ca (bZ (List.length z10)) (ca (bZ (List.length (za z10))) (k (wj (za z10)))))) ((0 : Int), z6))) ((0 : Int), [a1.2.1])
def mC (a0 : Val bg) (a1 : Val br) : Option ((Val ae)) := OK a0 a1 some
def oI (c3 : (Val ae)) (c4 : Int) (c12 : Int) (v0 : Int) (v1 : (Val aa)) (kn : Int → (Val aa) → Option ρ) (k0 : (Val aa) → Option ρ) : Option ρ :=
  ifb (ilt v0 c4) (dn c3 v0 fun e3 => ca (bZ ((List.length v1) + (List.length ([(c12, e3)])))) (ck (v0 + (1 : Int)) fun n4 => kn n4 (v1 ++ ([(c12, e3)])))) (k0 v1)
def oJ (c0 : (Val ac)) (c1 : Int) (c2 : Int) (c3 : Int) (c4 : (Val ac)) (c5 : (Val aa)) (c6 : (Val af)) (c7 : (Val ab)) (c8 : (Val aa)) (v0 : Int) (v1 : (Val aa)) (kn : Int → (Val aa) → Option ρ) (k0 : (Val aa) → Option ρ) : Option ρ :=
  ifb (ilt v0 c1) (dn c0 v0 fun e1 => bf (mC ((c2, c3), c4, c5, c6, c7, c8) e1) fun r2 => bw (fun (v7 : (Val aT)) kk10 => oI r2 (bK r2) e1.1 v7.1 v7.2 (fun u8 u9 => kk10 (u8, u9)) (fun z5 => ck (v0 + (1 : Int)) fun n6 => kn n6 z5)) ((0 : Int), v1)) (k0 v1)
def Iu (a0 : Val bg) (k : (Val aa) → Option ρ) : Option ρ :=
  bw (fun (v12 : (Val aT)) kk15 => oJ a0.2.1 (bK a0.2.1) a0.1.1 a0.1.2 a0.2.1 a0.2.2.1 a0.2.2.2.1 a0.2.2.2.2.1 a0.2.2.2.2.2 v12.1 v12.2 (fun u13 u14 => kk15 (u13, u14)) (fun z11 => k z11)) ((0 : Int), [])
def nO (a0 : Val bg) : Option ((Val aa)) := Iu a0 some
def pr (a0 : (Val ao)) (a1 : Int) (a2 : Int) (k : Int → Option ρ) : Option ρ :=
  PF (k := tI) (v := br) a1 a0 (fun y1 => ifb (ilt a2 y1.2.1) (k (4 : Int)) (k (0 : Int))) (k (5 : Int))
def gW (a0 : (Val ao)) (a1 : Int) (a2 : Int) : Option (Int) := pr a0 a1 a2 some
def yy (a0 : Int) (a1 : Int) (a2 : (Val (.ptr ao))) (k : Int → Option ρ) : Option ρ :=
  bf (lO a1) fun r1 => ifb (!r1) (k (1 : Int)) (bf (gW a2 a0 a1) fun r2 => k r2)
def dJ (a0 : Int) (a1 : Int) (a2 : (Val (.ptr ao))) : Option (Int) := yy a0 a1 a2 some
def iZ (c0 : (Val af)) (c1 : Int) (c9 : Int) (c10 : Int) (c11 : Int) (v0 : Int) (kn : Int → Option ρ) (k0 : Int → Option ρ) (k1 : Unit → Option ρ) : Option ρ :=
  ifb (ilt v0 c1) (dn c0 v0 fun e5 => ifb (ieq e5.1 c9) (ifb (ile e5.2.1.1 c11) (ifb (ile c10 e5.2.1.2) (k0 v0) (ck (v0 + (1 : Int)) fun n6 => kn n6)) (ck (v0 + (1 : Int)) fun n7 => kn n7)) (ck (v0 + (1 : Int)) fun n8 => kn n8)) (k1 ())
def fF (c0 : (Val aa)) (c1 : Int) (c9 : Int) (c10 : Int) (c11 : Int) (v0 : Int) (kn : Int → Option ρ) (k0 : Int → Option ρ) (k1 : Unit → Option ρ) : Option ρ :=
  ifb (ilt v0 c1) (dn c0 v0 fun e10 => ifb (ieq e10.1 c9) (bf (cE e10.2 c10 c11) fun r11 => ifb r11 (k0 v0) (ck (v0 + (1 : Int)) fun n12 => kn n12)) (ck (v0 + (1 : Int)) fun n13 => kn n13)) (k1 ())
def rR (a0 : Val bg) (a1 : (Val ao)) (a2 : Int) (k : Int → Option ρ) : Option ρ :=
  dn a0.2.2.2.1 a2 fun e1 => bf (fG e1.2.1 (0 : Int) (20000 : Int)) fun r2 => ifb (!r2) (k (1 : Int)) (bf (cE e1.2.2 (0 : Int) (1048576 : Int)) fun r3 => ifb (!r3) (k (1 : Int)) (bf (gW a1 e1.1 e1.2.1.1) fun r4 => ifb (ine r4 (0 : Int)) (k r4) (ca ((ile (0 : Int) a2) && (ile a2 (dz a0.2.2.2.1))) (bw (fun (v25 : Int) kk27 => iZ (List.take (Int.toNat a2) a0.2.2.2.1) (bK (List.take (Int.toNat a2) a0.2.2.2.1)) e1.1 e1.2.1.1 e1.2.1.2 v25 (fun u26 => kk27 u26) (fun z9 => ifb (ige z9 (0 : Int)) (k (9 : Int)) (bw (fun (v16 : Int) kk18 => fF a0.2.2.1 (bK a0.2.2.1) e1.1 e1.2.1.1 e1.2.1.2 v16 (fun u17 => kk18 u17) (fun z14 => ifb (ige z14 (0 : Int)) (k (9 : Int)) (k (0 : Int))) (fun _ => k (0 : Int))) (0 : Int))) (fun _ => bw (fun (v22 : Int) kk24 => fF a0.2.2.1 (bK a0.2.2.1) e1.1 e1.2.1.1 e1.2.1.2 v22 (fun u23 => kk24 u23) (fun z20 => ifb (ige z20 (0 : Int)) (k (9 : Int)) (k (0 : Int))) (fun _ => k (0 : Int))) (0 : Int))) (0 : Int)))))
def fL (a0 : Val bg) (a1 : (Val ao)) (a2 : Int) : Option (Int) := rR a0 a1 a2 some
def rO (c0 : Int) (c1 : (Val ae)) (c2 : (Val ae)) (v0 : Int) (kn : Int → Option ρ) (k0 : Int → Option ρ) (k1 : Unit → Option ρ) : Option ρ :=
  ifb (ilt v0 c0) (ca ((ile (0 : Int) v0) && (ilt v0 (dz c2))) (gw c2 (Int.toNat v0) fun e1 => bf (dj c1 e1) fun r2 => ifb r2 (k0 v0) (ck (v0 + (1 : Int)) fun n3 => kn n3))) (k1 ())
def je (c0 : (Val ae)) (v0 : Int) (v1 : Int) (v2 : (Val ae)) (kn : Int → Int → (Val ae) → Option ρ) (k0 : (Val ax) → Option ρ) : Option ρ :=
  ifb (ilt v1 (bK v2)) (ca ((ile (0 : Int) v1) && (ilt v1 (dz v2))) (gw v2 (Int.toNat v1) fun e6 => bf (dj c0 e6) fun r7 => ifb (!r7) (ca ((ile (0 : Int) v0) && (ilt v0 (dz v2))) (gw v2 (Int.toNat v0) fun e8 => ck (v0 + (1 : Int)) fun n9 => ck (v1 + (1 : Int)) fun n10 => kn n9 n10 (List.set v2 (Int.toNat v0) e6))) (ck (v1 + (1 : Int)) fun n11 => kn v0 n11 v2))) (k0 (v0, v2))
def OB (a0 : (Val ae)) (a1 : (Val ae)) (k : (Val ae) → Option ρ) : Option ρ :=
  ca (bZ (List.length a0)) (bw (fun (v19 : Int) kk21 => rO (bK a0) a1 a0 v19 (fun u20 => kk21 u20) (fun z4 => ifb (ieq z4 (-1 : Int)) (k a0) (ck (z4 + (1 : Int)) fun n5 => bw (fun (v13 : (Val (.pair tI ax))) kk17 => je a1 v13.1 v13.2.1 v13.2.2 (fun u14 u15 u16 => kk17 (u14, u15, u16)) (fun z12 => ca ((ile (0 : Int) z12.1) && (ile z12.1 (dz z12.2))) (ca ((ile (0 : Int) z12.1) && (ile z12.1 (dz (List.take (Int.toNat z12.1) z12.2 ++ List.replicate (List.length z12.2 - (Int.toNat z12.1)) (0 : Int) ++ List.drop ((Int.toNat z12.1) + (List.length z12.2 - (Int.toNat z12.1))) z12.2)))) (k (List.take (Int.toNat z12.1) (List.drop 0 (List.take (Int.toNat z12.1) z12.2 ++ List.replicate (List.length z12.2 - (Int.toNat z12.1)) (0 : Int) ++ List.drop ((Int.toNat z12.1) + (List.length z12.2 - (Int.toNat z12.1))) z12.2))))))) (z4, n5, a0))) (fun _ => k a0)) (0 : Int))
def eQ (a0 : (Val ae)) (a1 : (Val ae)) : Option ((Val ae)) := OB a0 a1 some
def dq (c1 : (Val am)) (c2 : Int) (v0 : Int) (v1 : Int) (kn : Int → Int → Option ρ) (k0 : Int → Option ρ) : Option ρ :=
  ifb (ilt v1 c2) (dn c1 v1 fun e1 => ck (v0 + (bK e1)) fun n2 => ifb (ilt n2 (0 : Int)) (none) (ck (v1 + (1 : Int)) fun n3 => kn n2 n3)) (k0 v0)
def bV (c0 : (Val am)) (c1 : Int) (v0 : Int) (v1 : (Val ae)) (kn : Int → (Val ae) → Option ρ) (k0 : (Val ae) → Option ρ) : Option ρ :=
  ifb (ilt v0 c1) (dn c0 v0 fun e6 => ca (bZ ((List.length v1) + (List.length e6))) (ck (v0 + (1 : Int)) fun n7 => kn n7 (v1 ++ e6))) (k0 v1)
def g9 (a0 : (Val am)) (k : (Val ae) → Option ρ) : Option ρ :=
  bw (fun (v18 : Val bc) kk21 => dq a0 (bK a0) v18.1 v18.2 (fun u19 u20 => kk21 (u19, u20)) (fun z4 => ifb (ilt z4 (0 : Int)) (none) (ck (z4 - (0 : Int)) fun n5 => ifb (igt n5 (0 : Int)) (ca ((ilt (0 : Int) n5) && (bZ (Int.toNat n5))) (ca (ile (0 : Int) (dz (List.replicate (Int.toNat n5) (0 : Int)))) (bw (fun (v9 : (Val ax)) kk12 => bV a0 (bK a0) v9.1 v9.2 (fun u10 u11 => kk12 (u10, u11)) (fun z8 => k z8)) ((0 : Int), (List.take 0 (List.replicate (Int.toNat n5) (0 : Int))))))) (bw (fun (v14 : (Val ax)) kk17 => bV a0 (bK a0) v14.1 v14.2 (fun u15 u16 => kk17 (u15, u16)) (fun z13 => k z13)) ((0 : Int), []))))) ((0 : Int), (0 : Int))
def bR (a0 : (Val am)) : Option ((Val ae)) := g9 a0 some
def mu (c0 : (Val ae)) (c1 : (Val ae)) (c2 : Int) (v0 : Int) (kn : Int → Option ρ) (k0 : Bool → Option ρ) (k1 : Unit → Option ρ) : Option ρ :=
  ifb (ilt v0 c2) (dn c1 v0 fun e1 => bf (cE e1 (1 : Int) (1099511627776 : Int)) fun r2 => ifb (!r2) (k0 false) (ifb (igt v0 (0 : Int)) (ck (v0 - (1 : Int)) fun n3 => dn c0 n3 fun e4 => ifb (ile e1 e4) (k0 false) (ck (v0 + (1 : Int)) fun n5 => kn n5)) (ck (v0 + (1 : Int)) fun n6 => kn n6))) (k1 ())
def C6 (a0 : (Val ae)) (k : Bool → Option ρ) : Option ρ :=
  bw (fun (v9 : Int) kk11 => mu a0 a0 (bK a0) v9 (fun u10 => kk11 u10) (fun z7 => k z7) (fun _ => k (ile (bK a0) (6 : Int)))) (0 : Int)
def kL (a0 : (Val ae)) : Option (Bool) := C6 a0 some
def rS (c0 : (Val af)) (c1 : Int) (c9 : Int) (c10 : Int) (v0 : Int) (kn : Int → Option ρ) (k0 : Int → Option ρ) (k1 : Unit → Option ρ) : Option ρ :=
  ifb (ilt v0 c1) (dn c0 v0 fun e1 => ifb (ieq e1.1 c9) (bf (cE c10 e1.2.1.1 e1.2.1.2) fun r2 => ifb r2 (k0 v0) (ck (v0 + (1 : Int)) fun n3 => kn n3)) (ck (v0 + (1 : Int)) fun n4 => kn n4)) (k1 ())
def OM (a0 : Val bg) (a1 : Int) (a2 : Int) (k : (Val (.pair dG .bool)) → Option ρ) : Option ρ :=
  bw (fun (v8 : Int) kk10 => rS a0.2.2.2.1 (bK a0.2.2.2.1) a1 a2 v8 (fun u9 => kk10 u9) (fun z5 => ifb (ilt z5 (0 : Int)) (k (((0 : Int), ((0 : Int), (0 : Int)), (0 : Int)), false)) (dn a0.2.2.2.1 z5 fun e6 => k (e6, true))) (fun _ => k (((0 : Int), ((0 : Int), (0 : Int)), (0 : Int)), false))) (0 : Int)
def wg (a0 : Val bg) (a1 : Int) (a2 : Int) : Option ((Val (.pair dG .bool))) := OM a0 a1 a2 some
def gI (c0 : (Val ab)) (c1 : Int) (c9 : Int) (v0 : Int) (kn : Int → Option ρ) (k0 : Int → Option ρ) (k1 : Unit → Option ρ) : Option ρ :=
  ifb (ilt v0 c1) (dn c0 v0 fun e9 => ifb (ieq e9.1 c9) (k0 v0) (ck (v0 + (1 : Int)) fun n10 => kn n10)) (k1 ())
def gH (c0 : (Val ao)) (c2 : Int) (c5 : (Val ae)) (c6 : Int) (c15 : Int) (v0 : Int) (kn : Int → Option ρ) (k0 : Int → Option ρ) (k1 : Unit → Option ρ) : Option ρ :=
  ifb (ilt v0 c6) (dn c5 v0 fun e14 => bf (gW c0 e14 c15) fun r15 => ifb (ieq r15 c2) (k0 c2) (ck (v0 + (1 : Int)) fun n16 => kn n16)) (k1 ())
def dV (c0 : (Val ao)) (c1 : (Val ae)) (c2 : Int) (c11 : Int) (c18 : (Val ae)) (v0 : Int) (kn : Int → Option ρ) (k0 : Int → Option ρ) (k1 : Unit → Option ρ) : Option ρ :=
  ifb (ilt v0 c2) (ca ((ile (0 : Int) v0) && (ilt v0 (dz c18))) (gw c18 (Int.toNat v0) fun e13 => bw (fun (v20 : Int) kk22 => gH c0 e13 c1 (bK c1) c11 v20 (fun u21 => kk22 u21) (fun z17 => k0 z17) (fun _ => ck (v0 + (1 : Int)) fun n19 => kn n19)) (0 : Int))) (k1 ())
def dU (c0 : (Val ae)) (c1 : Int) (c2 : Int) (c3 : Int) (c4 : (Val ac)) (c5 : (Val aa)) (c6 : (Val af)) (c7 : (Val ab)) (c8 : (Val aa)) (c10 : Int) (v0 : Int) (kn : Int → Option ρ) (k0 : Int → Option ρ) (k1 : Unit → Option ρ) : Option ρ :=
  ifb (ilt v0 c1) (dn c0 v0 fun e25 => bf (wg ((c2, c3), c4, c5, c6, c7, c8) e25 c10) fun r26 => ifb r26.2 (k0 (9 : Int)) (ck (v0 + (1 : Int)) fun n27 => kn n27)) (k1 ())
def lZ (a0 : Val bg) (a1 : (Val ao)) (a2 : Int) (k : Int → Option ρ) : Option ρ :=
  dn a0.2.2.2.2.1 a2 fun e1 => bf (cE e1.1 (1 : Int) (1099511627776 : Int)) fun r2 => ifb (!r2) (k (1 : Int)) (bf (lO e1.2.1) fun r3 => ifb (!r3) (k (1 : Int)) (bf (cE e1.2.2.2.2.1 (-1125899906842624 : Int) (1125899906842624 : Int)) fun r4 => ifb (!r4) (k (1 : Int)) (bf (cE e1.2.2.2.2.2.1 (0 : Int) (1073741824 : Int)) fun r5 => ifb (!r5) (k (1 : Int)) (bf (fG e1.2.2.2.2.2.2 (-10000 : Int) (10000 : Int)) fun r6 => ifb (!r6) (k (1 : Int)) (bf (kL e1.2.2.1) fun r7 => ifb (!r7) (k (1 : Int)) (bf (kL e1.2.2.2.1) fun r8 => ifb (!r8) (k (1 : Int)) (ca ((ile (0 : Int) a2) && (ile a2 (dz a0.2.2.2.2.1))) (bw (fun (v54 : Int) kk56 => gI (List.take (Int.toNat a2) a0.2.2.2.2.1) (bK (List.take (Int.toNat a2) a0.2.2.2.2.1)) e1.1 v54 (fun u55 => kk56 u55) (fun z11 => ifb (ige z11 (0 : Int)) (k (6 : Int)) (bf (bR ([e1.2.2.1, e1.2.2.2.1])) fun r12 => bw (fun (v36 : Int) kk38 => dV a1 r12 (bK ([(5 : Int), (4 : Int)])) e1.2.1 ([(5 : Int), (4 : Int)]) v36 (fun u37 => kk38 u37) (fun z23 => k z23) (fun _ => bw (fun (v33 : Int) kk35 => dU r12 (bK r12) a0.1.1 a0.1.2 a0.2.1 a0.2.2.1 a0.2.2.2.1 a0.2.2.2.2.1 a0.2.2.2.2.2 e1.2.1 v33 (fun u34 => kk35 u34) (fun z28 => k z28) (fun _ => bf (eQ e1.2.2.1 e1.2.2.2.1) fun r30 => bf (eQ e1.2.2.2.1 e1.2.2.1) fun r31 => ifb (igt (bK r30) (1 : Int)) (k (1 : Int)) (ifb (igt (bK r31) (1 : Int)) (k (1 : Int)) (ck ((bK r30) + (bK r31)) fun n32 => ifb (ieq n32 (0 : Int)) (k (1 : Int)) (k (0 : Int)))))) (0 : Int))) (0 : Int))) (fun _ => bf (bR ([e1.2.2.1, e1.2.2.2.1])) fun r40 => bw (fun (v51 : Int) kk53 => dV a1 r40 (bK ([(5 : Int), (4 : Int)])) e1.2.1 ([(5 : Int), (4 : Int)]) v51 (fun u52 => kk53 u52) (fun z41 => k z41) (fun _ => bw (fun (v48 : Int) kk50 => dU r40 (bK r40) a0.1.1 a0.1.2 a0.2.1 a0.2.2.1 a0.2.2.2.1 a0.2.2.2.2.1 a0.2.2.2.2.2 e1.2.1 v48 (fun u49 => kk50 u49) (fun z43 => k z43) (fun _ => bf (eQ e1.2.2.1 e1.2.2.2.1) fun r45 => bf (eQ e1.2.2.2.1 e1.2.2.1) fun r46 => ifb (igt (bK r45) (1 : Int)) (k (1 : Int)) (ifb (igt (bK r46) (1 : Int)) (k (1 : Int)) (ck ((bK r45) + (bK r46)) fun n47 => ifb (ieq n47 (0 : Int)) (k (1 : Int)) (k (0 : Int)))))) (0 : Int))) (0 : Int))) (0 : Int)))))))))
def dK (a0 : Val bg) (a1 : (Val ao)) (a2 : Int) : Option (Int) := lZ a0 a1 a2 some
def lK (b : Val bg) (s : Val ao) : Option (List Int) :=
  bf (G4 (fun u => dJ u.1 u.2 s) (b.2.2.1 : List (Int × Int))) fun l1 => bf (G4 (fun i => fL b s i) (tx (b.2.2.2.1 : List (Val dG)).length)) fun l2 =>
    bf (G4 (fun i => dK b s i) (tx (b.2.2.2.2.1 : List (Val bp)).length)) fun l3 => bf (G4 (fun u => dJ u.1 u.2 s) (b.2.2.2.2.2 : List (Int × Int))) fun l4 => some (l1 ++ (l2 ++ (l3 ++ l4)))
def IG (a0 : Val bg) (k : Int → Option ρ) : Option ρ :=
  bf (fG a0.1 (0 : Int) (1000000 : Int)) fun r1 => ifb (!r1) (k (1 : Int)) (ifb (igt (bK a0.2.1) (12 : Int)) (k (2 : Int)) (ifb (igt (bK a0.2.2.1) (40 : Int)) (k (2 : Int)) (ifb (igt (bK a0.2.2.2.1) (12 : Int)) (k (2 : Int)) (ifb (igt (bK a0.2.2.2.2.1) (40 : Int)) (k (2 : Int)) (ifb (igt (bK a0.2.2.2.2.2) (10 : Int)) (k (2 : Int)) (bf (fj a0) fun r2 => ifb (ine r2 (0 : Int)) (k r2) (bf (fV a0) fun r3 => P8 (lK a0 r3) (fun e4 => k e4) (bf (nO a0) fun r5 => ifb (igt (bK r5) (59 : Int)) (k (2 : Int)) (ck ((2 : Int) * (bK a0.2.1)) fun n6 => ck ((bK r5) - (bK a0.2.1)) fun n7 => ck ((2 : Int) * n7) fun n8 => ck (n6 + n8) fun n9 => ck ((2 : Int) * (bK a0.2.2.2.2.1)) fun n10 => ck (n9 + n10) fun n11 => ifb (igt n11 (300 : Int)) (k (2 : Int)) (k (0 : Int)))))))))))
def b9 (a0 : Val bg) : Option (Int) := IG a0 some
def vV (l : List (Val br)) (m : List (Int × Bool)) : Option (List (Val br)) :=
  ca (bZ l.length) (some (l.filter fun g => (pO (k := tI) (v := .bool) g.1 m).getD false))
def p8 (c0 : (Val ae)) (c1 : Int) (v0 : Int) (v1 : (Val aj)) (kn : Int → (Val aj) → Option ρ) (k0 : (Val aj) → Option ρ) : Option ρ :=
  ifb (ilt v0 c1) (dn c0 v0 fun e9 => ck (v0 + (1 : Int)) fun n10 => kn n10 (F2 (k := tI) (v := .bool) e9 true v1)) (k0 v1)
def vM (c1 : (Val aa)) (c2 : Int) (c5 : (Val ac)) (c8 : (Val ab)) (v0 : Int) (v1 : (Val aj)) (v2 : (Val aj)) (kn : Int → (Val aj) → (Val aj) → Option ρ) (k0 : (Val (.pair aj aj)) → Option ρ) : Option ρ :=
  ifb (ilt v0 c2) (dn c1 v0 fun e1 => ifb (fo e1.1 0) (none) (ifb (fo e1.1 1) (dn c5 e1.2 fun e2 => ck (v0 + (1 : Int)) fun n3 => kn n3 (F2 (k := tI) (v := .bool) e2.1 true v1) v2) (ifb (fo e1.1 2) (dn c5 e1.2 fun e4 => ck (v0 + (1 : Int)) fun n5 => kn n5 (F2 (k := tI) (v := .bool) e4.1 true v1) v2) (ca (fo e1.1 3) (dn c8 e1.2 fun e6 => dn c8 e1.2 fun e7 => bf (bR ([e6.2.2.1, e7.2.2.2.1])) fun r8 => bw (fun (v13 : (Val (.pair tI aj))) kk16 => p8 r8 (bK r8) v13.1 v13.2 (fun u14 u15 => kk16 (u14, u15)) (fun z11 => ck (v0 + (1 : Int)) fun n12 => kn n12 z11 (F2 (k := tI) (v := .bool) e1.2 true v2))) ((0 : Int), v1)))))) (k0 (v1, v2))
def pZ (c1 : (Val aa)) (c2 : Int) (v0 : Int) (v1 : (Val aj)) (kn : Int → (Val aj) → Option ρ) (k0 : (Val aj) → Option ρ) : Option ρ :=
  ifb (ilt v0 c2) (dn c1 v0 fun e18 => ck (v0 + (1 : Int)) fun n19 => kn n19 (F2 (k := tI) (v := .bool) e18.1 true v1)) (k0 v1)
def pY (c0 : (Val aa)) (c1 : Int) (c19 : (Val aj)) (v0 : Int) (v1 : (Val aa)) (kn : Int → (Val aa) → Option ρ) (k0 : (Val aa) → Option ρ) : Option ρ :=
  ifb (ilt v0 c1) (dn c0 v0 fun e21 => PF (k := tI) (v := .bool) e21.1 c19 (fun y22 => ifb y22 (ca (bZ ((List.length v1) + (List.length ([e21])))) (ck (v0 + (1 : Int)) fun n23 => kn n23 (v1 ++ ([e21])))) (ck (v0 + (1 : Int)) fun n24 => kn n24 v1)) (ck (v0 + (1 : Int)) fun n25 => kn n25 v1)) (k0 v1)
def pX (c0 : (Val af)) (c1 : Int) (c19 : (Val aj)) (v0 : Int) (v1 : (Val af)) (kn : Int → (Val af) → Option ρ) (k0 : (Val af) → Option ρ) : Option ρ :=
  ifb (ilt v0 c1) (dn c0 v0 fun e27 => PF (k := tI) (v := .bool) e27.1 c19 (fun y28 => ifb y28 (ca (bZ ((List.length v1) + (List.length ([e27])))) (ck (v0 + (1 : Int)) fun n29 => kn n29 (v1 ++ ([e27])))) (ck (v0 + (1 : Int)) fun n30 => kn n30 v1)) (ck (v0 + (1 : Int)) fun n31 => kn n31 v1)) (k0 v1)
def pW (c0 : (Val ab)) (c1 : Int) (c12 : (Val aj)) (v0 : Int) (v1 : (Val ab)) (kn : Int → (Val ab) → Option ρ) (k0 : (Val ab) → Option ρ) : Option ρ :=
  ifb (ilt v0 c1) (dn c0 v0 fun e33 => PF (k := tI) (v := .bool) v0 c12 (fun y34 => ifb y34 (ca (bZ (List.length e33.2.2.1)) (ca (bZ (List.length e33.2.2.2.1)) (ca (bZ ((List.length v1) + (List.length ([e33])))) (ck (v0 + (1 : Int)) fun n35 => kn n35 (v1 ++ ([e33])))))) (ck (v0 + (1 : Int)) fun n36 => kn n36 v1)) (ck (v0 + (1 : Int)) fun n37 => kn n37 v1)) (k0 v1)
def lv (p : (Val aB)) (v : (Val ag)) (k : Val bg → Option ρ) : Option ρ :=
  bw (fun (v47 : (Val aT)) kk50 => pY v.2.2.2.1 (bK v.2.2.2.1) v.2.2.2.2.2.2.2.2.2.2.2.2.2.2.2.2.2.2.2.2.2.1 v47.1 v47.2 (fun u48 u49 => kk50 (u48, u49)) (fun z26 => bw (fun (v43 : (Val (.pair tI af))) kk46 => pX v.2.2.2.2.1 (bK v.2.2.2.2.1) v.2.2.2.2.2.2.2.2.2.2.2.2.2.2.2.2.2.2.2.2.2.1 v43.1 v43.2 (fun u44 u45 => kk46 (u44, u45)) (fun z32 => bw (fun (v39 : (Val (.pair tI ab))) kk42 => pW v.2.2.2.2.2.1 (bK v.2.2.2.2.2.1) v.2.2.2.2.2.2.2.2.2.2.2.2.2.2.2.2.2.2.2.2.2.2.1 v39.1 v39.2 (fun u40 u41 => kk42 (u40, u41)) (fun z38 => k ((p.1, p.2.1), v.2.2.2.2.2.2.2.2.2.2.2.2.2.2.2.2.2.2.2.2.2.2.2, z26, z32, z38, p.2.2))) ((0 : Int), []))) ((0 : Int), []))) ((0 : Int), [])
def Ad (a0 : Val bg) (a1 : (Val aa)) (a2 : (Val aa)) (kA : (Val aB) → (Val ag) → Option ρ) : Option ρ :=
  bw (fun (v55 : (Val (.pair tI (.pair aj aj)))) kk59 => vM a1 (bK a1) a0.2.1 a0.2.2.2.2.1 v55.1 v55.2.1 v55.2.2 (fun u56 u57 u58 => kk59 (u56, u57, u58)) (fun z17 => bw (fun (v51 : (Val (.pair tI aj))) kk54 => pZ a2 (bK a2) v51.1 v51.2 (fun u52 u53 => kk54 (u52, u53)) (fun z20 => kA (a0.1.1, a0.1.2, a2) (a0.1.1, a0.1.2, a0.2.1, a0.2.2.1, a0.2.2.2.1, a0.2.2.2.2.1, a0.2.2.2.2.2, (0 : Int), (0 : Int), [], [], [], [], [], a0.1.1, a0.1.2, a0.2.1, a0.2.2.1, a0.2.2.2.1, a0.2.2.2.2.1, a0.2.2.2.2.2, z20, z17.2, []))) ((0 : Int), z17.1))) ((0 : Int), [], [])
def Yl (a0 : Val bg) (a1 : (Val aa)) (a2 : (Val aa)) (k : Val bg → Option ρ) : Option ρ :=
  Ad a0 a1 a2 fun p v => bf (vV v.2.2.2.2.2.2.2.2.2.2.2.2.2.2.2.2.1 v.2.2.2.2.2.2.2.2.2.2.2.2.2.2.2.2.2.2.2.2.2.1) fun z => lv p (v.1, v.2.1, v.2.2.1, v.2.2.2.1, v.2.2.2.2.1, v.2.2.2.2.2.1, v.2.2.2.2.2.2.1, v.2.2.2.2.2.2.2.1, v.2.2.2.2.2.2.2.2.1, v.2.2.2.2.2.2.2.2.2.1, v.2.2.2.2.2.2.2.2.2.2.1, v.2.2.2.2.2.2.2.2.2.2.2.1, v.2.2.2.2.2.2.2.2.2.2.2.2.1, v.2.2.2.2.2.2.2.2.2.2.2.2.2.1, v.2.2.2.2.2.2.2.2.2.2.2.2.2.2.1, v.2.2.2.2.2.2.2.2.2.2.2.2.2.2.2.1, v.2.2.2.2.2.2.2.2.2.2.2.2.2.2.2.2.1, v.2.2.2.2.2.2.2.2.2.2.2.2.2.2.2.2.2.1, v.2.2.2.2.2.2.2.2.2.2.2.2.2.2.2.2.2.2.1, v.2.2.2.2.2.2.2.2.2.2.2.2.2.2.2.2.2.2.2.1, v.2.2.2.2.2.2.2.2.2.2.2.2.2.2.2.2.2.2.2.2.1, v.2.2.2.2.2.2.2.2.2.2.2.2.2.2.2.2.2.2.2.2.2.1, v.2.2.2.2.2.2.2.2.2.2.2.2.2.2.2.2.2.2.2.2.2.2.1, z) k
def I8 (a0 : Val bg) (a1 : (Val aa)) (a2 : (Val aa)) : Option (Val bg) := Yl a0 a1 a2 some
end Go.Proofs.ZzM
end

noncomputable section
variable {ρ : Type}
set_option maxRecDepth 100000
namespace Go.Proofs.ZzM
open Go Go.Am
def Cn (a0 : Val bp) (k : Bool → Option ρ) : Option ρ :=
  ifb (ile (bK a0.2.2.1) (10 : Int)) (k (ile (bK a0.2.2.2.1) (10 : Int))) (k false)
def vZ (a0 : Val bp) : Option (Bool) := Cn a0 some
def qT (c5 : (Val ab)) (v0 : Int) (kn : Int → Option ρ) (k0 : Bool → Option ρ) (k1 : Unit → Option ρ) : Option ρ :=
  ifb (ilt v0 (bK c5)) (ifb (ilt v0 (50 : Int)) (dn c5 v0 fun e1 => bf (vZ e1) fun r2 => ifb (!r2) (k0 false) (ck (v0 + (1 : Int)) fun n3 => kn n3)) (k1 ())) (k1 ())
def Nq (a0 : Val bg) (k : Bool → Option ρ) : Option ρ :=
  bw (fun (v6 : Int) kk8 => qT a0.2.2.2.2.1 v6 (fun u7 => kk8 u7) (fun z4 => k z4) (fun _ => ifb (ile (bK a0.2.1) (14 : Int)) (ifb (ile (bK a0.2.2.1) (45 : Int)) (ifb (ile (bK a0.2.2.2.1) (14 : Int)) (ifb (ile (bK a0.2.2.2.2.1) (42 : Int)) (k (ile (bK a0.2.2.2.2.2) (12 : Int))) (k false)) (k false)) (k false)) (k false))) (0 : Int)
def Gd (a0 : Val bg) : Option (Bool) := Nq a0 some
def rN (c0 : Int) (c1 : Int) (c2 : (Val af)) (c3 : Int) (c11 : Int) (v0 : Int) (v1 : Int) (kn : Int → Int → Option ρ) (k0 : Int → Option ρ) : Option ρ :=
  ifb (ilt v1 c3) (dn c2 v1 fun e1 => ck (c1 - (1 : Int)) fun n2 => ck ((SM e1.2.1.2 n2) - (SN e1.2.1.1 c0)) fun n3 => ck (n3 + (1 : Int)) fun n4 => ifb (ieq e1.1 c11) (ifb (igt n4 (0 : Int)) (ck (n4 * e1.2.2) fun n5 => ck (v0 + n5) fun n6 => ck (v1 + (1 : Int)) fun n7 => kn n6 n7) (ck (v1 + (1 : Int)) fun n8 => kn v0 n8)) (ck (v1 + (1 : Int)) fun n9 => kn v0 n9)) (k0 v0)
def rM (c0 : Int) (c1 : Int) (c3 : (Val aa)) (c4 : Int) (c5 : Int) (v0 : Int) (v1 : (Val ae)) (kn : Int → (Val ae) → Option ρ) (k0 : (Val ae) → Option ρ) : Option ρ :=
  ifb (ilt v0 c4) (dn c3 v0 fun e11 => ifb (ieq e11.1 c5) (ck (c1 - (1 : Int)) fun n12 => bf (cE e11.2 c0 n12) fun r13 => ifb r13 (ca (bZ ((List.length v1) + (List.length ([e11.2])))) (ck (v0 + (1 : Int)) fun n14 => kn n14 (v1 ++ ([e11.2])))) (ck (v0 + (1 : Int)) fun n15 => kn n15 v1)) (ck (v0 + (1 : Int)) fun n16 => kn n16 v1)) (k0 v1)
def Oy (a0 : Val bg) (a1 : Val br) (a2 : Int) (a3 : Int) (k : Int → Option ρ) : Option ρ :=
  bw (fun (v24 : Val bc) kk27 => rN a2 a3 a0.2.2.2.1 (bK a0.2.2.2.1) a1.1 v24.1 v24.2 (fun u25 u26 => kk27 (u25, u26)) (fun z10 => bw (fun (v20 : (Val ax)) kk23 => rM a2 a3 a0.2.2.1 (bK a0.2.2.1) a1.1 v20.1 v20.2 (fun u21 u22 => kk23 (u21, u22)) (fun z17 => ca (bZ (List.length z17)) (ca (bZ (List.length (za z17))) (ck ((bK (wj (za z17))) * a1.2.2.2.2.2) fun n18 => ck (z10 + n18) fun n19 => k n19)))) ((0 : Int), []))) ((0 : Int), (0 : Int))
def we (a0 : Val bg) (a1 : Val br) (a2 : Int) (a3 : Int) : Option (Int) := Oy a0 a1 a2 a3 some
def dk (c0 : (Val aa)) (c1 : Int) (c2 : Int) (c3 : Int) (v0 : Int) (kn : Int → Option ρ) (k0 : Int → Option ρ) (k1 : Unit → Option ρ) : Option ρ :=
  ifb (ilt v0 c1) (dn c0 v0 fun e1 => ifb ((fo c2 e1.1) && ((fo c3 e1.2) && true)) (k0 v0) (ck (v0 + (1 : Int)) fun n2 => kn n2)) (k1 ())
def fe (a0 : (Val aa)) (a1 : Val bc) (k : Int → Option ρ) : Option ρ :=
  bw (fun (v5 : Int) kk7 => dk a0 (bK a0) a1.1 a1.2 v5 (fun u6 => kk7 u6) (fun z3 => k z3) (fun _ => k (-1 : Int))) (0 : Int)
def cd (a0 : (Val aa)) (a1 : Val bc) : Option (Int) := fe a0 a1 some
def uQ (a0 : (Val aC)) (a1 : (Val ae)) (a2 : Int) (k : Int → Option ρ) : Option ρ :=
  ifb (ieq (bK a1) (0 : Int)) (k (0 : Int)) (dn a1 (0 : Int) fun e1 => bf (cd a0.2.1 (e1, a2)) fun r2 => ck (r2 + (1 : Int)) fun n3 => k n3)
def gD (a0 : (Val aC)) (a1 : (Val ae)) (a2 : Int) : Option (Int) := uQ a0 a1 a2 some
def lY (a0 : (Val ao)) (a1 : (Val ae)) (k : Val bc → Option ρ) : Option ρ :=
  ifb (ieq (bK a1) (0 : Int)) (k ((0 : Int), (1 : Int))) (dn a1 (0 : Int) fun e1 => PF (k := tI) (v := br) e1 a0 (fun y2 => k y2.2.2.2.2.1) (k ((0 : Int), (0 : Int))))
def gU (a0 : (Val ao)) (a1 : (Val ae)) : Option (Val bc) := lY a0 a1 some
def oE (c0 : (Val aa)) (c1 : Int) (v0 : Int) (kn : Int → Option ρ) (k0 : Int → Option ρ) (k1 : Unit → Option ρ) : Option ρ :=
  ifb (ilt v0 c1) (dn c0 v0 fun e1 => bf (qB e1) fun r2 => ifb (!r2) (k0 (1 : Int)) (ck (v0 + (1 : Int)) fun n3 => kn n3)) (k1 ())
def H5 (a0 : (Val aa)) (k : Int → Option ρ) : Option ρ :=
  bw (fun (v6 : Int) kk8 => oE a0 (bK a0) v6 (fun u7 => kk8 u7) (fun z4 => k z4) (fun _ => k (0 : Int))) (0 : Int)
def iW (a0 : (Val aa)) : Option (Int) := H5 a0 some
def yu (a0 : Int) (a1 : Int) (k : Val jy → Option ρ) : Option ρ :=
  bf (oR a0) fun r1 => bf (oR a1) fun r2 => bf (I9 r1 r2) fun r3 => ifb (fo r3 0) (none) (ifb (fo r3 0) (none) (ifb (igt (IntKind.wrap .u64 (Int.tdiv r1 r3)) (2147483647 : Int)) (k (((0 : Int), (0 : Int)), (3 : Int))) (ifb (igt (IntKind.wrap .u64 (Int.tdiv r2 r3)) (2147483647 : Int)) (k (((0 : Int), (0 : Int)), (3 : Int))) (ifb (!((ilt a0 (0 : Int)) == (ilt a1 (0 : Int)))) (ck (0 - (IntKind.wrap .i64 (IntKind.wrap .u64 (Int.tdiv r1 r3)))) fun n4 => k ((n4, (IntKind.wrap .i64 (IntKind.wrap .u64 (Int.tdiv r2 r3)))), (0 : Int))) (k (((IntKind.wrap .i64 (IntKind.wrap .u64 (Int.tdiv r1 r3))), (IntKind.wrap .i64 (IntKind.wrap .u64 (Int.tdiv r2 r3)))), (0 : Int)))))))
def nN (a0 : Int) (a1 : Int) : Option (Val jy) := yu a0 a1 some
def TP (a0 : Val bc) (a1 : Val bc) (k : Val jy → Option ρ) : Option ρ :=
  bf (iW ([a0, a1])) fun r1 => ifb (ine r1 (0 : Int)) (k (((0 : Int), (0 : Int)), r1)) (ck (a0.1 * a1.2) fun n2 => ck (a1.1 * a0.2) fun n3 => ck (n2 - n3) fun n4 => ck (a0.2 * a1.2) fun n5 => bf (nN n4 n5) fun r6 => k (r6.1, r6.2))
def Pa (a0 : Val bc) (a1 : Val bc) : Option (Val jy) := TP a0 a1 some
def rG (a0 : Val bc) (a1 : Val bc) (k : Val bc → Option ρ) : Option ρ :=
  bf (Pa a0 a1) fun r1 => k r1.1
def sg (a0 : Val bc) (a1 : Val bc) : Option (Val bc) := rG a0 a1 some
def TN (a0 : Val bc) (a1 : Val bc) (k : Int → Option ρ) : Option ρ :=
  ck (a0.1 * a1.2) fun n1 => ck (a1.1 * a0.2) fun n2 => ifb ((fo a0.1 a1.1) && ((fo a0.2 a1.2) && true)) (k (0 : Int)) (ifb (ilt n1 n2) (k (-1 : Int)) (ifb (igt n1 n2) (k (1 : Int)) (k (0 : Int))))
def Ja (a0 : Val bc) (a1 : Val bc) : Option (Int) := TN a0 a1 some
def pq (a0 : Val ci) (k : Bool → Option ρ) : Option ρ :=
  bf (iW ([a0.1, a0.2])) fun r1 => ifb (ieq r1 (0 : Int)) (bf (Ja a0.1 a0.2) fun r2 => k (ile r2 (0 : Int))) (k false)
def pB (a0 : Val ci) : Option (Bool) := pq a0 some
def TR (a0 : Val bc) (a1 : Val bc) (k : Val jy → Option ρ) : Option ρ :=
  bf (iW ([a0, a1])) fun r1 => ifb (ine r1 (0 : Int)) (k (((0 : Int), (0 : Int)), r1)) (ck (a0.1 * a1.1) fun n2 => ck (a0.2 * a1.2) fun n3 => bf (nN n2 n3) fun r4 => k (r4.1, r4.2))
def Jc (a0 : Val bc) (a1 : Val bc) : Option (Val jy) := TR a0 a1 some
def If (a0 : Val ci) (a1 : Val bc) (k : Val XB → Option ρ) : Option ρ :=
  bf (pB a0) fun r1 => ifb (!r1) (k ((((0 : Int), (0 : Int)), (0 : Int), (0 : Int)), (1 : Int))) (bf (qB a1) fun r2 => ifb (!r2) (k ((((0 : Int), (0 : Int)), (0 : Int), (0 : Int)), (1 : Int))) (bf (Jc a1 a0.1) fun r3 => ifb (ine r3.2 (0 : Int)) (k ((((0 : Int), (0 : Int)), (0 : Int), (0 : Int)), r3.2)) (bf (Jc a1 a0.2) fun r4 => ifb (ine r4.2 (0 : Int)) (k ((((0 : Int), (0 : Int)), (0 : Int), (0 : Int)), r4.2)) (bf (Ja r3.1 r4.1) fun r5 => ifb (igt r5 (0 : Int)) (k ((r4.1, r3.1), (0 : Int))) (k ((r3.1, r4.1), (0 : Int)))))))
def Jb (a0 : Val ci) (a1 : Val bc) : Option (Val XB) := If a0 a1 some
def rE (a0 : Val bc) (a1 : Val bc) (k : Val ci → Option ρ) : Option ρ :=
  bf (Jb ((a1.1, (1 : Int)), a1.2, (1 : Int)) a0) fun r1 => k r1.1
def mB (a0 : Val bc) (a1 : Val bc) : Option (Val ci) := rE a0 a1 some
def C8 (a0 : Val bg) (a1 : Val bp) (k : Val ci → Option ρ) : Option ρ :=
  bf (fV a0) fun r1 => bf (eQ a1.2.2.1 a1.2.2.2.1) fun r2 => bf (gU r1 r2) fun r3 => bf (eQ a1.2.2.2.1 a1.2.2.1) fun r4 => bf (gU r1 r4) fun r5 => bf (sg r3 r5) fun r6 => bf (mB r6 a1.2.2.2.2.2.2) fun r7 => k r7
def mS (a0 : Val bg) (a1 : Val bp) : Option (Val ci) := C8 a0 a1 some
def IB (a0 : Val bg) (a1 : Val bp) (k : Val bc → Option ρ) : Option ρ :=
  ck ((bK a1.2.2.1) - (1 : Int)) fun n1 => ck ((bK a1.2.2.2.1) - (1 : Int)) fun n2 => ck ((SN (0 : Int) n1) * a0.1.1) fun n3 => ck ((SN (0 : Int) n2) * a0.1.2) fun n4 => ck (n3 - n4) fun n5 => ck ((SN (0 : Int) n1) * a0.1.2) fun n6 => ck ((SN (0 : Int) n2) * a0.1.1) fun n7 => ck (n6 - n7) fun n8 => k (n5, n8)
def qD (a0 : Val bg) (a1 : Val bp) : Option (Val bc) := IB a0 a1 some
def Ia (a0 : Int) (a1 : Int) (k : Int → Option ρ) : Option ρ :=
  ifb (fo a1 0) (none) (ck (Int.tdiv a0 a1) fun n1 => ifb (fo a1 0) (none) (ifb (ilt (Int.tmod a0 a1) (0 : Int)) (ck (n1 - (1 : Int)) fun n2 => k n2) (k n1)))
def vo (a0 : Int) (a1 : Int) : Option (Int) := Ia a0 a1 some
def Oi (a0 : Val bc) (k : Val bc → Option ρ) : Option ρ :=
  bf (iW ([a0])) fun r1 => ifb (ine r1 (0 : Int)) (k ((0 : Int), r1)) (ck (0 - a0.1) fun n2 => bf (vo n2 a0.2) fun r3 => ck (0 - r3) fun n4 => k (n4, (0 : Int)))
def BJ (a0 : Val bc) : Option (Val bc) := Oi a0 some
def Ii (a0 : Val bc) (k : Val bc → Option ρ) : Option ρ :=
  bf (iW ([a0])) fun r1 => ifb (ine r1 (0 : Int)) (k ((0 : Int), r1)) (bf (vo a0.1 a0.2) fun r2 => k (r2, (0 : Int)))
def vp (a0 : Val bc) : Option (Val bc) := Ii a0 some
def On (a0 : Val bg) (a1 : Val bp) (k : Val bc → Option ρ) : Option ρ :=
  bf (mS a0 a1) fun r1 => bf (qD a0 a1) fun r2 => bf (vp r1.2) fun r3 => bf (BJ r1.1) fun r4 => ck (a1.2.2.2.2.1 - a1.2.2.2.2.2.1) fun n5 => ck (n5 - r2.2) fun n6 => ck (n6 - r3.1) fun n7 => ck (a1.2.2.2.2.1 + a1.2.2.2.2.2.1) fun n8 => ck (n8 - r2.1) fun n9 => ck (n9 - r4.1) fun n10 => k (n7, n10)
def sf (a0 : Val bg) (a1 : Val bp) : Option (Val bc) := On a0 a1 some
def rK (c0 : Int) (c1 : (Val ae)) (c2 : Int) (c13 : Int) (c14 : Int) (c15 : (Val ac)) (c16 : (Val aa)) (c17 : (Val af)) (c18 : (Val ab)) (c19 : (Val aa)) (c22 : Int) (c23 : Int) (c24 : Int) (c25 : Int) (c26 : Int) (c27 : Int) (c28 : Int) (c29 : Int) (v0 : Int) (v1 : (Val ah)) (v2 : (Val aa)) (kn : Int → (Val ah) → (Val aa) → Option ρ) (k0 : Val yY → Option ρ) : Option ρ :=
  ifb (ilt v0 (bK c1)) (ck (c2 + v0) fun n9 => ck (n9 - (1 : Int)) fun n10 => ck (c2 + v0) fun n11 => ck (v0 - (1 : Int)) fun n12 => dn c1 n12 fun e13 => dn c1 v0 fun e14 => bf (we ((c13, c14), c15, c16, c17, c18, c19) (c22, c23, c24, (c25, c26), (c27, c28), c29) e13 e14) fun r15 => ck (0 - r15) fun n16 => ck (0 - n16) fun n17 => ca (bZ ((List.length v1) + (List.length ([(n10, n11, (0 : Int)), (n11, n10, n17)])))) (ca (bZ ((List.length v2) + (List.length ([((2 : Int), c0), ((2 : Int), c0)])))) (ck (v0 + (1 : Int)) fun n18 => kn n18 (v1 ++ ([(n10, n11, (0 : Int)), (n11, n10, n17)])) (v2 ++ ([((2 : Int), c0), ((2 : Int), c0)]))))) (k0 (v1, v2))
def rL (c0 : (Val ac)) (c1 : Int) (c9 : Int) (c10 : Int) (c11 : (Val ac)) (c12 : (Val aa)) (c13 : (Val af)) (c14 : (Val ab)) (c15 : (Val aa)) (c16 : (Val aa)) (c17 : Int) (v0 : Int) (v1 : (Val ah)) (v2 : (Val aa)) (kn : Int → (Val ah) → (Val aa) → Option ρ) (k0 : Val yY → Option ρ) : Option ρ :=
  ifb (ilt v0 c1) (dn c0 v0 fun e3 => bf (mC ((c9, c10), c11, c12, c13, c14, c15) e3) fun r4 => bf (gD (((c9, c10), c11, c12, c13, c14, c15), c16, (c17, v1), v2) ([e3.1]) e3.2.1) fun r5 => ck (e3.2.2.1 + e3.2.2.2.1.1) fun n6 => ck (e3.2.2.1 + e3.2.2.2.1.2) fun n7 => ck (0 - n6) fun n8 => ca (bZ ((List.length v1) + (List.length ([((0 : Int), r5, n7), (r5, (0 : Int), n8)])))) (ca (bZ ((List.length v2) + (List.length ([((1 : Int), v0), ((1 : Int), v0)])))) (bw (fun (v21 : (Val (.pair tI yY))) kk25 => rK v0 r4 r5 c9 c10 c11 c12 c13 c14 c15 e3.1 e3.2.1 e3.2.2.1 e3.2.2.2.1.1 e3.2.2.2.1.2 e3.2.2.2.2.1.1 e3.2.2.2.2.1.2 e3.2.2.2.2.2 v21.1 v21.2.1 v21.2.2 (fun u22 u23 u24 => kk25 (u22, u23, u24)) (fun z19 => ck (v0 + (1 : Int)) fun n20 => kn n20 z19.1 z19.2)) ((1 : Int), (v1 ++ ([((0 : Int), r5, n7), (r5, (0 : Int), n8)])), (v2 ++ ([((1 : Int), v0), ((1 : Int), v0)])))))) (k0 (v1, v2))
def rJ (c0 : (Val ab)) (c1 : Int) (c9 : Int) (c10 : Int) (c11 : (Val ac)) (c12 : (Val aa)) (c13 : (Val af)) (c14 : (Val ab)) (c15 : (Val aa)) (c16 : (Val aa)) (c17 : Int) (v0 : Int) (v1 : (Val ah)) (v2 : (Val aa)) (kn : Int → (Val ah) → (Val aa) → Option ρ) (k0 : Val yY → Option ρ) : Option ρ :=
  ifb (ilt v0 c1) (dn c0 v0 fun e27 => bf (eQ e27.2.2.2.1 e27.2.2.1) fun r28 => bf (gD (((c9, c10), c11, c12, c13, c14, c15), c16, (c17, v1), v2) r28 e27.2.1) fun r29 => bf (eQ e27.2.2.1 e27.2.2.2.1) fun r30 => bf (gD (((c9, c10), c11, c12, c13, c14, c15), c16, (c17, v1), v2) r30 e27.2.1) fun r31 => bf (sf ((c9, c10), c11, c12, c13, c14, c15) e27) fun r32 => ck (0 - r32.1) fun n33 => ca (bZ ((List.length v1) + (List.length ([(r29, r31, r32.2), (r31, r29, n33)])))) (ca (bZ ((List.length v2) + (List.length ([((3 : Int), v0), ((3 : Int), v0)])))) (ck (v0 + (1 : Int)) fun n34 => kn n34 (v1 ++ ([(r29, r31, r32.2), (r31, r29, n33)])) (v2 ++ ([((3 : Int), v0), ((3 : Int), v0)]))))) (k0 (v1, v2))
def Ov (a0 : Val bg) (k : (Val aC) → Option ρ) : Option ρ :=
  bf (nO a0) fun r1 => ck ((bK r1) + (1 : Int)) fun n2 => bw (fun (v41 : (Val (.pair tI yY))) kk45 => rL a0.2.1 (bK a0.2.1) a0.1.1 a0.1.2 a0.2.1 a0.2.2.1 a0.2.2.2.1 a0.2.2.2.2.1 a0.2.2.2.2.2 r1 n2 v41.1 v41.2.1 v41.2.2 (fun u42 u43 u44 => kk45 (u42, u43, u44)) (fun z26 => bw (fun (v36 : (Val (.pair tI yY))) kk40 => rJ a0.2.2.2.2.1 (bK a0.2.2.2.2.1) a0.1.1 a0.1.2 a0.2.1 a0.2.2.1 a0.2.2.2.1 a0.2.2.2.2.1 a0.2.2.2.2.2 r1 n2 v36.1 v36.2.1 v36.2.2 (fun u37 u38 u39 => kk40 (u37, u38, u39)) (fun z35 => k (a0, r1, (n2, z35.1), z35.2))) ((0 : Int), z26.1, z26.2))) ((0 : Int), [], [])
def wd (a0 : Val bg) : Option ((Val aC)) := Ov a0 some
def Dc (a0 : Val bg) (k : (Val (.pair bq (.pair aa tI))) → Option ρ) : Option ρ :=
  bf (b9 a0) fun r1 => ifb (ine r1 (0 : Int)) (k (((0 : Int), []), [], r1)) (bf (wd a0) fun r2 => k (r2.2.2.1, r2.2.2.2, (0 : Int)))
def df (a0 : Val bg) : Option ((Val (.pair bq (.pair aa tI)))) := Dc a0 some
def IF (a0 : Val bg) (a1 : Val bc) (k : Val bc → Option ρ) : Option ρ :=
  bf (b9 a0) fun r1 => ifb (ine r1 (0 : Int)) (k ((0 : Int), r1)) (bf (nO a0) fun r2 => bf (cd r2 a1) fun r3 => ifb (ilt r3 (0 : Int)) (k ((0 : Int), (5 : Int))) (ck (r3 + (1 : Int)) fun n4 => k (n4, (0 : Int))))
def dc (a0 : Val bg) (a1 : Val bc) : Option (Val bc) := IF a0 a1 some
def ye (a0 : (Val au)) (a1 : Val bc) (k : Int → Option ρ) : Option ρ :=
  bf (dc a0.1 a1) fun r1 => k r1.1
def fi (a0 : (Val au)) (a1 : Val bc) : Option (Int) := ye a0 a1 some
def NY (a0 : Val bq) (a1 : Int) (k : Bool → Option ρ) : Option ρ :=
  ifb (ige a1 (0 : Int)) (k (ilt a1 a0.1)) (k false)
def oQ (a0 : Val bq) (a1 : Int) : Option (Bool) := NY a0 a1 some
def oz (c0 : (Val ah)) (c1 : Int) (c2 : Int) (c3 : (Val ah)) (v0 : Int) (kn : Int → Option ρ) (k0 : Val bc → Option ρ) (k1 : Unit → Option ρ) : Option ρ :=
  ifb (ilt v0 c1) (dn c0 v0 fun e1 => bf (oQ (c2, c3) e1.1) fun r2 => ifb (!r2) (k0 ((1 : Int), v0)) (bf (oQ (c2, c3) e1.2.1) fun r3 => ifb (!r3) (k0 ((1 : Int), v0)) (ifb (ieq e1.1 e1.2.1) (k0 ((1 : Int), v0)) (ifb (ilt e1.2.2 (-4503599627370496 : Int)) (k0 ((1 : Int), v0)) (ifb (igt e1.2.2 (4503599627370496 : Int)) (k0 ((1 : Int), v0)) (ck (v0 + (1 : Int)) fun n4 => kn n4)))))) (k1 ())
def HT (a0 : Val bq) (k : Val bc → Option ρ) : Option ρ :=
  ifb (ilt a0.1 (1 : Int)) (k ((1 : Int), (-1 : Int))) (ifb (igt a0.1 (60 : Int)) (k ((1 : Int), (-1 : Int))) (ifb (igt (bK a0.2) (300 : Int)) (k ((2 : Int), (-1 : Int))) (bw (fun (v7 : Int) kk9 => oz a0.2 (bK a0.2) a0.1 a0.2 v7 (fun u8 => kk9 u8) (fun z5 => k (z5.1, z5.2)) (fun _ => k ((0 : Int), (-1 : Int)))) (0 : Int))))
def jY (a0 : Val bq) : Option (Val bc) := HT a0 some
def gn (c1 : (Val ah)) (c2 : Int) (v0 : Int) (v1 : Int) (kn : Int → Int → Option ρ) (k0 : Int → Option ρ) : Option ρ :=
  ifb (ilt v1 c2) (dn c1 v1 fun e1 => ck (v0 + (SM e1.2.2 (0 : Int))) fun n2 => ck (v1 + (1 : Int)) fun n3 => kn n2 n3) (k0 v0)
def eh (c2 : Int) (c5 : (Val ae)) (v0 : Int) (v1 : (Val aw)) (v2 : (Val ae)) (kn : Int → (Val aw) → (Val ae) → Option ρ) (k0 : (Val aK) → Option ρ) : Option ρ :=
  ifb (ilt v0 c2) (ca ((ile (0 : Int) v0) && (ilt v0 (dz c5))) (gw c5 (Int.toNat v0) fun e5 => ifb (ine e5 (1152921504606846976 : Int)) (ca (bZ ((List.length v2) + (List.length ([v0])))) (ca ((ile (0 : Int) v0) && (ilt v0 (dz v1))) (gw v1 (Int.toNat v0) fun e6 => ck (v0 + (1 : Int)) fun n7 => kn n7 (List.set v1 (Int.toNat v0) true) (v2 ++ ([v0]))))) (ck (v0 + (1 : Int)) fun n8 => kn n8 v1 v2))) (k0 (v1, v2))
def il (c0 : (Val aj)) (c1 : Int) (c2 : Int) (c3 : (Val ah)) (c4 : Int) (v0 : Int) (v1 : (Val ae)) (v2 : (Val aw)) (v3 : (Val ae)) (kn : Int → (Val ae) → (Val aw) → (Val ae) → Option ρ) (k0 : (Val (.pair .bool (.pair ae aK))) → Option ρ) (k1 : (Val (.pair ae aK)) → Option ρ) : Option ρ :=
  ifb (ilt v0 c4) (dn c3 v0 fun e17 => ifb (ine e17.1 c2) (ck (v0 + (1 : Int)) fun n18 => kn n18 v1 v2 v3) (PF (k := tI) (v := .bool) v0 c0 (fun y19 => ifb y19 (ck (v0 + (1 : Int)) fun n20 => kn n20 v1 v2 v3) (ca ((ile (0 : Int) c2) && (ilt c2 (dz v1))) (gw v1 (Int.toNat c2) fun e21 => ck (e21 + e17.2.2) fun n22 => ca ((ile (0 : Int) e17.2.1) && (ilt e17.2.1 (dz v1))) (gw v1 (Int.toNat e17.2.1) fun e23 => ifb (ige n22 e23) (ck (v0 + (1 : Int)) fun n24 => kn n24 v1 v2 v3) (ca ((ile (0 : Int) c2) && (ilt c2 (dz v1))) (gw v1 (Int.toNat c2) fun e25 => ck (e25 + e17.2.2) fun n26 => ca ((ile (0 : Int) e17.2.1) && (ilt e17.2.1 (dz v1))) (gw v1 (Int.toNat e17.2.1) fun e27 => ca ((ile (0 : Int) e17.2.1) && (ilt e17.2.1 (dz (List.set v1 (Int.toNat e17.2.1) n26)))) (gw (List.set v1 (Int.toNat e17.2.1) n26) (Int.toNat e17.2.1) fun e28 => ifb (ilt e28 c1) (k0 (false, (List.set v1 (Int.toNat e17.2.1) n26), v2, v3)) (ca ((ile (0 : Int) e17.2.1) && (ilt e17.2.1 (dz v2))) (gw v2 (Int.toNat e17.2.1) fun e29 => ifb (!e29) (ca (bZ ((List.length v3) + (List.length ([e17.2.1])))) (ca ((ile (0 : Int) e17.2.1) && (ilt e17.2.1 (dz v2))) (gw v2 (Int.toNat e17.2.1) fun e30 => ck (v0 + (1 : Int)) fun n31 => kn n31 (List.set v1 (Int.toNat e17.2.1) n26) (List.set v2 (Int.toNat e17.2.1) true) (v3 ++ ([e17.2.1]))))) (ck (v0 + (1 : Int)) fun n32 => kn n32 (List.set v1 (Int.toNat e17.2.1) n26) v2 v3))))))))))) (ca ((ile (0 : Int) c2) && (ilt c2 (dz v1))) (gw v1 (Int.toNat c2) fun e33 => ck (e33 + e17.2.2) fun n34 => ca ((ile (0 : Int) e17.2.1) && (ilt e17.2.1 (dz v1))) (gw v1 (Int.toNat e17.2.1) fun e35 => ifb (ige n34 e35) (ck (v0 + (1 : Int)) fun n36 => kn n36 v1 v2 v3) (ca ((ile (0 : Int) c2) && (ilt c2 (dz v1))) (gw v1 (Int.toNat c2) fun e37 => ck (e37 + e17.2.2) fun n38 => ca ((ile (0 : Int) e17.2.1) && (ilt e17.2.1 (dz v1))) (gw v1 (Int.toNat e17.2.1) fun e39 => ca ((ile (0 : Int) e17.2.1) && (ilt e17.2.1 (dz (List.set v1 (Int.toNat e17.2.1) n38)))) (gw (List.set v1 (Int.toNat e17.2.1) n38) (Int.toNat e17.2.1) fun e40 => ifb (ilt e40 c1) (k0 (false, (List.set v1 (Int.toNat e17.2.1) n38), v2, v3)) (ca ((ile (0 : Int) e17.2.1) && (ilt e17.2.1 (dz v2))) (gw v2 (Int.toNat e17.2.1) fun e41 => ifb (!e41) (ca (bZ ((List.length v3) + (List.length ([e17.2.1])))) (ca ((ile (0 : Int) e17.2.1) && (ilt e17.2.1 (dz v2))) (gw v2 (Int.toNat e17.2.1) fun e42 => ck (v0 + (1 : Int)) fun n43 => kn n43 (List.set v1 (Int.toNat e17.2.1) n38) (List.set v2 (Int.toNat e17.2.1) true) (v3 ++ ([e17.2.1]))))) (ck (v0 + (1 : Int)) fun n44 => kn n44 (List.set v1 (Int.toNat e17.2.1) n38) v2 v3)))))))))))) (k1 (v1, v2, v3))
def dm (c0 : (Val aj)) (c1 : Int) (c4 : Int) (c5 : (Val ah)) (v0 : (Val ae)) (v1 : (Val aw)) (v2 : (Val ae)) (v3 : (Val ae)) (kn : (Val ae) → (Val aw) → (Val ae) → (Val ae) → Option ρ) (k0 : (Val (.pair .bool aL)) → Option ρ) : Option ρ :=
  ifb (ieq (bK v3) (0 : Int)) (k0 (true, v0, v1, v2, v3)) (ca (ilt (0 : Int) (dz v3)) (gw v3 0 fun e10 => ca (ile (1 : Int) (dz v3)) (ca (decide (1 + (List.length v3 - 1) = List.length v3)) (ca ((ile (0 : Int) e10) && (ilt e10 (dz v1))) (gw v1 (Int.toNat e10) fun e11 => ca ((ile (0 : Int) e10) && (ilt e10 (dz v2))) (gw v2 (Int.toNat e10) fun e12 => ck (e12 + (1 : Int)) fun n13 => ca ((ile (0 : Int) e10) && (ilt e10 (dz v2))) (gw v2 (Int.toNat e10) fun e14 => ca ((ile (0 : Int) e10) && (ilt e10 (dz (List.set v2 (Int.toNat e10) n13)))) (gw (List.set v2 (Int.toNat e10) n13) (Int.toNat e10) fun e15 => ck (c4 + (1 : Int)) fun n16 => ifb (igt e15 n16) (k0 (false, v0, (List.set v1 (Int.toNat e10) false), (List.set v2 (Int.toNat e10) n13), (List.drop 1 v3))) (bw (fun (v47 : (Val (.pair tI (.pair ae aK)))) kk52 => il c0 c1 e10 c5 (bK c5) v47.1 v47.2.1 v47.2.2.1 v47.2.2.2 (fun u48 u49 u50 u51 => kk52 (u48, u49, u50, u51)) (fun z45 => k0 (z45.1, z45.2.1, z45.2.2.1, (List.set v2 (Int.toNat e10) n13), z45.2.2.2)) (fun z46 => kn z46.1 z46.2.1 (List.set v2 (Int.toNat e10) n13) z46.2.2)) ((0 : Int), v0, (List.set v1 (Int.toNat e10) false), (List.drop 1 v3)))))))))))
def ik (c0 : Int) (c1 : Int) (v0 : Int) (v1 : (Val ae)) (kn : Int → (Val ae) → Option ρ) (k0 : (Val ae) → Option ρ) : Option ρ :=
  ifb (ilt v0 c1) (ca ((ile (0 : Int) v0) && (ilt v0 (dz v1))) (gw v1 (Int.toNat v0) fun e55 => ck (e55 - c0) fun n56 => ca ((ile (0 : Int) v0) && (ilt v0 (dz v1))) (gw v1 (Int.toNat v0) fun e57 => ck (v0 + (1 : Int)) fun n58 => kn n58 (List.set v1 (Int.toNat v0) n56)))) (k0 v1)
def uD (a0 : Val bq) (a1 : (Val aj)) (k : (Val (.pair ae .bool)) → Option ρ) : Option ρ :=
  ca ((ile (0 : Int) a0.1) && (bZ (Int.toNat a0.1))) (ca ((ile (0 : Int) a0.1) && (bZ (Int.toNat a0.1))) (ca ((ile (0 : Int) a0.1) && (bZ (Int.toNat a0.1))) (bw (fun (v75 : Val bc) kk78 => gn a0.2 (bK a0.2) v75.1 v75.2 (fun u76 u77 => kk78 (u76, u77)) (fun z4 => bw (fun (v70 : (Val (.pair tI aK))) kk74 => eh a0.1 (List.replicate (Int.toNat a0.1) (0 : Int)) v70.1 v70.2.1 v70.2.2 (fun u71 u72 u73 => kk74 (u71, u72, u73)) (fun z9 => bw (fun (v64 : (Val aL)) kk69 => dm a1 z4 a0.1 a0.2 v64.1 v64.2.1 v64.2.2.1 v64.2.2.2 (fun u65 u66 u67 u68 => kk69 (u65, u66, u67, u68)) (fun z53 => ifb (!z53.1) (k ([], false)) (ca (ilt (0 : Int) (dz z53.2.1)) (gw z53.2.1 0 fun e54 => bw (fun (v60 : (Val ax)) kk63 => ik e54 (bK z53.2.1) v60.1 v60.2 (fun u61 u62 => kk63 (u61, u62)) (fun z59 => k (z59, true))) ((0 : Int), z53.2.1))))) ((List.replicate (Int.toNat a0.1) (0 : Int)), z9.1, (List.replicate (Int.toNat a0.1) (0 : Int)), z9.2))) ((0 : Int), (List.replicate (Int.toNat a0.1) false), []))) ((0 : Int), (0 : Int)))))
def iu (a0 : Val bq) (a1 : (Val aj)) : Option ((Val (.pair ae .bool))) := uD a0 a1 some
def ox (c0 : (Val ae)) (c1 : Int) (c2 : Int) (c3 : (Val ah)) (v0 : Int) (kn : Int → Option ρ) (k0 : Int → Option ρ) (k1 : Unit → Option ρ) : Option ρ :=
  ifb (ilt v0 c1) (dn c0 v0 fun e2 => bf (oQ (c2, c3) e2) fun r3 => ifb (!r3) (k0 (1 : Int)) (ck (v0 + (1 : Int)) fun n4 => kn n4)) (k1 ())
def HI (a0 : Val bq) (a1 : (Val ae)) (k : Int → Option ρ) : Option ρ :=
  bf (jY a0) fun r1 => ifb (ine r1.1 (0 : Int)) (k r1.1) (bw (fun (v8 : Int) kk10 => ox a1 (bK a1) a0.1 a0.2 v8 (fun u9 => kk10 u9) (fun z5 => k z5) (fun _ => bf (iu a0 ([])) fun r7 => ifb (!r7.2) (k (9 : Int)) (k (0 : Int)))) (0 : Int))
def BI (a0 : Val bq) (a1 : (Val ae)) : Option (Int) := HI a0 a1 some
def mr (c2 : Int) (v0 : Int) (v1 : (Val ae)) (kn : Int → (Val ae) → Option ρ) (k0 : (Val ae) → Option ρ) : Option ρ :=
  ifb (ilt v0 c2) (ca ((ile (0 : Int) v0) && (ilt v0 (dz v1))) (gw v1 (Int.toNat v0) fun e1 => ck (v0 + (1 : Int)) fun n2 => kn n2 (List.set v1 (Int.toNat v0) (1152921504606846976 : Int)))) (k0 v1)
def rA (c1 : (Val ah)) (c2 : Int) (v0 : Int) (v1 : Int) (kn : Int → Int → Option ρ) (k0 : Int → Option ρ) : Option ρ :=
  ifb (ilt v1 c2) (dn c1 v1 fun e5 => ck (v0 + (SM e5.2.2 (0 : Int))) fun n6 => ck (v1 + (1 : Int)) fun n7 => kn n6 n7) (k0 v0)
def rz (c2 : Int) (c5 : (Val ae)) (v0 : Int) (v1 : (Val aw)) (v2 : (Val ae)) (kn : Int → (Val aw) → (Val ae) → Option ρ) (k0 : (Val aK) → Option ρ) : Option ρ :=
  ifb (ilt v0 c2) (ca ((ile (0 : Int) v0) && (ilt v0 (dz c5))) (gw c5 (Int.toNat v0) fun e9 => ifb (ine e9 (1152921504606846976 : Int)) (ca (bZ ((List.length v2) + (List.length ([v0])))) (ca ((ile (0 : Int) v0) && (ilt v0 (dz v1))) (gw v1 (Int.toNat v0) fun e10 => ck (v0 + (1 : Int)) fun n11 => kn n11 (List.set v1 (Int.toNat v0) true) (v2 ++ ([v0]))))) (ck (v0 + (1 : Int)) fun n12 => kn n12 v1 v2))) (k0 (v1, v2))
def Az (c0 : (Val aj)) (c1 : Int) (c2 : Int) (c3 : (Val ah)) (c4 : Int) (v0 : Int) (v1 : (Val ae)) (v2 : (Val aw)) (v3 : (Val ae)) (kn : Int → (Val ae) → (Val aw) → (Val ae) → Option ρ) (k0 : (Val (.pair .bool (.pair ae aK))) → Option ρ) (k1 : (Val (.pair ae aK)) → Option ρ) : Option ρ :=
  ifb (ilt v0 c4) (dn c3 v0 fun e21 => ifb (ine e21.1 c2) (ck (v0 + (1 : Int)) fun n22 => kn n22 v1 v2 v3) (PF (k := tI) (v := .bool) v0 c0 (fun y23 => ifb y23 (ck (v0 + (1 : Int)) fun n24 => kn n24 v1 v2 v3) (ca ((ile (0 : Int) c2) && (ilt c2 (dz v1))) (gw v1 (Int.toNat c2) fun e25 => ck (e25 + e21.2.2) fun n26 => ca ((ile (0 : Int) e21.2.1) && (ilt e21.2.1 (dz v1))) (gw v1 (Int.toNat e21.2.1) fun e27 => ifb (ige n26 e27) (ck (v0 + (1 : Int)) fun n28 => kn n28 v1 v2 v3) (ca ((ile (0 : Int) c2) && (ilt c2 (dz v1))) (gw v1 (Int.toNat c2) fun e29 => ck (e29 + e21.2.2) fun n30 => ca ((ile (0 : Int) e21.2.1) && (ilt e21.2.1 (dz v1))) (gw v1 (Int.toNat e21.2.1) fun e31 => ca ((ile (0 : Int) e21.2.1) && (ilt e21.2.1 (dz (List.set v1 (Int.toNat e21.2.1) n30)))) (gw (List.set v1 (Int.toNat e21.2.1) n30) (Int.toNat e21.2.1) fun e32 => ifb (ilt e32 c1) (k0 (false, (List.set v1 (Int.toNat e21.2.1) n30), v2, v3)) (ca ((ile (0 : Int) e21.2.1) && (ilt e21.2.1 (dz v2))) (gw v2 (Int.toNat e21.2.1) fun e33 => ifb (!e33) (ca (bZ ((List.length v3) + (List.length ([e21.2.1])))) (ca ((ile (0 : Int) e21.2.1) && (ilt e21.2.1 (dz v2))) (gw v2 (Int.toNat e21.2.1) fun e34 => ck (v0 + (1 : Int)) fun n35 => kn n35 (List.set v1 (Int.toNat e21.2.1) n30) (List.set v2 (Int.toNat e21.2.1) true) (v3 ++ ([e21.2.1]))))) (ck (v0 + (1 : Int)) fun n36 => kn n36 (List.set v1 (Int.toNat e21.2.1) n30) v2 v3))))))))))) (ca ((ile (0 : Int) c2) && (ilt c2 (dz v1))) (gw v1 (Int.toNat c2) fun e37 => ck (e37 + e21.2.2) fun n38 => ca ((ile (0 : Int) e21.2.1) && (ilt e21.2.1 (dz v1))) (gw v1 (Int.toNat e21.2.1) fun e39 => ifb (ige n38 e39) (ck (v0 + (1 : Int)) fun n40 => kn n40 v1 v2 v3) (ca ((ile (0 : Int) c2) && (ilt c2 (dz v1))) (gw v1 (Int.toNat c2) fun e41 => ck (e41 + e21.2.2) fun n42 => ca ((ile (0 : Int) e21.2.1) && (ilt e21.2.1 (dz v1))) (gw v1 (Int.toNat e21.2.1) fun e43 => ca ((ile (0 : Int) e21.2.1) && (ilt e21.2.1 (dz (List.set v1 (Int.toNat e21.2.1) n42)))) (gw (List.set v1 (Int.toNat e21.2.1) n42) (Int.toNat e21.2.1) fun e44 => ifb (ilt e44 c1) (k0 (false, (List.set v1 (Int.toNat e21.2.1) n42), v2, v3)) (ca ((ile (0 : Int) e21.2.1) && (ilt e21.2.1 (dz v2))) (gw v2 (Int.toNat e21.2.1) fun e45 => ifb (!e45) (ca (bZ ((List.length v3) + (List.length ([e21.2.1])))) (ca ((ile (0 : Int) e21.2.1) && (ilt e21.2.1 (dz v2))) (gw v2 (Int.toNat e21.2.1) fun e46 => ck (v0 + (1 : Int)) fun n47 => kn n47 (List.set v1 (Int.toNat e21.2.1) n42) (List.set v2 (Int.toNat e21.2.1) true) (v3 ++ ([e21.2.1]))))) (ck (v0 + (1 : Int)) fun n48 => kn n48 (List.set v1 (Int.toNat e21.2.1) n42) v2 v3)))))))))))) (k1 (v1, v2, v3))
def ru (c0 : (Val aj)) (c1 : Int) (c4 : Int) (c5 : (Val ah)) (v0 : (Val ae)) (v1 : (Val aw)) (v2 : (Val ae)) (v3 : (Val ae)) (kn : (Val ae) → (Val aw) → (Val ae) → (Val ae) → Option ρ) (k0 : (Val (.pair .bool aL)) → Option ρ) : Option ρ :=
  ifb (ieq (bK v3) (0 : Int)) (k0 (true, v0, v1, v2, v3)) (ca (ilt (0 : Int) (dz v3)) (gw v3 0 fun e14 => ca (ile (1 : Int) (dz v3)) (ca (decide (1 + (List.length v3 - 1) = List.length v3)) (ca ((ile (0 : Int) e14) && (ilt e14 (dz v1))) (gw v1 (Int.toNat e14) fun e15 => ca ((ile (0 : Int) e14) && (ilt e14 (dz v2))) (gw v2 (Int.toNat e14) fun e16 => ck (e16 + (1 : Int)) fun n17 => ca ((ile (0 : Int) e14) && (ilt e14 (dz v2))) (gw v2 (Int.toNat e14) fun e18 => ca ((ile (0 : Int) e14) && (ilt e14 (dz (List.set v2 (Int.toNat e14) n17)))) (gw (List.set v2 (Int.toNat e14) n17) (Int.toNat e14) fun e19 => ck (c4 + (1 : Int)) fun n20 => ifb (igt e19 n20) (k0 (false, v0, (List.set v1 (Int.toNat e14) false), (List.set v2 (Int.toNat e14) n17), (List.drop 1 v3))) (bw (fun (v51 : (Val (.pair tI (.pair ae aK)))) kk56 => Az c0 c1 e14 c5 (bK c5) v51.1 v51.2.1 v51.2.2.1 v51.2.2.2 (fun u52 u53 u54 u55 => kk56 (u52, u53, u54, u55)) (fun z49 => k0 (z49.1, z49.2.1, z49.2.2.1, (List.set v2 (Int.toNat e14) n17), z49.2.2.2)) (fun z50 => kn z50.1 z50.2.1 (List.set v2 (Int.toNat e14) n17) z50.2.2)) ((0 : Int), v0, (List.set v1 (Int.toNat e14) false), (List.drop 1 v3)))))))))))
def CV (a0 : Val bq) (a1 : (Val aj)) (a2 : Int) (k : (Val ae) → Option ρ) : Option ρ :=
  ca ((ile (0 : Int) a0.1) && (bZ (Int.toNat a0.1))) (bw (fun (v73 : (Val ax)) kk76 => mr (bK (List.replicate (Int.toNat a0.1) (0 : Int))) v73.1 v73.2 (fun u74 u75 => kk76 (u74, u75)) (fun z3 => ca ((ile (0 : Int) a2) && (ilt a2 (dz z3))) (gw z3 (Int.toNat a2) fun e4 => ca ((ile (0 : Int) a0.1) && (bZ (Int.toNat a0.1))) (ca ((ile (0 : Int) a0.1) && (bZ (Int.toNat a0.1))) (bw (fun (v69 : Val bc) kk72 => rA a0.2 (bK a0.2) v69.1 v69.2 (fun u70 u71 => kk72 (u70, u71)) (fun z8 => bw (fun (v64 : (Val (.pair tI aK))) kk68 => rz a0.1 (List.set z3 (Int.toNat a2) (0 : Int)) v64.1 v64.2.1 v64.2.2 (fun u65 u66 u67 => kk68 (u65, u66, u67)) (fun z13 => bw (fun (v58 : (Val aL)) kk63 => ru a1 z8 a0.1 a0.2 v58.1 v58.2.1 v58.2.2.1 v58.2.2.2 (fun u59 u60 u61 u62 => kk63 (u59, u60, u61, u62)) (fun z57 => k z57.2.1)) ((List.set z3 (Int.toNat a2) (0 : Int)), z13.1, (List.replicate (Int.toNat a0.1) (0 : Int)), z13.2))) ((0 : Int), (List.replicate (Int.toNat a0.1) false), []))) ((0 : Int), (0 : Int))))))) ((0 : Int), (List.replicate (Int.toNat a0.1) (0 : Int))))
def wc (a0 : Val bq) (a1 : (Val aj)) (a2 : Int) : Option ((Val ae)) := CV a0 a1 a2 some
def HZ (a0 : Val bq) (a1 : Int) (a2 : Int) (k : Val bc → Option ρ) : Option ρ :=
  bf (BI a0 ([a1, a2])) fun r1 => ifb (ine r1 (0 : Int)) (k ((0 : Int), r1)) (bf (wc a0 ([]) a1) fun r2 => dn r2 a2 fun e3 => ifb (ieq e3 (1152921504606846976 : Int)) (k ((0 : Int), (5 : Int))) (k (e3, (0 : Int))))
def lN (a0 : Val bq) (a1 : Int) (a2 : Int) : Option (Val bc) := HZ a0 a1 a2 some
def o9 (a0 : (Val au)) (a1 : Int) (a2 : Int) (k : Int → Option ρ) : Option ρ :=
  bf (lN a0.2 a2 a1) fun r1 => k r1.1
def cp (a0 : (Val au)) (a1 : Int) (a2 : Int) : Option (Int) := o9 a0 a1 a2 some
def o8 (a0 : (Val au)) (a1 : Val bc) (k : Int → Option ρ) : Option ρ :=
  bf (fi a0 a1) fun r1 => bf (cp a0 (0 : Int) r1) fun r2 => ck (0 - r2) fun n3 => k n3
def fU (a0 : (Val au)) (a1 : Val bc) : Option (Int) := o8 a0 a1 some
def kw (a0 : (Val au)) (a1 : Val bc) (k : Int → Option ρ) : Option ρ :=
  bf (fi a0 a1) fun r1 => bf (cp a0 r1 (0 : Int)) fun r2 => k r2
def gq (a0 : (Val au)) (a1 : Val bc) : Option (Int) := kw a0 a1 some
def kv (a0 : (Val au)) (a1 : Val bc) (k : Val bc → Option ρ) : Option ρ :=
  bf (fU a0 a1) fun r1 => bf (gq a0 a1) fun r2 => k (r1, r2)
def eV (a0 : (Val au)) (a1 : Val bc) : Option (Val bc) := kv a0 a1 some
def rV (c0 : Int) (v0 : Int) (v1 : (Val ab)) (kn : Int → (Val ab) → Option ρ) (k0 : (Val ab) → Option ρ) : Option ρ :=
  ifb (ilt v0 c0) (ca ((ile (0 : Int) v0) && (ilt v0 (dz v1))) (gw v1 (Int.toNat v0) fun e2 => ca (bZ (List.length e2.2.2.1)) (ca (bZ (List.length e2.2.2.2.1)) (ca ((ile (0 : Int) v0) && (ilt v0 (dz v1))) (gw v1 (Int.toNat v0) fun e3 => ca ((ile (0 : Int) v0) && (ilt v0 (dz (List.set v1 (Int.toNat v0) (e3.1, e3.2.1, e2.2.2.1, e3.2.2.2))))) (gw (List.set v1 (Int.toNat v0) (e3.1, e3.2.1, e2.2.2.1, e3.2.2.2)) (Int.toNat v0) fun e4 => ck (v0 + (1 : Int)) fun n5 => kn n5 (List.set (List.set v1 (Int.toNat v0) (e3.1, e3.2.1, e2.2.2.1, e3.2.2.2)) (Int.toNat v0) (e4.1, e4.2.1, e4.2.2.1, e2.2.2.2.1, e4.2.2.2.2)))))))) (k0 v1)
def OU (a0 : Val bg) (a1 : Val bc) (k : (Val aP) → Option ρ) : Option ρ :=
  bf (b9 a0) fun r1 => ifb (ine r1 (0 : Int)) (k ((((0 : Int), (0 : Int)), [], [], [], [], []), r1)) (ca (bZ (List.length a0.2.1)) (ca (bZ (List.length a0.2.2.1)) (ca (bZ (List.length a0.2.2.2.1)) (ca (bZ (List.length a0.2.2.2.2.2)) (ca (bZ (List.length a0.2.2.2.2.1)) (bw (fun (v8 : (Val (.pair tI ab))) kk11 => rV (bK a0.2.2.2.2.1) v8.1 v8.2 (fun u9 u10 => kk11 (u9, u10)) (fun z6 => ca (bZ ((List.length a0.2.2.2.2.2) + (List.length ([a1])))) (bf (b9 (a0.1, a0.2.1, a0.2.2.1, a0.2.2.2.1, z6, (a0.2.2.2.2.2 ++ ([a1])))) fun r7 => ifb (ine r7 (0 : Int)) (k ((((0 : Int), (0 : Int)), [], [], [], [], []), r7)) (k ((a0.1, a0.2.1, a0.2.2.1, a0.2.2.2.1, z6, (a0.2.2.2.2.2 ++ ([a1]))), (0 : Int)))))) ((0 : Int), a0.2.2.2.2.1)))))))
def fm (a0 : Val bg) (a1 : Val bc) : Option ((Val aP)) := OU a0 a1 some
def pn (a0 : Val bq) (k : (Val aE) → Option ρ) : Option ρ :=
  bf (jY a0) fun r1 => ifb (ine r1.1 (0 : Int)) (k (false, r1.1)) (bf (iu a0 ([])) fun r2 => k (r2.2, (0 : Int)))
def cD (a0 : Val bq) : Option ((Val aE)) := pn a0 some
def cn (c0 : Int) (c12 : (Val aa)) (v0 : Int) (v1 : Int) (v2 : Int) (v3 : (Val ac)) (v4 : (Val aa)) (v5 : (Val af)) (v6 : (Val ab)) (v7 : (Val aa)) (kn : Int → Int → Int → (Val ac) → (Val aa) → (Val af) → (Val ab) → (Val aa) → Option ρ) (k0 : (Val az) → Option ρ) (k1 : (Val ai) → Option ρ) : Option ρ :=
  ifb (ilt v0 c0) (ca ((ile (0 : Int) v0) && (ilt v0 (dz c12))) (gw c12 (Int.toNat v0) fun e2 => bf (dc ((v1, v2), v3, v4, v5, v6, v7) e2) fun r3 => ifb (ieq r3.2 (0 : Int)) (ck (v0 + (1 : Int)) fun n4 => kn n4 v1 v2 v3 v4 v5 v6 v7) (bf (fm ((v1, v2), v3, v4, v5, v6, v7) e2) fun r5 => ifb (ine r5.2 (0 : Int)) (k0 (r5.2, v1, v2, v3, v4, v5, v6, v7)) (ck (v0 + (1 : Int)) fun n6 => kn n6 r5.1.1.1 r5.1.1.2 r5.1.2.1 r5.1.2.2.1 r5.1.2.2.2.1 r5.1.2.2.2.2.1 r5.1.2.2.2.2.2)))) (k1 (v1, v2, v3, v4, v5, v6, v7))
def ut (a0 : Val bg) (a1 : Val bc) (k : Val jy → Option ρ) : Option ρ :=
  bf (b9 a0) fun r1 => ifb (ine r1 (0 : Int)) (ca (ine r1 (0 : Int)) (k (((0 : Int), (0 : Int)), r1))) (bw (fun (v12 : (Val az)) kk21 => cn (bK ([a1])) ([a1]) v12.1 v12.2.1 v12.2.2.1 v12.2.2.2.1 v12.2.2.2.2.1 v12.2.2.2.2.2.1 v12.2.2.2.2.2.2.1 v12.2.2.2.2.2.2.2 (fun u13 u14 u15 u16 u17 u18 u19 u20 => kk21 (u13, u14, u15, u16, u17, u18, u19, u20)) (fun z7 => ca (ine z7.1 (0 : Int)) (k (((0 : Int), (0 : Int)), z7.1))) (fun z8 => bf (df ((z8.1, z8.2.1), z8.2.2)) fun r9 => ifb (ine r9.2.2 (0 : Int)) (ca (ine r9.2.2 (0 : Int)) (k (((0 : Int), (0 : Int)), r9.2.2))) (bf (cD r9.1) fun r10 => ifb (!r10.1) (k (((0 : Int), (0 : Int)), (9 : Int))) (bf (eV (((z8.1, z8.2.1), z8.2.2), r9.1) a1) fun r11 => k (r11, (0 : Int)))))) ((0 : Int), a0.1.1, a0.1.2, a0.2.1, a0.2.2.1, a0.2.2.2.1, a0.2.2.2.2.1, a0.2.2.2.2.2))
def jp (a0 : Val bg) (a1 : Val bc) : Option (Val jy) := ut a0 a1 some
def pm (c0 : Int) (c14 : (Val aa)) (v0 : Int) (v1 : Int) (v2 : Int) (v3 : (Val ac)) (v4 : (Val aa)) (v5 : (Val af)) (v6 : (Val ab)) (v7 : (Val aa)) (kn : Int → Int → Int → (Val ac) → (Val aa) → (Val af) → (Val ab) → (Val aa) → Option ρ) (k0 : (Val az) → Option ρ) (k1 : (Val ai) → Option ρ) : Option ρ :=
  ifb (ilt v0 c0) (ca ((ile (0 : Int) v0) && (ilt v0 (dz c14))) (gw c14 (Int.toNat v0) fun e2 => bf (dc ((v1, v2), v3, v4, v5, v6, v7) e2) fun r3 => ifb (ieq r3.2 (0 : Int)) (ck (v0 + (1 : Int)) fun n4 => kn n4 v1 v2 v3 v4 v5 v6 v7) (bf (fm ((v1, v2), v3, v4, v5, v6, v7) e2) fun r5 => ifb (ine r5.2 (0 : Int)) (k0 (r5.2, v1, v2, v3, v4, v5, v6, v7)) (ck (v0 + (1 : Int)) fun n6 => kn n6 r5.1.1.1 r5.1.1.2 r5.1.2.1 r5.1.2.2.1 r5.1.2.2.2.1 r5.1.2.2.2.2.1 r5.1.2.2.2.2.2)))) (k1 (v1, v2, v3, v4, v5, v6, v7))
def yn (a0 : Val bg) (a1 : Val bc) (a2 : Val bc) (k : Val jy → Option ρ) : Option ρ :=
  bf (b9 a0) fun r1 => ifb (ine r1 (0 : Int)) (ca (ine r1 (0 : Int)) (k (((0 : Int), (0 : Int)), r1))) (bw (fun (v16 : (Val az)) kk25 => pm (bK ([a1, a2])) ([a1, a2]) v16.1 v16.2.1 v16.2.2.1 v16.2.2.2.1 v16.2.2.2.2.1 v16.2.2.2.2.2.1 v16.2.2.2.2.2.2.1 v16.2.2.2.2.2.2.2 (fun u17 u18 u19 u20 u21 u22 u23 u24 => kk25 (u17, u18, u19, u20, u21, u22, u23, u24)) (fun z7 => ca (ine z7.1 (0 : Int)) (k (((0 : Int), (0 : Int)), z7.1))) (fun z8 => bf (df ((z8.1, z8.2.1), z8.2.2)) fun r9 => ifb (ine r9.2.2 (0 : Int)) (ca (ine r9.2.2 (0 : Int)) (k (((0 : Int), (0 : Int)), r9.2.2))) (bf (cD r9.1) fun r10 => ifb (!r10.1) (k (((0 : Int), (0 : Int)), (9 : Int))) (bf (fi (((z8.1, z8.2.1), z8.2.2), r9.1) a1) fun r11 => bf (fi (((z8.1, z8.2.1), z8.2.2), r9.1) a2) fun r12 => bf (cp (((z8.1, z8.2.1), z8.2.2), r9.1) r12 r11) fun r13 => ck (0 - r13) fun n14 => bf (cp (((z8.1, z8.2.1), z8.2.2), r9.1) r11 r12) fun r15 => k ((n14, r15), (0 : Int)))))) ((0 : Int), a0.1.1, a0.1.2, a0.2.1, a0.2.2.1, a0.2.2.2.1, a0.2.2.2.2.1, a0.2.2.2.2.2))
def nJ (a0 : Val bg) (a1 : Val bc) (a2 : Val bc) : Option (Val jy) := yn a0 a1 a2 some
def Df (a0 : (Val ae)) (a1 : (Val ae)) (k : (Val (.pair ae aA)) → Option ρ) : Option ρ :=
  bf (kL a0) fun r1 => ifb (!r1) (k ([], [], (1 : Int))) (bf (kL a1) fun r2 => ifb (!r2) (k ([], [], (1 : Int))) (bf (eQ a0 a1) fun r3 => bf (eQ a1 a0) fun r4 => k (r3, r4, (0 : Int))))
def qE (a0 : (Val ae)) (a1 : (Val ae)) : Option ((Val (.pair ae aA))) := Df a0 a1 some
def Ns (a0 : (Val ae)) (a1 : Int) (k : Bool → Option ρ) : Option ρ :=
  bf (qE a0 ([])) fun r1 => ifb (ieq r1.2.2 (0 : Int)) (k (ile (bK a0) a1)) (k false)
def Ge (a0 : (Val ae)) (a1 : Int) : Option (Bool) := Ns a0 a1 some
def Hl (a0 : Int) (k : Bool → Option ρ) : Option ρ :=
  ifb (ige a0 (0 : Int)) (k (ile a0 (20000 : Int))) (k false)
def BD (a0 : Int) : Option (Bool) := Hl a0 some
def ol (c0 : Int) (c1 : (Val ae)) (c2 : Int) (v0 : Int) (v1 : (Val aa)) (kn : Int → (Val aa) → Option ρ) (k0 : (Val aa) → Option ρ) : Option ρ :=
  ifb (ilt v0 c2) (dn c1 v0 fun e2 => ca (bZ ((List.length v1) + (List.length ([(e2, c0)])))) (ck (v0 + (1 : Int)) fun n3 => kn n3 (v1 ++ ([(e2, c0)])))) (k0 v1)
def He (a0 : Int) (a1 : (Val am)) (k : (Val aa) → Option ρ) : Option ρ :=
  bf (bR a1) fun r1 => bw (fun (v5 : (Val aT)) kk8 => ol a0 r1 (bK r1) v5.1 v5.2 (fun u6 u7 => kk8 (u6, u7)) (fun z4 => k z4)) ((0 : Int), [])
def BC (a0 : Int) (a1 : (Val am)) : Option ((Val aa)) := He a0 a1 some
def rj (c0 : (Val aa)) (c1 : Int) (v0 : Int) (v1 : Int) (v2 : Int) (v3 : (Val ac)) (v4 : (Val aa)) (v5 : (Val af)) (v6 : (Val ab)) (v7 : (Val aa)) (kn : Int → Int → Int → (Val ac) → (Val aa) → (Val af) → (Val ab) → (Val aa) → Option ρ) (k0 : (Val az) → Option ρ) (k1 : (Val ai) → Option ρ) : Option ρ :=
  ifb (ilt v0 c1) (dn c0 v0 fun e9 => bf (dc ((v1, v2), v3, v4, v5, v6, v7) e9) fun r10 => ifb (ieq r10.2 (0 : Int)) (ck (v0 + (1 : Int)) fun n11 => kn n11 v1 v2 v3 v4 v5 v6 v7) (bf (fm ((v1, v2), v3, v4, v5, v6, v7) e9) fun r12 => ifb (ine r12.2 (0 : Int)) (k0 (r12.2, v1, v2, v3, v4, v5, v6, v7)) (ck (v0 + (1 : Int)) fun n13 => kn n13 r12.1.1.1 r12.1.1.2 r12.1.2.1 r12.1.2.2.1 r12.1.2.2.2.1 r12.1.2.2.2.2.1 r12.1.2.2.2.2.2))) (k1 (v1, v2, v3, v4, v5, v6, v7))
def ri (c0 : (Val au)) (c1 : (Val aa)) (c2 : Int) (v0 : Int) (v1 : Int) (v2 : Int) (kn : Int → Int → Int → Option ρ) (k0 : Val bc → Option ρ) : Option ρ :=
  ifb (ilt v0 c2) (dn c1 v0 fun e27 => bf (eV c0 e27) fun r28 => ck (v1 + r28.1) fun n29 => ck (v2 + r28.2) fun n30 => ck (v0 + (1 : Int)) fun n31 => kn n31 n29 n30) (k0 (v1, v2))
def NT (a0 : Val bg) (a1 : Int) (a2 : (Val ae)) (k : Val jy → Option ρ) : Option ρ :=
  bf (b9 a0) fun r1 => ifb (ine r1 (0 : Int)) (k (((0 : Int), (0 : Int)), r1)) (ifb (ieq (bK a2) (0 : Int)) (k (((0 : Int), (0 : Int)), (1 : Int))) (bf (Ge a2 (6 : Int)) fun r2 => ifb (!r2) (k (((0 : Int), (0 : Int)), (1 : Int))) (bf (BD a1) fun r3 => ifb (!r3) (k (((0 : Int), (0 : Int)), (1 : Int))) (bf (BC a1 ([a2])) fun r4 => bf (b9 a0) fun r5 => ifb (ine r5 (0 : Int)) (ifb (ine r5 (0 : Int)) (k (((0 : Int), (0 : Int)), r5)) (ck ((bK a2) - (1 : Int)) fun n6 => ck (n6 * a0.1.1) fun n7 => ck (n6 * a0.1.2) fun n8 => none)) (bw (fun (v38 : (Val az)) kk47 => rj r4 (bK r4) v38.1 v38.2.1 v38.2.2.1 v38.2.2.2.1 v38.2.2.2.2.1 v38.2.2.2.2.2.1 v38.2.2.2.2.2.2.1 v38.2.2.2.2.2.2.2 (fun u39 u40 u41 u42 u43 u44 u45 u46 => kk47 (u39, u40, u41, u42, u43, u44, u45, u46)) (fun z14 => ifb (ine z14.1 (0 : Int)) (k (((0 : Int), (0 : Int)), z14.1)) (ck ((bK a2) - (1 : Int)) fun n15 => ck (n15 * a0.1.1) fun n16 => ck (n15 * a0.1.2) fun n17 => none)) (fun z18 => bf (df ((z18.1, z18.2.1), z18.2.2)) fun r19 => ifb (ine r19.2.2 (0 : Int)) (ifb (ine r19.2.2 (0 : Int)) (k (((0 : Int), (0 : Int)), r19.2.2)) (ck ((bK a2) - (1 : Int)) fun n20 => ck (n20 * a0.1.1) fun n21 => ck (n20 * a0.1.2) fun n22 => none)) (bf (cD r19.1) fun r23 => ifb (!r23.1) (k (((0 : Int), (0 : Int)), (9 : Int))) (ck ((bK a2) - (1 : Int)) fun n24 => ck (n24 * a0.1.1) fun n25 => ck (n24 * a0.1.2) fun n26 => bw (fun (v33 : Val cw) kk37 => ri (((z18.1, z18.2.1), z18.2.2), r19.1) r4 (bK r4) v33.1 v33.2.1 v33.2.2 (fun u34 u35 u36 => kk37 (u34, u35, u36)) (fun z32 => k (z32, (0 : Int)))) ((0 : Int), n25, n26))))) ((0 : Int), a0.1.1, a0.1.2, a0.2.1, a0.2.2.1, a0.2.2.2.1, a0.2.2.2.2.1, a0.2.2.2.2.2))))))
def Gf (a0 : Val bg) (a1 : Int) (a2 : (Val ae)) : Option (Val jy) := NT a0 a1 a2 some
def yc (a0 : Val bc) (a1 : Val bc) (k : Int → Option ρ) : Option ρ :=
  ifb (ile a1.1 a0.1) (ifb (ile a0.2 a1.2) (k (1 : Int)) (ifb (ilt a0.2 a1.1) (k (2 : Int)) (ifb (ilt a1.2 a0.1) (k (2 : Int)) (k (3 : Int))))) (ifb (ilt a0.2 a1.1) (k (2 : Int)) (ifb (ilt a1.2 a0.1) (k (2 : Int)) (k (3 : Int))))
def nF (a0 : Val bc) (a1 : Val bc) : Option (Int) := yc a0 a1 some
def ur (c0 : Int) (c12 : (Val aa)) (v0 : Int) (v1 : Int) (v2 : Int) (v3 : (Val ac)) (v4 : (Val aa)) (v5 : (Val af)) (v6 : (Val ab)) (v7 : (Val aa)) (kn : Int → Int → Int → (Val ac) → (Val aa) → (Val af) → (Val ab) → (Val aa) → Option ρ) (k0 : (Val az) → Option ρ) (k1 : (Val ai) → Option ρ) : Option ρ :=
  ifb (ilt v0 c0) (ca ((ile (0 : Int) v0) && (ilt v0 (dz c12))) (gw c12 (Int.toNat v0) fun e2 => bf (dc ((v1, v2), v3, v4, v5, v6, v7) e2) fun r3 => ifb (ieq r3.2 (0 : Int)) (ck (v0 + (1 : Int)) fun n4 => kn n4 v1 v2 v3 v4 v5 v6 v7) (bf (fm ((v1, v2), v3, v4, v5, v6, v7) e2) fun r5 => ifb (ine r5.2 (0 : Int)) (k0 (r5.2, v1, v2, v3, v4, v5, v6, v7)) (ck (v0 + (1 : Int)) fun n6 => kn n6 r5.1.1.1 r5.1.1.2 r5.1.2.1 r5.1.2.2.1 r5.1.2.2.2.1 r5.1.2.2.2.2.1 r5.1.2.2.2.2.2)))) (k1 (v1, v2, v3, v4, v5, v6, v7))
def Hs (a0 : Val bg) (a1 : Val bc) (a2 : Val bc) (k : Val bc → Option ρ) : Option ρ :=
  bf (b9 a0) fun r1 => ifb (ine r1 (0 : Int)) (ifb (ine r1 (0 : Int)) (k ((0 : Int), r1)) (ca (igt a2.1 a2.2) (k ((0 : Int), (1 : Int))))) (bw (fun (v13 : (Val az)) kk22 => ur (bK ([a1])) ([a1]) v13.1 v13.2.1 v13.2.2.1 v13.2.2.2.1 v13.2.2.2.2.1 v13.2.2.2.2.2.1 v13.2.2.2.2.2.2.1 v13.2.2.2.2.2.2.2 (fun u14 u15 u16 u17 u18 u19 u20 u21 => kk22 (u14, u15, u16, u17, u18, u19, u20, u21)) (fun z7 => ifb (ine z7.1 (0 : Int)) (k ((0 : Int), z7.1)) (ca (igt a2.1 a2.2) (k ((0 : Int), (1 : Int))))) (fun z8 => bf (df ((z8.1, z8.2.1), z8.2.2)) fun r9 => ifb (ine r9.2.2 (0 : Int)) (ifb (ine r9.2.2 (0 : Int)) (k ((0 : Int), r9.2.2)) (ca (igt a2.1 a2.2) (k ((0 : Int), (1 : Int))))) (bf (cD r9.1) fun r10 => ifb (!r10.1) (k ((0 : Int), (9 : Int))) (ifb (igt a2.1 a2.2) (k ((0 : Int), (1 : Int))) (bf (eV (((z8.1, z8.2.1), z8.2.2), r9.1) a1) fun r11 => bf (nF r11 a2) fun r12 => k (r12, (0 : Int))))))) ((0 : Int), a0.1.1, a0.1.2, a0.2.1, a0.2.2.1, a0.2.2.2.1, a0.2.2.2.2.1, a0.2.2.2.2.2))
def BF (a0 : Val bg) (a1 : Val bc) (a2 : Val bc) : Option (Val bc) := Hs a0 a1 a2 some
def rU (c0 : Int) (v0 : Int) (v1 : (Val ab)) (kn : Int → (Val ab) → Option ρ) (k0 : (Val ab) → Option ρ) : Option ρ :=
  ifb (ilt v0 c0) (ca ((ile (0 : Int) v0) && (ilt v0 (dz v1))) (gw v1 (Int.toNat v0) fun e2 => ca (bZ (List.length e2.2.2.1)) (ca (bZ (List.length e2.2.2.2.1)) (ca ((ile (0 : Int) v0) && (ilt v0 (dz v1))) (gw v1 (Int.toNat v0) fun e3 => ca ((ile (0 : Int) v0) && (ilt v0 (dz (List.set v1 (Int.toNat v0) (e3.1, e3.2.1, e2.2.2.1, e3.2.2.2))))) (gw (List.set v1 (Int.toNat v0) (e3.1, e3.2.1, e2.2.2.1, e3.2.2.2)) (Int.toNat v0) fun e4 => ck (v0 + (1 : Int)) fun n5 => kn n5 (List.set (List.set v1 (Int.toNat v0) (e3.1, e3.2.1, e2.2.2.1, e3.2.2.2)) (Int.toNat v0) (e4.1, e4.2.1, e4.2.2.1, e2.2.2.2.1, e4.2.2.2.2)))))))) (k0 v1)
def OP (a0 : Val bg) (a1 : Val bp) (k : (Val aP) → Option ρ) : Option ρ :=
  ca (bZ (List.length a1.2.2.1)) (ca (bZ (List.length a1.2.2.2.1)) (bf (b9 a0) fun r1 => ifb (ine r1 (0 : Int)) (k ((((0 : Int), (0 : Int)), [], [], [], [], []), r1)) (ca (bZ (List.length a0.2.1)) (ca (bZ (List.length a0.2.2.1)) (ca (bZ (List.length a0.2.2.2.1)) (ca (bZ (List.length a0.2.2.2.2.2)) (ca (bZ (List.length a0.2.2.2.2.1)) (bw (fun (v8 : (Val (.pair tI ab))) kk11 => rU (bK a0.2.2.2.2.1) v8.1 v8.2 (fun u9 u10 => kk11 (u9, u10)) (fun z6 => ca (bZ ((List.length z6) + (List.length ([a1])))) (bf (b9 (a0.1, a0.2.1, a0.2.2.1, a0.2.2.2.1, (z6 ++ ([a1])), a0.2.2.2.2.2)) fun r7 => ifb (ine r7 (0 : Int)) (k ((((0 : Int), (0 : Int)), [], [], [], [], []), r7)) (k ((a0.1, a0.2.1, a0.2.2.1, a0.2.2.2.1, (z6 ++ ([a1])), a0.2.2.2.2.2), (0 : Int)))))) ((0 : Int), a0.2.2.2.2.1)))))))))
def mD (a0 : Val bg) (a1 : Val bp) : Option ((Val aP)) := OP a0 a1 some
def Im (a0 : Val bg) (a1 : Val bp) (a2 : Val bc) (k : Val jy → Option ρ) : Option ρ :=
  bf (mS a0 a1) fun r1 => bf (qD a0 a1) fun r2 => bf (BJ r1.1) fun r3 => bf (vp r1.2) fun r4 => ck (r3.1 + r2.1) fun n5 => ck (n5 - a1.2.2.2.2.2.1) fun n6 => ck (r4.1 + r2.2) fun n7 => ck (n7 + a1.2.2.2.2.2.1) fun n8 => ifb (igt n6 n8) (k (((0 : Int), (0 : Int)), (5 : Int))) (ck (a2.1 + n6) fun n9 => ck (a2.2 + n8) fun n10 => k ((n9, n10), (0 : Int)))
def qC (a0 : Val bg) (a1 : Val bp) (a2 : Val bc) : Option (Val jy) := Im a0 a1 a2 some
def yE (a0 : Val bg) (a1 : Val bp) (k : Val jy → Option ρ) : Option ρ :=
  bf (mD a0 (a1.1, a1.2.1, a1.2.2.1, a1.2.2.2.1, (0 : Int), a1.2.2.2.2.2)) fun r1 => ifb (ine r1.2 (0 : Int)) (k (((0 : Int), (0 : Int)), r1.2)) (bf (wd r1.1) fun r2 => ck ((bK r2.2.2.1.2) - (2 : Int)) fun n3 => ca ((ile (0 : Int) n3) && (ile n3 (dz r2.2.2.1.2))) (bf (eQ a1.2.2.1 a1.2.2.2.1) fun r4 => bf (gD r2 r4 a1.2.1) fun r5 => bf (eQ a1.2.2.2.1 a1.2.2.1) fun r6 => bf (gD r2 r6 a1.2.1) fun r7 => bf (lN (r2.2.2.1.1, (List.take (Int.toNat n3) r2.2.2.1.2)) r7 r5) fun r8 => ifb (ine r8.2 (0 : Int)) (k (((0 : Int), (0 : Int)), r8.2)) (bf (lN (r2.2.2.1.1, (List.take (Int.toNat n3) r2.2.2.1.2)) r5 r7) fun r9 => ifb (ine r9.2 (0 : Int)) (k (((0 : Int), (0 : Int)), r9.2)) (ck (0 - r9.1) fun n10 => bf (qC a0 (a1.1, a1.2.1, a1.2.2.1, a1.2.2.2.1, (0 : Int), a1.2.2.2.2.2) (n10, r8.1)) fun r11 => k (r11.1, r11.2)))))
def si (a0 : Val bg) (a1 : Val bp) : Option (Val jy) := yE a0 a1 some
def Ik (a0 : Val bg) (a1 : Int) (k : (Val (.pair bp tI)) → Option ρ) : Option ρ :=
  bf (b9 a0) fun r1 => ifb (ine r1 (0 : Int)) (k (((0 : Int), (0 : Int), [], [], (0 : Int), (0 : Int), (0 : Int), (0 : Int)), r1)) (ifb (ilt a1 (0 : Int)) (k (((0 : Int), (0 : Int), [], [], (0 : Int), (0 : Int), (0 : Int), (0 : Int)), (1 : Int))) (ifb (ige a1 (bK a0.2.2.2.2.1)) (k (((0 : Int), (0 : Int), [], [], (0 : Int), (0 : Int), (0 : Int), (0 : Int)), (1 : Int))) (dn a0.2.2.2.2.1 a1 fun e2 => k (e2, (0 : Int)))))
def BK (a0 : Val bg) (a1 : Int) : Option ((Val (.pair bp tI))) := Ik a0 a1 some
def OS (a0 : Val bg) (a1 : Int) (k : Val jy → Option ρ) : Option ρ :=
  bf (BK a0 a1) fun r1 => ifb (ine r1.2 (0 : Int)) (k (((0 : Int), (0 : Int)), r1.2)) (bf (sf a0 r1.1) fun r2 => k (r2, (0 : Int)))
def Gh (a0 : Val bg) (a1 : Int) : Option (Val jy) := OS a0 a1 some
def uh (a0 : (Val ae)) (a1 : (Val au)) (a2 : (Val (.ptr bp))) (k : Int → Option ρ) : Option ρ :=
  ifb (ieq (bK a0) (0 : Int)) (k (0 : Int)) (dn a0 (0 : Int) fun e1 => bf (fi a1 (e1, a2.2.1)) fun r2 => k r2)
def lM (a0 : (Val ae)) (a1 : (Val au)) (a2 : (Val (.ptr bp))) : Option (Int) := uh a0 a1 a2 some
def ug (a0 : Int) (a1 : Int) (a2 : (Val au)) (a3 : (Val (.ptr tI))) (a4 : (Val aR)) (a5 : (Val (.ptr tI))) (k : Val cw → Option ρ) : Option ρ :=
  bf (cp a2 a0 a1) fun r1 => bf (cp a2 a3 a1) fun r2 => ck (r2 + a4.2) fun n3 => bf (cp a2 a0 a5) fun r4 => ck (n3 + r4) fun n5 => bf (cp a2 a5 a1) fun r6 => ck (r6 - a4.1) fun n7 => bf (cp a2 a0 a3) fun r8 => ck (n7 + r8) fun n9 => k (r1, n5, n9)
def lL (a0 : Int) (a1 : Int) (a2 : (Val au)) (a3 : (Val (.ptr tI))) (a4 : (Val aR)) (a5 : (Val (.ptr tI))) : Option (Val cw) := ug a0 a1 a2 a3 a4 a5 some
def jN (c0 : Int) (c3 : (Val aa)) (c4 : (Val ah)) (c5 : Int) (v0 : Int) (v1 : (Val ah)) (kn : Int → (Val ah) → Option ρ) (k0 : (Val ah) → Option ρ) : Option ρ :=
  ifb (ilt v0 c5) (dn c4 v0 fun e7 => dn c3 v0 fun e8 => ifb (!((fo e8.1 (3 : Int)) && ((fo e8.2 c0) && true))) (ca (bZ ((List.length v1) + (List.length ([e7])))) (ck (v0 + (1 : Int)) fun n9 => kn n9 (v1 ++ ([e7])))) (ck (v0 + (1 : Int)) fun n10 => kn n10 v1)) (k0 v1)
def Ct (a0 : (Val au)) (a1 : Val bc) (a2 : Val bp) (k : (Val (.pair eX tI)) → Option ρ) : Option ρ :=
  bf (si a0.1 a2) fun r1 => ifb (ine r1.2 (0 : Int)) (k ((((0 : Int), (0 : Int)), ((0 : Int), (0 : Int), (0 : Int)), (0 : Int), (0 : Int), (0 : Int)), r1.2)) (bf (mD a0.1 (a2.1, a2.2.1, a2.2.2.1, a2.2.2.2.1, (0 : Int), a2.2.2.2.2.2)) fun r2 => ifb (ine r2.2 (0 : Int)) (k ((((0 : Int), (0 : Int)), ((0 : Int), (0 : Int), (0 : Int)), (0 : Int), (0 : Int), (0 : Int)), r2.2)) (ck ((bK r2.1.2.2.2.2.1) - (1 : Int)) fun n3 => bf (Gh r2.1 n3) fun r4 => bf (qE a2.2.2.1 a2.2.2.2.1) fun r5 => bf (df r2.1) fun r6 => bw (fun (v17 : Val bq) kk20 => jN n3 r6.2.1 r6.1.2 (bK r6.1.2) v17.1 v17.2 (fun u18 u19 => kk20 (u18, u19)) (fun z11 => bf (lM r5.1 (r2.1, r6.1.1, z11) (a2.1, a2.2.1, a2.2.2.1, a2.2.2.2.1, (0 : Int), a2.2.2.2.2.2)) fun r12 => bf (lM r5.2.1 (r2.1, r6.1.1, z11) (a2.1, a2.2.1, a2.2.2.1, a2.2.2.2.1, (0 : Int), a2.2.2.2.2.2)) fun r13 => bf (fi (r2.1, r6.1.1, z11) a1) fun r14 => bf (lL r14 (0 : Int) (r2.1, r6.1.1, z11) r13 r4.1 r12) fun r15 => bf (lL (0 : Int) r14 (r2.1, r6.1.1, z11) r13 r4.1 r12) fun r16 => k ((r1.1, r15, r16), (0 : Int)))) ((0 : Int), [])))
def qz (a0 : (Val au)) (a1 : Val bc) (a2 : Val bp) : Option ((Val (.pair eX tI))) := Ct a0 a1 a2 some
def rd (a0 : Val cw) (k : (Val ae) → Option ρ) : Option ρ :=
  ck (a0.2.2 - a0.2.1) fun n1 => ck (Int.tdiv n1 (2 : Int)) fun n2 => ck (a0.1 - a0.2.1) fun n3 => ck (a0.2.2 - a0.1) fun n4 => ck (n2 - (1 : Int)) fun n5 => ck (n2 + (1 : Int)) fun n6 => k ([n3, n4, n2, n5, n6])
def gM (a0 : Val cw) : Option ((Val ae)) := rd a0 some
def Cw (a0 : Val cw) (a1 : Int) (k : Int → Option ρ) : Option ρ :=
  ck (a0.2.1 + a1) fun n1 => ck (a0.2.2 - a1) fun n2 => k (SM (SM a0.1 n1) n2)
def qA (a0 : Val cw) (a1 : Int) : Option (Int) := Cw a0 a1 some
def oY (a0 : Val eX) (a1 : Int) (k : Val bc → Option ρ) : Option ρ :=
  bf (qA a0.2.2 a1) fun r1 => ck (0 - r1) fun n2 => bf (qA a0.2.1 a1) fun r3 => k (n2, r3)
def dY (a0 : Val eX) (a1 : Int) : Option (Val bc) := oY a0 a1 some
def gk (c0 : Int) (c4 : Int) (c5 : Int) (v0 : Int) (v1 : (Val ae)) (kn : Int → (Val ae) → Option ρ) (k0 : (Val ae) → Option ρ) : Option ρ :=
  ck (c0 + (2 : Int)) fun n3 => ifb (ile v0 n3) (ifb (igt v0 c4) (ifb (ilt v0 c5) (ca (bZ ((List.length v1) + (List.length ([v0])))) (ck (v0 + (1 : Int)) fun n4 => kn n4 (v1 ++ ([v0])))) (ck (v0 + (1 : Int)) fun n5 => kn n5 v1)) (ck (v0 + (1 : Int)) fun n6 => kn n6 v1)) (k0 v1)
def iC (c0 : (Val ae)) (c1 : Int) (c2 : Int) (c3 : Int) (v0 : Int) (v1 : (Val ae)) (kn : Int → (Val ae) → Option ρ) (k0 : (Val ae) → Option ρ) : Option ρ :=
  ifb (ilt v0 c1) (dn c0 v0 fun e1 => ck (e1 - (2 : Int)) fun n2 => bw (fun (v9 : (Val ax)) kk12 => gk e1 c2 c3 v9.1 v9.2 (fun u10 u11 => kk12 (u10, u11)) (fun z7 => ck (v0 + (1 : Int)) fun n8 => kn n8 z7)) (n2, v1)) (k0 v1)
def oZ (a0 : Val eX) (a1 : (Val ae)) (k : (Val ae) → Option ρ) : Option ρ :=
  bw (fun (v14 : (Val ax)) kk17 => iC a1 (bK a1) a0.1.1 a0.1.2 v14.1 v14.2 (fun u15 u16 => kk17 (u15, u16)) (fun z13 => k z13)) ((0 : Int), [a0.1.1, a0.1.2])
def iU (a0 : Val eX) (a1 : (Val ae)) : Option ((Val ae)) := oZ a0 a1 some
def hO (c0 : (Val ae)) (c1 : Int) (c2 : Int) (c3 : Int) (c4 : Int) (c5 : Int) (c6 : Int) (c7 : Int) (c8 : Int) (c9 : Int) (v0 : Int) (v1 : Int) (kn : Int → Int → Option ρ) (k0 : Int → Option ρ) : Option ρ :=
  ifb (ilt v1 c1) (dn c0 v1 fun e5 => bf (dY ((c2, c3), (c4, c5, c6), c7, c8, c9) e5) fun r6 => ck (r6.2 - r6.1) fun n7 => ck (v1 + (1 : Int)) fun n8 => kn (SN v0 n7) n8) (k0 v0)
def nh (a0 : Val eX) (k : Int → Option ρ) : Option ρ :=
  bf (gM a0.2.1) fun r1 => bf (gM a0.2.2) fun r2 => bf (bR ([r1, r2])) fun r3 => bf (iU a0 r3) fun r4 => bw (fun (v10 : Val bc) kk13 => hO r4 (bK r4) a0.1.1 a0.1.2 a0.2.1.1 a0.2.1.2.1 a0.2.1.2.2 a0.2.2.1 a0.2.2.2.1 a0.2.2.2.2 v10.1 v10.2 (fun u11 u12 => kk13 (u11, u12)) (fun z9 => k z9)) ((-1 : Int), (0 : Int))
def jU (a0 : Val eX) : Option (Int) := nh a0 some
def un (c0 : Int) (c18 : (Val aa)) (v0 : Int) (v1 : Int) (v2 : Int) (v3 : (Val ac)) (v4 : (Val aa)) (v5 : (Val af)) (v6 : (Val ab)) (v7 : (Val aa)) (kn : Int → Int → Int → (Val ac) → (Val aa) → (Val af) → (Val ab) → (Val aa) → Option ρ) (k0 : (Val az) → Option ρ) (k1 : (Val ai) → Option ρ) : Option ρ :=
  ifb (ilt v0 c0) (ca ((ile (0 : Int) v0) && (ilt v0 (dz c18))) (gw c18 (Int.toNat v0) fun e2 => bf (dc ((v1, v2), v3, v4, v5, v6, v7) e2) fun r3 => ifb (ieq r3.2 (0 : Int)) (ck (v0 + (1 : Int)) fun n4 => kn n4 v1 v2 v3 v4 v5 v6 v7) (bf (fm ((v1, v2), v3, v4, v5, v6, v7) e2) fun r5 => ifb (ine r5.2 (0 : Int)) (k0 (r5.2, v1, v2, v3, v4, v5, v6, v7)) (ck (v0 + (1 : Int)) fun n6 => kn n6 r5.1.1.1 r5.1.1.2 r5.1.2.1 r5.1.2.2.1 r5.1.2.2.2.1 r5.1.2.2.2.2.1 r5.1.2.2.2.2.2)))) (k1 (v1, v2, v3, v4, v5, v6, v7))
def Hp (a0 : Val bg) (a1 : Val bc) (a2 : Val bp) (k : Val bc → Option ρ) : Option ρ :=
  bf (b9 a0) fun r1 => ifb (ine r1 (0 : Int)) (ca (ine r1 (0 : Int)) (k ((0 : Int), r1))) (bw (fun (v13 : (Val az)) kk22 => un (bK ([a1])) ([a1]) v13.1 v13.2.1 v13.2.2.1 v13.2.2.2.1 v13.2.2.2.2.1 v13.2.2.2.2.2.1 v13.2.2.2.2.2.2.1 v13.2.2.2.2.2.2.2 (fun u14 u15 u16 u17 u18 u19 u20 u21 => kk22 (u14, u15, u16, u17, u18, u19, u20, u21)) (fun z7 => ca (ine z7.1 (0 : Int)) (k ((0 : Int), z7.1))) (fun z8 => bf (df ((z8.1, z8.2.1), z8.2.2)) fun r9 => ifb (ine r9.2.2 (0 : Int)) (ca (ine r9.2.2 (0 : Int)) (k ((0 : Int), r9.2.2))) (bf (cD r9.1) fun r10 => ifb (!r10.1) (k ((0 : Int), (9 : Int))) (bf (qz (((z8.1, z8.2.1), z8.2.2), r9.1) a1 a2) fun r11 => ifb (ine r11.2 (0 : Int)) (k ((0 : Int), r11.2)) (bf (jU r11.1) fun r12 => k (r12, (0 : Int))))))) ((0 : Int), a0.1.1, a0.1.2, a0.2.1, a0.2.2.1, a0.2.2.2.1, a0.2.2.2.2.1, a0.2.2.2.2.2))
def vj (a0 : Val bg) (a1 : Val bc) (a2 : Val bp) : Option (Val bc) := Hp a0 a1 a2 some
def kV (c0 : (Val ae)) (c1 : Int) (c3 : (Val ah)) (v0 : Int) (kn : Int → Option ρ) (k0 : Int → Option ρ) (k1 : Unit → Option ρ) : Option ρ :=
  ifb (ilt v0 c1) (dn c0 v0 fun e1 => ifb (ilt e1 (0 : Int)) (k0 v0) (ifb (ige e1 (bK c3)) (k0 v0) (ck (v0 + (1 : Int)) fun n2 => kn n2))) (k1 ())
def yo (a0 : Val bq) (a1 : (Val ae)) (k : Int → Option ρ) : Option ρ :=
  ifb (igt (bK a1) (80 : Int)) (k (2 : Int)) (bw (fun (v5 : Int) kk7 => kV a1 (bK a1) a0.2 v5 (fun u6 => kk7 u6) (fun z3 => ifb (ige z3 (0 : Int)) (k (1 : Int)) (k (0 : Int))) (fun _ => k (0 : Int))) (0 : Int))
def nM (a0 : Val bq) (a1 : (Val ae)) : Option (Int) := yo a0 a1 some
def rr (c0 : (Val ae)) (c1 : Int) (c3 : (Val ah)) (v0 : Int) (v1 : Int) (v2 : Int) (kn : Int → Int → Int → Option ρ) (k0 : (Val (.pair tI (.pair tI .bool))) → Option ρ) (k1 : Val bc → Option ρ) : Option ρ :=
  ifb (ilt v2 c1) (dn c0 v2 fun e1 => dn c3 e1 fun e2 => ifb (ine e2.1 v0) (k0 ((0 : Int), (0 : Int), false)) (ck (v1 + e2.2.2) fun n3 => ck (v2 + (1 : Int)) fun n4 => kn e2.2.1 n3 n4)) (k1 (v0, v1))
def NX (a0 : Val bq) (a1 : Int) (a2 : (Val ae)) (k : (Val (.pair tI (.pair tI .bool))) → Option ρ) : Option ρ :=
  bw (fun (v7 : Val cw) kk11 => rr a2 (bK a2) a0.2 v7.1 v7.2.1 v7.2.2 (fun u8 u9 u10 => kk11 (u8, u9, u10)) (fun z5 => k (z5.1, z5.2.1, z5.2.2)) (fun z6 => k (z6.1, z6.2, true))) (a1, (0 : Int), (0 : Int))
def BH (a0 : Val bq) (a1 : Int) (a2 : (Val ae)) : Option ((Val (.pair tI (.pair tI .bool)))) := NX a0 a1 a2 some
def pp (a0 : Val bq) (a1 : Int) (a2 : Int) (a3 : (Val ae)) (k : Val bc → Option ρ) : Option ρ :=
  bf (jY a0) fun r1 => ifb (ine r1.1 (0 : Int)) (k ((0 : Int), r1.1)) (bf (oQ a0 a1) fun r2 => ifb (!r2) (k ((0 : Int), (1 : Int))) (bf (oQ a0 a2) fun r3 => ifb (!r3) (k ((0 : Int), (1 : Int))) (bf (nM a0 a3) fun r4 => ifb (ine r4 (0 : Int)) (k ((0 : Int), r4)) (bf (BH a0 a1 a3) fun r5 => ifb (!r5.2.2) (k ((0 : Int), (8 : Int))) (ifb (ine r5.1 a2) (k ((0 : Int), (8 : Int))) (k (r5.2.1, (0 : Int))))))))
def iV (a0 : Val bq) (a1 : Int) (a2 : Int) (a3 : (Val ae)) : Option (Val bc) := pp a0 a1 a2 a3 some
def rl (a0 : Val fW) (k : Int → Option ρ) : Option ρ :=
  bf (b9 a0.1) fun r1 => ifb (ine r1 (0 : Int)) (k r1) (bf (dc a0.1 a0.2.1) fun r2 => ifb (ine r2.2 (0 : Int)) (k (5 : Int)) (bf (df a0.1) fun r3 => ck (0 - a0.2.2.2.1) fun n4 => ifb a0.2.2.1 (bf (iV r3.1 (0 : Int) r2.1 a0.2.2.2.2) fun r5 => ifb (ine r5.2 (0 : Int)) (k (8 : Int)) (ifb (ine r5.1 a0.2.2.2.1) (k (8 : Int)) (k (0 : Int)))) (bf (iV r3.1 r2.1 (0 : Int) a0.2.2.2.2) fun r6 => ifb (ine r6.2 (0 : Int)) (k (8 : Int)) (ifb (ine r6.1 n4) (k (8 : Int)) (k (0 : Int))))))
def jW (a0 : Val fW) : Option (Int) := rl a0 some
def po (a0 : Val bq) (a1 : (Val ae)) (k : Int → Option ρ) : Option ρ :=
  bf (jY a0) fun r1 => ifb (ine r1.1 (0 : Int)) (k r1.1) (bf (nM a0 a1) fun r2 => ifb (ine r2 (0 : Int)) (k r2) (ifb (ieq (bK a1) (0 : Int)) (k (8 : Int)) (dn a1 (0 : Int) fun e3 => dn a0.2 e3 fun e4 => bf (BH a0 e4.1 a1) fun r5 => ifb (!r5.2.2) (k (8 : Int)) (ifb (ine r5.1 e4.1) (k (8 : Int)) (ifb (ige r5.2.1 (0 : Int)) (k (8 : Int)) (k (0 : Int)))))))
def kY (a0 : Val bq) (a1 : (Val ae)) : Option (Int) := po a0 a1 some
def pj (a0 : Val fW) (k : Int → Option ρ) : Option ρ :=
  bf (b9 a0.1) fun r1 => ifb (ine r1 (0 : Int)) (k r1) (ifb (!((fo a0.2.1.1 (0 : Int)) && ((fo a0.2.1.2 (0 : Int)) && true))) (k (1 : Int)) (ifb a0.2.2.1 (k (1 : Int)) (ifb (ine a0.2.2.2.1 (0 : Int)) (k (1 : Int)) (bf (df a0.1) fun r2 => bf (kY r2.1 a0.2.2.2.2) fun r3 => ifb (ine r3 (0 : Int)) (k (8 : Int)) (k (0 : Int))))))
def kX (a0 : Val fW) : Option (Int) := pj a0 some
def cm (c0 : (Val ac)) (c1 : Int) (c2 : Int) (c3 : Int) (c4 : Int) (c5 : Int) (c6 : Int) (c7 : Int) (c8 : Int) (c9 : Int) (v0 : Int) (kn : Int → Option ρ) (k0 : Int → Option ρ) (k1 : Unit → Option ρ) : Option ρ :=
  ifb (ilt v0 c1) (dn c0 v0 fun e1 => ifb ((fo c2 e1.1) && ((fo c3 e1.2.1) && ((fo c4 e1.2.2.1) && ((fo c5 e1.2.2.2.1.1) && ((fo c6 e1.2.2.2.1.2) && ((fo c7 e1.2.2.2.2.1.1) && ((fo c8 e1.2.2.2.2.1.2) && ((fo c9 e1.2.2.2.2.2) && true)))))))) (k0 v0) (ck (v0 + (1 : Int)) fun n2 => kn n2)) (k1 ())
def eJ (a0 : (Val ac)) (a1 : Val br) (k : Int → Option ρ) : Option ρ :=
  bw (fun (v5 : Int) kk7 => cm a0 (bK a0) a1.1 a1.2.1 a1.2.2.1 a1.2.2.2.1.1 a1.2.2.2.1.2 a1.2.2.2.2.1.1 a1.2.2.2.2.1.2 a1.2.2.2.2.2 v5 (fun u6 => kk7 u6) (fun z3 => k z3) (fun _ => k (-1 : Int))) (0 : Int)
def eM (a0 : (Val ac)) (a1 : Val br) : Option (Int) := eJ a0 a1 some
def dM (a0 : (Val ac)) (a1 : Val br) (k : Bool → Option ρ) : Option ρ :=
  bf (eM a0 a1) fun r1 => k (ige r1 (0 : Int))
def cX (a0 : (Val ac)) (a1 : Val br) : Option (Bool) := dM a0 a1 some
def cH (c0 : (Val aa)) (c1 : Int) (c2 : Int) (c3 : Int) (v0 : Int) (kn : Int → Option ρ) (k0 : Int → Option ρ) (k1 : Unit → Option ρ) : Option ρ :=
  ifb (ilt v0 c1) (dn c0 v0 fun e1 => ifb ((fo c2 e1.1) && ((fo c3 e1.2) && true)) (k0 v0) (ck (v0 + (1 : Int)) fun n2 => kn n2)) (k1 ())
def fQ (a0 : (Val aa)) (a1 : Val bc) (k : Int → Option ρ) : Option ρ :=
  bw (fun (v5 : Int) kk7 => cH a0 (bK a0) a1.1 a1.2 v5 (fun u6 => kk7 u6) (fun z3 => k z3) (fun _ => k (-1 : Int))) (0 : Int)
def fT (a0 : (Val aa)) (a1 : Val bc) : Option (Int) := fQ a0 a1 some
def eP (a0 : (Val aa)) (a1 : Val bc) (k : Bool → Option ρ) : Option ρ :=
  bf (fT a0 a1) fun r1 => k (ige r1 (0 : Int))
def cN (a0 : (Val aa)) (a1 : Val bc) : Option (Bool) := eP a0 a1 some
def cq (c0 : (Val af)) (c1 : Int) (c2 : Int) (c3 : Int) (c4 : Int) (c5 : Int) (v0 : Int) (kn : Int → Option ρ) (k0 : Int → Option ρ) (k1 : Unit → Option ρ) : Option ρ :=
  ifb (ilt v0 c1) (dn c0 v0 fun e1 => ifb ((fo c2 e1.1) && ((fo c3 e1.2.1.1) && ((fo c4 e1.2.1.2) && ((fo c5 e1.2.2) && true)))) (k0 v0) (ck (v0 + (1 : Int)) fun n2 => kn n2)) (k1 ())
def ff (a0 : (Val af)) (a1 : Val dG) (k : Int → Option ρ) : Option ρ :=
  bw (fun (v5 : Int) kk7 => cq a0 (bK a0) a1.1 a1.2.1.1 a1.2.1.2 a1.2.2 v5 (fun u6 => kk7 u6) (fun z3 => k z3) (fun _ => k (-1 : Int))) (0 : Int)
def fh (a0 : (Val af)) (a1 : Val dG) : Option (Int) := ff a0 a1 some
def ee (a0 : (Val af)) (a1 : Val dG) (k : Bool → Option ρ) : Option ρ :=
  bf (fh a0 a1) fun r1 => k (ige r1 (0 : Int))
def cr (a0 : (Val af)) (a1 : Val dG) : Option (Bool) := ee a0 a1 some
def rc (c0 : (Val ac)) (c1 : Int) (v0 : Int) (v1 : (Val aj)) (kn : Int → (Val aj) → Option ρ) (k0 : (Val aj) → Option ρ) : Option ρ :=
  ifb (ilt v0 c1) (dn c0 v0 fun e1 => ck (v0 + (1 : Int)) fun n2 => kn n2 (F2 (k := tI) (v := .bool) e1.1 true v1)) (k0 v1)
def kz (c0 : (Val ae)) (c1 : (Val ae)) (c2 : Int) (v0 : Int) (kn : Int → Option ρ) (k0 : Bool → Option ρ) (k1 : Unit → Option ρ) : Option ρ :=
  ifb (ilt v0 c2) (dn c0 v0 fun e7 => dn c1 v0 fun e8 => ifb (ine e7 e8) (k0 false) (ck (v0 + (1 : Int)) fun n9 => kn n9)) (k1 ())
def qZ (c0 : (Val ae)) (c1 : (Val ae)) (c2 : Int) (v0 : Int) (kn : Int → Option ρ) (k0 : Bool → Option ρ) (k1 : Unit → Option ρ) : Option ρ :=
  ifb (ilt v0 c2) (dn c0 v0 fun e12 => dn c1 v0 fun e13 => ifb (ine e12 e13) (k0 false) (ck (v0 + (1 : Int)) fun n14 => kn n14)) (k1 ())
def np (c0 : (Val ab)) (c1 : Int) (c17 : Int) (c18 : Int) (c19 : (Val ae)) (c20 : (Val ae)) (c21 : Int) (c22 : Int) (c23 : Int) (c24 : Int) (v0 : Int) (kn : Int → Option ρ) (k0 : Int → Option ρ) (k1 : Unit → Option ρ) : Option ρ :=
  ifb (ilt v0 c1) (dn c0 v0 fun e5 => ifb (ieq c17 e5.1) (ifb (ieq c18 e5.2.1) (ifb (ieq c21 e5.2.2.2.2.1) (ifb (ieq c22 e5.2.2.2.2.2.1) (ifb ((fo c23 e5.2.2.2.2.2.2.1) && ((fo c24 e5.2.2.2.2.2.2.2) && true)) (ifb (ine (bK c19) (bK e5.2.2.1)) (ck (v0 + (1 : Int)) fun n6 => kn n6) (bw (fun (v30 : Int) kk32 => kz c19 e5.2.2.1 (bK c19) v30 (fun u31 => kk32 u31) (fun z10 => ifb z10 (ifb (ine (bK c20) (bK e5.2.2.2.1)) (ck (v0 + (1 : Int)) fun n11 => kn n11) (bw (fun (v18 : Int) kk20 => qZ c20 e5.2.2.2.1 (bK c20) v18 (fun u19 => kk20 u19) (fun z15 => ifb z15 (k0 v0) (ck (v0 + (1 : Int)) fun n16 => kn n16)) (fun _ => k0 v0)) (0 : Int))) (ck (v0 + (1 : Int)) fun n21 => kn n21)) (fun _ => ifb (ine (bK c20) (bK e5.2.2.2.1)) (ck (v0 + (1 : Int)) fun n23 => kn n23) (bw (fun (v27 : Int) kk29 => qZ c20 e5.2.2.2.1 (bK c20) v27 (fun u28 => kk29 u28) (fun z24 => ifb z24 (k0 v0) (ck (v0 + (1 : Int)) fun n25 => kn n25)) (fun _ => k0 v0)) (0 : Int)))) (0 : Int))) (ck (v0 + (1 : Int)) fun n33 => kn n33)) (ck (v0 + (1 : Int)) fun n34 => kn n34)) (ck (v0 + (1 : Int)) fun n35 => kn n35)) (ck (v0 + (1 : Int)) fun n36 => kn n36)) (ck (v0 + (1 : Int)) fun n37 => kn n37)) (k1 ())
def nq (c0 : (Val ab)) (c1 : Int) (c14 : (Val ab)) (v0 : Int) (kn : Int → Option ρ) (k0 : Bool → Option ρ) (k1 : Unit → Option ρ) : Option ρ :=
  ifb (ilt v0 c1) (dn c0 v0 fun e4 => bw (fun (v41 : Int) kk43 => np c14 (bK c14) e4.1 e4.2.1 e4.2.2.1 e4.2.2.2.1 e4.2.2.2.2.1 e4.2.2.2.2.2.1 e4.2.2.2.2.2.2.1 e4.2.2.2.2.2.2.2 v41 (fun u42 => kk43 u42) (fun z38 => ifb (!(ige z38 (0 : Int))) (k0 false) (ck (v0 + (1 : Int)) fun n39 => kn n39)) (fun _ => k0 false)) (0 : Int)) (k1 ())
def nl (c0 : (Val ac)) (c1 : Int) (c17 : (Val ac)) (v0 : Int) (kn : Int → Option ρ) (k0 : Int → Option ρ) (k1 : Unit → Option ρ) : Option ρ :=
  ifb (ilt v0 c1) (dn c0 v0 fun e46 => bf (cX c17 e46) fun r47 => ifb (!r47) (k0 v0) (ck (v0 + (1 : Int)) fun n48 => kn n48)) (k1 ())
def jb (c0 : (Val aa)) (c1 : Int) (c16 : (Val aj)) (c18 : (Val aa)) (v0 : Int) (kn : Int → Option ρ) (k0 : Int → Option ρ) (k1 : Unit → Option ρ) : Option ρ :=
  ifb (ilt v0 c1) (dn c0 v0 fun e50 => PF (k := tI) (v := .bool) e50.1 c16 (fun y51 => ifb y51 (bf (cN c18 e50) fun r52 => ifb (!r52) (k0 v0) (ck (v0 + (1 : Int)) fun n53 => kn n53)) (ck (v0 + (1 : Int)) fun n54 => kn n54)) (ck (v0 + (1 : Int)) fun n55 => kn n55)) (k1 ())
def ky (c0 : (Val aa)) (c1 : Int) (c16 : (Val aj)) (c19 : (Val aa)) (v0 : Int) (kn : Int → Option ρ) (k0 : Int → Option ρ) (k1 : Unit → Option ρ) : Option ρ :=
  ifb (ilt v0 c1) (dn c0 v0 fun e57 => PF (k := tI) (v := .bool) e57.1 c16 (fun y58 => ifb y58 (bf (cN c19 e57) fun r59 => ifb (!r59) (k0 v0) (ck (v0 + (1 : Int)) fun n60 => kn n60)) (ck (v0 + (1 : Int)) fun n61 => kn n61)) (ck (v0 + (1 : Int)) fun n62 => kn n62)) (k1 ())
def dH (c0 : (Val af)) (c1 : Int) (c16 : (Val aj)) (c20 : (Val af)) (v0 : Int) (kn : Int → Option ρ) (k0 : Int → Option ρ) (k1 : Unit → Option ρ) : Option ρ :=
  ifb (ilt v0 c1) (dn c0 v0 fun e64 => PF (k := tI) (v := .bool) e64.1 c16 (fun y65 => ifb y65 (bf (cr c20 e64) fun r66 => ifb (!r66) (k0 v0) (ck (v0 + (1 : Int)) fun n67 => kn n67)) (ck (v0 + (1 : Int)) fun n68 => kn n68)) (ck (v0 + (1 : Int)) fun n69 => kn n69)) (k1 ())
def cF (c0 : (Val af)) (c1 : Int) (c16 : (Val aj)) (c21 : (Val af)) (v0 : Int) (kn : Int → Option ρ) (k0 : Int → Option ρ) (k1 : Unit → Option ρ) : Option ρ :=
  ifb (ilt v0 c1) (dn c0 v0 fun e71 => PF (k := tI) (v := .bool) e71.1 c16 (fun y72 => ifb y72 (bf (cr c21 e71) fun r73 => ifb (!r73) (k0 v0) (ck (v0 + (1 : Int)) fun n74 => kn n74)) (ck (v0 + (1 : Int)) fun n75 => kn n75)) (ck (v0 + (1 : Int)) fun n76 => kn n76)) (k1 ())
def ND (a0 : Val bg) (a1 : Val bg) (k : Bool → Option ρ) : Option ρ :=
  bw (fun (v231 : (Val (.pair tI aj))) kk234 => rc a0.2.1 (bK a0.2.1) v231.1 v231.2 (fun u232 u233 => kk234 (u232, u233)) (fun z3 => bw (fun (v228 : Int) kk230 => nq a0.2.2.2.2.1 (bK a0.2.2.2.2.1) a1.2.2.2.2.1 v228 (fun u229 => kk230 u229) (fun z44 => k z44) (fun _ => ifb ((fo a0.1.1 a1.1.1) && ((fo a0.1.2 a1.1.2) && true)) (bw (fun (v225 : Int) kk227 => nl a0.2.1 (bK a0.2.1) a1.2.1 v225 (fun u226 => kk227 u226) (fun z49 => ifb (!(ige z49 (0 : Int))) (bw (fun (v146 : Int) kk148 => jb a0.2.2.1 (bK a0.2.2.1) z3 a1.2.2.1 v146 (fun u147 => kk148 u147) (fun z56 => ifb (!(ige z56 (0 : Int))) (bw (fun (v107 : Int) kk109 => ky a1.2.2.1 (bK a1.2.2.1) z3 a0.2.2.1 v107 (fun u108 => kk109 u108) (fun z63 => ifb (!(ige z63 (0 : Int))) (bw (fun (v88 : Int) kk90 => dH a0.2.2.2.1 (bK a0.2.2.2.1) z3 a1.2.2.2.1 v88 (fun u89 => kk90 u89) (fun z70 => ifb (!(ige z70 (0 : Int))) (bw (fun (v79 : Int) kk81 => cF a1.2.2.2.1 (bK a1.2.2.2.1) z3 a0.2.2.2.1 v79 (fun u80 => kk81 u80) (fun z77 => k (!(ige z77 (0 : Int)))) (fun _ => k true)) (0 : Int)) (k false)) (fun _ => bw (fun (v85 : Int) kk87 => cF a1.2.2.2.1 (bK a1.2.2.2.1) z3 a0.2.2.2.1 v85 (fun u86 => kk87 u86) (fun z83 => k (!(ige z83 (0 : Int)))) (fun _ => k true)) (0 : Int))) (0 : Int)) (k false)) (fun _ => bw (fun (v104 : Int) kk106 => dH a0.2.2.2.1 (bK a0.2.2.2.1) z3 a1.2.2.2.1 v104 (fun u105 => kk106 u105) (fun z92 => ifb (!(ige z92 (0 : Int))) (bw (fun (v95 : Int) kk97 => cF a1.2.2.2.1 (bK a1.2.2.2.1) z3 a0.2.2.2.1 v95 (fun u96 => kk97 u96) (fun z93 => k (!(ige z93 (0 : Int)))) (fun _ => k true)) (0 : Int)) (k false)) (fun _ => bw (fun (v101 : Int) kk103 => cF a1.2.2.2.1 (bK a1.2.2.2.1) z3 a0.2.2.2.1 v101 (fun u102 => kk103 u102) (fun z99 => k (!(ige z99 (0 : Int)))) (fun _ => k true)) (0 : Int))) (0 : Int))) (0 : Int)) (k false)) (fun _ => bw (fun (v143 : Int) kk145 => ky a1.2.2.1 (bK a1.2.2.1) z3 a0.2.2.1 v143 (fun u144 => kk145 u144) (fun z111 => ifb (!(ige z111 (0 : Int))) (bw (fun (v124 : Int) kk126 => dH a0.2.2.2.1 (bK a0.2.2.2.1) z3 a1.2.2.2.1 v124 (fun u125 => kk126 u125) (fun z112 => ifb (!(ige z112 (0 : Int))) (bw (fun (v115 : Int) kk117 => cF a1.2.2.2.1 (bK a1.2.2.2.1) z3 a0.2.2.2.1 v115 (fun u116 => kk117 u116) (fun z113 => k (!(ige z113 (0 : Int)))) (fun _ => k true)) (0 : Int)) (k false)) (fun _ => bw (fun (v121 : Int) kk123 => cF a1.2.2.2.1 (bK a1.2.2.2.1) z3 a0.2.2.2.1 v121 (fun u122 => kk123 u122) (fun z119 => k (!(ige z119 (0 : Int)))) (fun _ => k true)) (0 : Int))) (0 : Int)) (k false)) (fun _ => bw (fun (v140 : Int) kk142 => dH a0.2.2.2.1 (bK a0.2.2.2.1) z3 a1.2.2.2.1 v140 (fun u141 => kk142 u141) (fun z128 => ifb (!(ige z128 (0 : Int))) (bw (fun (v131 : Int) kk133 => cF a1.2.2.2.1 (bK a1.2.2.2.1) z3 a0.2.2.2.1 v131 (fun u132 => kk133 u132) (fun z129 => k (!(ige z129 (0 : Int)))) (fun _ => k true)) (0 : Int)) (k false)) (fun _ => bw (fun (v137 : Int) kk139 => cF a1.2.2.2.1 (bK a1.2.2.2.1) z3 a0.2.2.2.1 v137 (fun u138 => kk139 u138) (fun z135 => k (!(ige z135 (0 : Int)))) (fun _ => k true)) (0 : Int))) (0 : Int))) (0 : Int))) (0 : Int)) (k false)) (fun _ => bw (fun (v222 : Int) kk224 => jb a0.2.2.1 (bK a0.2.2.1) z3 a1.2.2.1 v222 (fun u223 => kk224 u223) (fun z150 => ifb (!(ige z150 (0 : Int))) (bw (fun (v183 : Int) kk185 => ky a1.2.2.1 (bK a1.2.2.1) z3 a0.2.2.1 v183 (fun u184 => kk185 u184) (fun z151 => ifb (!(ige z151 (0 : Int))) (bw (fun (v164 : Int) kk166 => dH a0.2.2.2.1 (bK a0.2.2.2.1) z3 a1.2.2.2.1 v164 (fun u165 => kk166 u165) (fun z152 => ifb (!(ige z152 (0 : Int))) (bw (fun (v155 : Int) kk157 => cF a1.2.2.2.1 (bK a1.2.2.2.1) z3 a0.2.2.2.1 v155 (fun u156 => kk157 u156) (fun z153 => k (!(ige z153 (0 : Int)))) (fun _ => k true)) (0 : Int)) (k false)) (fun _ => bw (fun (v161 : Int) kk163 => cF a1.2.2.2.1 (bK a1.2.2.2.1) z3 a0.2.2.2.1 v161 (fun u162 => kk163 u162) (fun z159 => k (!(ige z159 (0 : Int)))) (fun _ => k true)) (0 : Int))) (0 : Int)) (k false)) (fun _ => bw (fun (v180 : Int) kk182 => dH a0.2.2.2.1 (bK a0.2.2.2.1) z3 a1.2.2.2.1 v180 (fun u181 => kk182 u181) (fun z168 => ifb (!(ige z168 (0 : Int))) (bw (fun (v171 : Int) kk173 => cF a1.2.2.2.1 (bK a1.2.2.2.1) z3 a0.2.2.2.1 v171 (fun u172 => kk173 u172) (fun z169 => k (!(ige z169 (0 : Int)))) (fun _ => k true)) (0 : Int)) (k false)) (fun _ => bw (fun (v177 : Int) kk179 => cF a1.2.2.2.1 (bK a1.2.2.2.1) z3 a0.2.2.2.1 v177 (fun u178 => kk179 u178) (fun z175 => k (!(ige z175 (0 : Int)))) (fun _ => k true)) (0 : Int))) (0 : Int))) (0 : Int)) (k false)) (fun _ => bw (fun (v219 : Int) kk221 => ky a1.2.2.1 (bK a1.2.2.1) z3 a0.2.2.1 v219 (fun u220 => kk221 u220) (fun z187 => ifb (!(ige z187 (0 : Int))) (bw (fun (v200 : Int) kk202 => dH a0.2.2.2.1 (bK a0.2.2.2.1) z3 a1.2.2.2.1 v200 (fun u201 => kk202 u201) (fun z188 => ifb (!(ige z188 (0 : Int))) (bw (fun (v191 : Int) kk193 => cF a1.2.2.2.1 (bK a1.2.2.2.1) z3 a0.2.2.2.1 v191 (fun u192 => kk193 u192) (fun z189 => k (!(ige z189 (0 : Int)))) (fun _ => k true)) (0 : Int)) (k false)) (fun _ => bw (fun (v197 : Int) kk199 => cF a1.2.2.2.1 (bK a1.2.2.2.1) z3 a0.2.2.2.1 v197 (fun u198 => kk199 u198) (fun z195 => k (!(ige z195 (0 : Int)))) (fun _ => k true)) (0 : Int))) (0 : Int)) (k false)) (fun _ => bw (fun (v216 : Int) kk218 => dH a0.2.2.2.1 (bK a0.2.2.2.1) z3 a1.2.2.2.1 v216 (fun u217 => kk218 u217) (fun z204 => ifb (!(ige z204 (0 : Int))) (bw (fun (v207 : Int) kk209 => cF a1.2.2.2.1 (bK a1.2.2.2.1) z3 a0.2.2.2.1 v207 (fun u208 => kk209 u208) (fun z205 => k (!(ige z205 (0 : Int)))) (fun _ => k true)) (0 : Int)) (k false)) (fun _ => bw (fun (v213 : Int) kk215 => cF a1.2.2.2.1 (bK a1.2.2.2.1) z3 a0.2.2.2.1 v213 (fun u214 => kk215 u214) (fun z211 => k (!(ige z211 (0 : Int)))) (fun _ => k true)) (0 : Int))) (0 : Int))) (0 : Int))) (0 : Int))) (0 : Int)) (k false))) (0 : Int))) ((0 : Int), [])
def BB (a0 : Val bg) (a1 : Val bg) : Option (Bool) := ND a0 a1 some
def Cy (a0 : Val bg) (a1 : Val fW) (k : (Val aE) → Option ρ) : Option ρ :=
  bf (b9 a0) fun r1 => ifb (ine r1 (0 : Int)) (k (false, r1)) (ifb ((fo a1.2.1.1 (0 : Int)) && ((fo a1.2.1.2 (0 : Int)) && true)) (bf (kX a1) fun r2 => ifb (ine r2 (0 : Int)) (k (false, r2)) (bf (BB a1.1 a0) fun r3 => k (r3, (0 : Int)))) (bf (jW a1) fun r4 => ifb (ine r4 (0 : Int)) (k (false, r4)) (bf (BB a1.1 a0) fun r5 => k (r5, (0 : Int)))))
def wa (a0 : Val bg) (a1 : Val fW) : Option ((Val aE)) := Cy a0 a1 some
def vO (c2 : Int) (v0 : Int) (v1 : (Val ae)) (kn : Int → (Val ae) → Option ρ) (k0 : (Val ae) → Option ρ) : Option ρ :=
  ifb (ilt v0 c2) (ca ((ile (0 : Int) v0) && (ilt v0 (dz v1))) (gw v1 (Int.toNat v0) fun e1 => ck (v0 + (1 : Int)) fun n2 => kn n2 (List.set v1 (Int.toNat v0) (1152921504606846976 : Int)))) (k0 v1)
def NZ (c1 : Int) (v0 : Int) (v1 : (Val ae)) (kn : Int → (Val ae) → Option ρ) (k0 : (Val ae) → Option ρ) : Option ρ :=
  ifb (ilt v0 c1) (ca ((ile (0 : Int) v0) && (ilt v0 (dz v1))) (gw v1 (Int.toNat v0) fun e7 => ck (v0 + (1 : Int)) fun n8 => kn n8 (List.set v1 (Int.toNat v0) (1152921504606846976 : Int)))) (k0 v1)
def Ay (c0 : (Val ae)) (c1 : (Val ah)) (c2 : Int) (v0 : Int) (v1 : (Val ae)) (kn : Int → (Val ae) → Option ρ) (k0 : (Val ae) → Option ρ) : Option ρ :=
  ifb (ilt v0 c2) (dn c1 v0 fun e10 => dn c0 e10.2.1 fun e11 => ifb (ine e11 (1152921504606846976 : Int)) (ca ((ile (0 : Int) e10.1) && (ilt e10.1 (dz v1))) (gw v1 (Int.toNat e10.1) fun e12 => dn c0 e10.2.1 fun e13 => ck (e10.2.2 + e13) fun n14 => ca ((ile (0 : Int) e10.1) && (ilt e10.1 (dz v1))) (gw v1 (Int.toNat e10.1) fun e15 => ck (v0 + (1 : Int)) fun n16 => kn n16 (List.set v1 (Int.toNat e10.1) (SM e12 n14))))) (ck (v0 + (1 : Int)) fun n17 => kn n17 v1)) (k0 v1)
def F5 (c0 : Int) (c1 : Int) (c2 : (Val ah)) (v0 : Int) (v1 : (Val am)) (kn : Int → (Val am) → Option ρ) (k0 : (Val am) → Option ρ) : Option ρ :=
  ifb (ilt v0 c0) (ck ((bK v1) - (1 : Int)) fun n5 => ca ((ile (0 : Int) n5) && (ilt n5 (dz v1))) (gw v1 (Int.toNat n5) fun e6 => ca ((ile (0 : Int) c1) && (bZ (Int.toNat c1))) (bw (fun (v24 : (Val ax)) kk27 => NZ (bK (List.replicate (Int.toNat c1) (0 : Int))) v24.1 v24.2 (fun u25 u26 => kk27 (u25, u26)) (fun z9 => bw (fun (v20 : (Val ax)) kk23 => Ay e6 c2 (bK c2) v20.1 v20.2 (fun u21 u22 => kk23 (u21, u22)) (fun z18 => ca (bZ ((List.length v1) + (List.length ([z18])))) (ck (v0 + (1 : Int)) fun n19 => kn n19 (v1 ++ ([z18]))))) ((0 : Int), z9))) ((0 : Int), (List.replicate (Int.toNat c1) (0 : Int)))))) (k0 v1)
def HB (a0 : Val bq) (a1 : Int) (a2 : Int) (k : (Val am) → Option ρ) : Option ρ :=
  ca ((ile (0 : Int) a0.1) && (bZ (Int.toNat a0.1))) (bw (fun (v33 : (Val ax)) kk36 => vO (bK (List.replicate (Int.toNat a0.1) (0 : Int))) v33.1 v33.2 (fun u34 u35 => kk36 (u34, u35)) (fun z3 => ca ((ile (0 : Int) a1) && (ilt a1 (dz z3))) (gw z3 (Int.toNat a1) fun e4 => bw (fun (v29 : (Val (.pair tI am))) kk32 => F5 a2 a0.1 a0.2 v29.1 v29.2 (fun u30 u31 => kk32 (u30, u31)) (fun z28 => k z28)) ((0 : Int), [(List.set z3 (Int.toNat a1) (0 : Int))])))) ((0 : Int), (List.replicate (Int.toNat a0.1) (0 : Int))))
def vk (a0 : Val bq) (a1 : Int) (a2 : Int) : Option ((Val am)) := HB a0 a1 a2 some
def En (c0 : Int) (c1 : Int) (c2 : (Val ah)) (v0 : Int) (v1 : (Val aO)) (kn : Int → (Val aO) → Option ρ) (k0 : (Val aO) → Option ρ) : Option ρ :=
  ifb (ilt v0 c0) (bf (vk (c1, c2) v0 c1) fun r3 => ca ((ile (0 : Int) v0) && (ilt v0 (dz v1))) (gw v1 (Int.toNat v0) fun e4 => ck (v0 + (1 : Int)) fun n5 => kn n5 (List.set v1 (Int.toNat v0) r3))) (k0 v1)
def Ej (c0 : Int) (c1 : (Val am)) (c2 : (Val ah)) (c3 : Int) (v0 : Int) (v1 : Int) (v2 : Int) (v3 : (Val ae)) (kn : Int → Int → Int → (Val ae) → Option ρ) (k0 : (Val (.pair tI ax)) → Option ρ) : Option ρ :=
  ifb (ilt v2 c3) (dn c2 v2 fun e16 => ifb (ieq e16.1 v0) (ck (c0 - (1 : Int)) fun n17 => dn c1 n17 fun e18 => dn e18 e16.2.1 fun e19 => ifb (ine e19 (1152921504606846976 : Int)) (ck (v1 + e16.2.2) fun n20 => ck (c0 - (1 : Int)) fun n21 => dn c1 n21 fun e22 => dn e22 e16.2.1 fun e23 => ck (n20 + e23) fun n24 => ifb (ilt n24 (0 : Int)) (ca (bZ ((List.length v3) + (List.length ([v2])))) (ck (v1 + e16.2.2) fun n25 => k0 (e16.2.1, n25, (v3 ++ ([v2]))))) (ck (v2 + (1 : Int)) fun n26 => kn v0 v1 n26 v3)) (ck (v2 + (1 : Int)) fun n27 => kn v0 v1 n27 v3)) (ck (v2 + (1 : Int)) fun n28 => kn v0 v1 n28 v3)) (k0 (v0, v1, v3))
def Ek (c0 : (Val am)) (c8 : (Val ah)) (v0 : Int) (v1 : Int) (v2 : Int) (v3 : (Val ae)) (kn : Int → Int → Int → (Val ae) → Option ρ) (k0 : (Val ae) → Option ρ) : Option ρ :=
  ifb (igt v1 (0 : Int)) (bw (fun (v31 : (Val aD)) kk36 => Ej v1 c0 c8 (bK c8) v31.1 v31.2.1 v31.2.2.1 v31.2.2.2 (fun u32 u33 u34 u35 => kk36 (u32, u33, u34, u35)) (fun z29 => ck (v1 - (1 : Int)) fun n30 => kn z29.1 n30 z29.2.1 z29.2.2)) (v0, v2, (0 : Int), v3)) (k0 v3)
def El (c0 : Int) (c1 : (Val ah)) (c2 : Int) (c3 : Int) (c4 : (Val ah)) (c5 : (Val aO)) (v0 : Int) (kn : Int → Option ρ) (k0 : Unit → Option ρ) (k1 : (Val ax) → Option ρ) (k2 : Unit → Option ρ) : Option ρ :=
  ifb (ilt v0 c2) (dn c1 v0 fun e7 => ca ((ile (0 : Int) e7.1) && (ilt e7.1 (dz c5))) (gw c5 (Int.toNat e7.1) fun e8 => ck (c0 - (1 : Int)) fun n9 => dn e8 n9 fun e10 => dn e10 e7.2.1 fun e11 => ifb (ieq e11 (1152921504606846976 : Int)) (ck (v0 + (1 : Int)) fun n12 => kn n12) (ck (e7.2.2 + e11) fun n13 => ifb (ige n13 (0 : Int)) (ck (v0 + (1 : Int)) fun n14 => kn n14) (ifb (igt c0 c3) (k0 ()) (ca ((ile (0 : Int) e7.1) && (ilt e7.1 (dz c5))) (gw c5 (Int.toNat e7.1) fun e15 => bw (fun (v38 : (Val aD)) kk43 => Ek e15 c4 v38.1 v38.2.1 v38.2.2.1 v38.2.2.2 (fun u39 u40 u41 u42 => kk43 (u39, u40, u41, u42)) (fun z37 => k1 ((0 : Int), z37))) (e7.1, c0, (0 : Int), []))))))) (k2 ())
def Em (c0 : Int) (c1 : (Val ah)) (c2 : (Val aO)) (v0 : Int) (kn : Int → Option ρ) (k0 : Unit → Option ρ) (k1 : (Val ax) → Option ρ) : Option ρ :=
  bw (fun (v48 : Int) kk50 => El v0 c1 (bK c1) c0 c1 c2 v48 (fun u49 => kk50 u49) (fun _ => k0 ()) (fun z45 => k1 (z45.1, z45.2)) (fun _ => ck (v0 + (1 : Int)) fun n47 => kn n47)) (0 : Int)
def HQ (a0 : Val bq) (k : (Val aA) → Option ρ) : Option ρ :=
  bf (jY a0) fun r1 => ifb (ine r1.1 (0 : Int)) (k ([], r1.1)) (bf (iu a0 ([])) fun r2 => ifb r2.2 (k ([], (5 : Int))) (ca ((ile (0 : Int) a0.1) && (bZ (Int.toNat a0.1))) (bw (fun (v56 : (Val (.pair tI aO))) kk59 => En (bK (List.replicate (Int.toNat a0.1) ([] : (Val am)))) a0.1 a0.2 v56.1 v56.2 (fun u57 u58 => kk59 (u57, u58)) (fun z6 => bw (fun (v53 : Int) kk55 => Em a0.1 a0.2 z6 v53 (fun u54 => kk55 u54) (fun _ => k ([], (5 : Int))) (fun z52 => k (z52.2, z52.1))) (1 : Int))) ((0 : Int), (List.replicate (Int.toNat a0.1) ([] : (Val am)))))))
def vm (a0 : Val bq) : Option ((Val aA)) := HQ a0 some
def kT (c0 : (Val aa)) (c1 : (Val ae)) (c2 : Int) (v0 : Int) (v1 : (Val aa)) (kn : Int → (Val aa) → Option ρ) (k0 : (Val aa) → Option ρ) : Option ρ :=
  ifb (ilt v0 c2) (dn c1 v0 fun e2 => dn c0 e2 fun e3 => ca (bZ ((List.length v1) + (List.length ([e3])))) (ck (v0 + (1 : Int)) fun n4 => kn n4 (v1 ++ ([e3])))) (k0 v1)
def yd (a0 : Val bg) (a1 : (Val ae)) (k : (Val aa) → Option ρ) : Option ρ :=
  bf (df a0) fun r1 => bw (fun (v6 : (Val aT)) kk9 => kT r1.2.1 a1 (bK a1) v6.1 v6.2 (fun u7 u8 => kk9 (u7, u8)) (fun z5 => k z5)) ((0 : Int), [])
def nH (a0 : Val bg) (a1 : (Val ae)) : Option ((Val aa)) := yd a0 a1 some
def Hw (a0 : Val bg) (k : (Val (.pair fW tI)) → Option ρ) : Option ρ :=
  bf (df a0) fun r1 => ifb (ine r1.2.2 (0 : Int)) (k (((((0 : Int), (0 : Int)), [], [], [], [], []), ((0 : Int), (0 : Int)), false, (0 : Int), []), r1.2.2)) (bf (vm r1.1) fun r2 => ifb (ine r2.2 (0 : Int)) (k (((((0 : Int), (0 : Int)), [], [], [], [], []), ((0 : Int), (0 : Int)), false, (0 : Int), []), r2.2)) (bf (nH a0 r2.1) fun r3 => bf (I8 a0 r3 ([])) fun r4 => bf (df r4) fun r5 => bf (vm r5.1) fun r6 => ifb (ine r6.2 (0 : Int)) (k (((((0 : Int), (0 : Int)), [], [], [], [], []), ((0 : Int), (0 : Int)), false, (0 : Int), []), r6.2)) (k ((r4, ((0 : Int), (0 : Int)), false, (0 : Int), r6.1), (0 : Int)))))
def BG (a0 : Val bg) : Option ((Val (.pair fW tI))) := Hw a0 some
def rh (a0 : Int) (k : Int → Option ρ) : Option ρ :=
  k (SN (-288230376151711744 : Int) (SM a0 (288230376151711744 : Int)))
def jV (a0 : Int) : Option (Int) := rh a0 some
def re (a0 : Val cw) (a1 : Int) (k : (Val ae) → Option ρ) : Option ρ :=
  ck (a1 - a0.2.1) fun n1 => ck (a0.2.2 - a1) fun n2 => k ([n1, n2])
def gN (a0 : Val cw) (a1 : Int) : Option ((Val ae)) := re a0 a1 some
def pd (c0 : Int) (c20 : (Val aa)) (v0 : Int) (v1 : Int) (v2 : Int) (v3 : (Val ac)) (v4 : (Val aa)) (v5 : (Val af)) (v6 : (Val ab)) (v7 : (Val aa)) (kn : Int → Int → Int → (Val ac) → (Val aa) → (Val af) → (Val ab) → (Val aa) → Option ρ) (k0 : (Val az) → Option ρ) (k1 : (Val ai) → Option ρ) : Option ρ :=
  ifb (ilt v0 c0) (ca ((ile (0 : Int) v0) && (ilt v0 (dz c20))) (gw c20 (Int.toNat v0) fun e2 => bf (dc ((v1, v2), v3, v4, v5, v6, v7) e2) fun r3 => ifb (ieq r3.2 (0 : Int)) (ck (v0 + (1 : Int)) fun n4 => kn n4 v1 v2 v3 v4 v5 v6 v7) (bf (fm ((v1, v2), v3, v4, v5, v6, v7) e2) fun r5 => ifb (ine r5.2 (0 : Int)) (k0 (r5.2, v1, v2, v3, v4, v5, v6, v7)) (ck (v0 + (1 : Int)) fun n6 => kn n6 r5.1.1.1 r5.1.1.2 r5.1.2.1 r5.1.2.2.1 r5.1.2.2.2.1 r5.1.2.2.2.2.1 r5.1.2.2.2.2.2)))) (k1 (v1, v2, v3, v4, v5, v6, v7))
def kU (c0 : (Val ae)) (c1 : Int) (c11 : Int) (c12 : Int) (c31 : Int) (c32 : Int) (c33 : Int) (c34 : Int) (c35 : Int) (c36 : Int) (c37 : Int) (c38 : Int) (v0 : Int) (kn : Int → Option ρ) (k0 : Int → Option ρ) (k1 : Unit → Option ρ) : Option ρ :=
  ifb (ilt v0 c1) (dn c0 v0 fun e26 => bf (dY ((c31, c32), (c33, c34, c35), c36, c37, c38) e26) fun r27 => bf (nF r27 (c11, c12)) fun r28 => ifb (ieq r28 (3 : Int)) (k0 v0) (ck (v0 + (1 : Int)) fun n29 => kn n29)) (k1 ())
def yj (a0 : Val bg) (a1 : Val bc) (a2 : Val bc) (a3 : Val bp) (k : (Val aE) → Option ρ) : Option ρ :=
  bf (b9 a0) fun r1 => ifb (ine r1 (0 : Int)) (ifb (ine r1 (0 : Int)) (k (false, r1)) (ca (igt a2.1 a2.2) (k (false, (1 : Int))))) (bw (fun (v35 : (Val az)) kk44 => pd (bK ([a1])) ([a1]) v35.1 v35.2.1 v35.2.2.1 v35.2.2.2.1 v35.2.2.2.2.1 v35.2.2.2.2.2.1 v35.2.2.2.2.2.2.1 v35.2.2.2.2.2.2.2 (fun u36 u37 u38 u39 u40 u41 u42 u43 => kk44 (u36, u37, u38, u39, u40, u41, u42, u43)) (fun z7 => ifb (ine z7.1 (0 : Int)) (k (false, z7.1)) (ca (igt a2.1 a2.2) (k (false, (1 : Int))))) (fun z8 => bf (df ((z8.1, z8.2.1), z8.2.2)) fun r9 => ifb (ine r9.2.2 (0 : Int)) (ifb (ine r9.2.2 (0 : Int)) (k (false, r9.2.2)) (ca (igt a2.1 a2.2) (k (false, (1 : Int))))) (bf (cD r9.1) fun r10 => ifb (!r10.1) (k (false, (9 : Int))) (ifb (igt a2.1 a2.2) (k (false, (1 : Int))) (bf (qz (((z8.1, z8.2.1), z8.2.2), r9.1) a1 a3) fun r11 => ifb (ine r11.2 (0 : Int)) (k (false, r11.2)) (bf (gM r11.1.2.1) fun r12 => bf (gM r11.1.2.2) fun r13 => bf (bR ([r12, r13])) fun r14 => bf (jV a2.1) fun r15 => bf (jV a2.2) fun r16 => bf (gN r11.1.2.1 r15) fun r17 => ck (0 - r15) fun n18 => bf (gN r11.1.2.2 n18) fun r19 => bf (bR ([r14, r17, r19])) fun r20 => bf (gN r11.1.2.1 r16) fun r21 => ck (0 - r16) fun n22 => bf (gN r11.1.2.2 n22) fun r23 => bf (bR ([r20, r21, r23])) fun r24 => bf (iU r11.1 r24) fun r25 => bw (fun (v32 : Int) kk34 => kU r25 (bK r25) r15 r16 r11.1.1.1 r11.1.1.2 r11.1.2.1.1 r11.1.2.1.2.1 r11.1.2.1.2.2 r11.1.2.2.1 r11.1.2.2.2.1 r11.1.2.2.2.2 v32 (fun u33 => kk34 u33) (fun z30 => k ((!(ige z30 (0 : Int))), (0 : Int))) (fun _ => k (true, (0 : Int)))) (0 : Int))))))) ((0 : Int), a0.1.1, a0.1.2, a0.2.1, a0.2.2.1, a0.2.2.2.1, a0.2.2.2.2.1, a0.2.2.2.2.2))
def nI (a0 : Val bg) (a1 : Val bc) (a2 : Val bc) (a3 : Val bp) : Option ((Val aE)) := yj a0 a1 a2 a3 some
def tU (k : Val bg → Option ρ) : Option ρ :=
  k (((0 : Int), (2 : Int)), [((1 : Int), (0 : Int), (1000 : Int), ((-5 : Int), (5 : Int)), ((1 : Int), (10 : Int)), (1 : Int)), ((2 : Int), (0 : Int), (1000 : Int), ((-50 : Int), (50 : Int)), ((1 : Int), (4 : Int)), (0 : Int))], [((1 : Int), (10 : Int))], [((1 : Int), ((20 : Int), (29 : Int)), (3 : Int))], [((7 : Int), (10 : Int), [(1 : Int)], [(2 : Int)], (-20 : Int), (1 : Int), (100 : Int), (200 : Int))], [])
def vi : Option (Val bg) := tU some
def oD (c0 : (Val am)) (c1 : Int) (c4 : Int) (c5 : Int) (v0 : Int) (kn : Int → Option ρ) (k0 : Int → Option ρ) (k1 : Unit → Option ρ) : Option ρ :=
  ifb (ilt v0 c1) (dn c0 v0 fun e3 => dn e3 c4 fun e4 => ifb (ieq e4 c5) (k0 v0) (ck (v0 + (1 : Int)) fun n5 => kn n5)) (k1 ())
def Eo (c0 : Int) (c1 : (Val am)) (c2 : (Val ah)) (c3 : Int) (c7 : Int) (v0 : Int) (v1 : Int) (v2 : Int) (v3 : (Val ae)) (kn : Int → Int → Int → (Val ae) → Option ρ) (k0 : (Val (.pair tI ax)) → Option ρ) : Option ρ :=
  ifb (ilt v2 c3) (dn c2 v2 fun e7 => ifb (ieq e7.1 v0) (ck (c0 - (1 : Int)) fun n8 => dn c1 n8 fun e9 => dn e9 e7.2.1 fun e10 => ifb (ine e10 (1152921504606846976 : Int)) (ck (v1 + e7.2.2) fun n11 => ck (c0 - (1 : Int)) fun n12 => dn c1 n12 fun e13 => dn e13 e7.2.1 fun e14 => ck (n11 + e14) fun n15 => ifb (ieq n15 c7) (ca (bZ ((List.length v3) + (List.length ([v2])))) (ck (v1 + e7.2.2) fun n16 => k0 (e7.2.1, n16, (v3 ++ ([v2]))))) (ck (v2 + (1 : Int)) fun n17 => kn v0 v1 n17 v3)) (ck (v2 + (1 : Int)) fun n18 => kn v0 v1 n18 v3)) (ck (v2 + (1 : Int)) fun n19 => kn v0 v1 n19 v3)) (k0 (v0, v1, v3))
def oC (c0 : (Val am)) (c4 : Int) (c6 : (Val ah)) (v0 : Int) (v1 : Int) (v2 : Int) (v3 : (Val ae)) (kn : Int → Int → Int → (Val ae) → Option ρ) (k0 : (Val ae) → Option ρ) : Option ρ :=
  ifb (igt v1 (0 : Int)) (bw (fun (v22 : (Val aD)) kk27 => Eo v1 c0 c6 (bK c6) c4 v22.1 v22.2.1 v22.2.2.1 v22.2.2.2 (fun u23 u24 u25 u26 => kk27 (u23, u24, u25, u26)) (fun z20 => ck (v1 - (1 : Int)) fun n21 => kn z20.1 n21 z20.2.1 z20.2.2)) (v0, v2, (0 : Int), v3)) (k0 v3)
def HX (a0 : Val bq) (a1 : Int) (a2 : Int) (k : (Val aA) → Option ρ) : Option ρ :=
  bf (lN a0 a1 a2) fun r1 => ifb (ine r1.2 (0 : Int)) (k ([], r1.2)) (bf (vk a0 a2 a0.1) fun r2 => bw (fun (v43 : Int) kk45 => oD r2 (bK r2) a1 r1.1 v43 (fun u44 => kk45 u44) (fun z6 => bw (fun (v29 : (Val aD)) kk34 => oC r2 r1.1 a0.2 v29.1 v29.2.1 v29.2.2.1 v29.2.2.2 (fun u30 u31 u32 u33 => kk34 (u30, u31, u32, u33)) (fun z28 => k (z28, (0 : Int)))) (a1, z6, (0 : Int), [])) (fun _ => bw (fun (v37 : (Val aD)) kk42 => oC r2 r1.1 a0.2 v37.1 v37.2.1 v37.2.2.1 v37.2.2.2 (fun u38 u39 u40 u41 => kk42 (u38, u39, u40, u41)) (fun z36 => k (z36, (0 : Int)))) (a1, (-1 : Int), (0 : Int), []))) (0 : Int))
def vn (a0 : Val bq) (a1 : Int) (a2 : Int) : Option ((Val aA)) := HX a0 a1 a2 some
def ro (a0 : (Val au)) (a1 : (Val aR)) (a2 : (Val (.ptr .bool))) (k : (Val ae) → Option ρ) : Option ρ :=
  bf (fi a0 a1) fun r1 => ifb a2 (bf (vn a0.2 (0 : Int) r1) fun r2 => k r2.1) (bf (vn a0.2 r1 (0 : Int)) fun r3 => k r3.1)
def jX (a0 : (Val au)) (a1 : (Val aR)) (a2 : (Val (.ptr .bool))) : Option ((Val ae)) := ro a0 a1 a2 some
def pl (c0 : Int) (c14 : (Val aa)) (v0 : Int) (v1 : Int) (v2 : Int) (v3 : (Val ac)) (v4 : (Val aa)) (v5 : (Val af)) (v6 : (Val ab)) (v7 : (Val aa)) (kn : Int → Int → Int → (Val ac) → (Val aa) → (Val af) → (Val ab) → (Val aa) → Option ρ) (k0 : (Val az) → Option ρ) (k1 : (Val ai) → Option ρ) : Option ρ :=
  ifb (ilt v0 c0) (ca ((ile (0 : Int) v0) && (ilt v0 (dz c14))) (gw c14 (Int.toNat v0) fun e2 => bf (dc ((v1, v2), v3, v4, v5, v6, v7) e2) fun r3 => ifb (ieq r3.2 (0 : Int)) (ck (v0 + (1 : Int)) fun n4 => kn n4 v1 v2 v3 v4 v5 v6 v7) (bf (fm ((v1, v2), v3, v4, v5, v6, v7) e2) fun r5 => ifb (ine r5.2 (0 : Int)) (k0 (r5.2, v1, v2, v3, v4, v5, v6, v7)) (ck (v0 + (1 : Int)) fun n6 => kn n6 r5.1.1.1 r5.1.1.2 r5.1.2.1 r5.1.2.2.1 r5.1.2.2.2.1 r5.1.2.2.2.2.1 r5.1.2.2.2.2.2)))) (k1 (v1, v2, v3, v4, v5, v6, v7))
def pk (c0 : Int) (v0 : Int) (kn : Int → Option ρ) (k0 : Unit → Option ρ) : Option ρ :=
  ifb (ilt v0 c0) (none) (k0 ())
def ym (a0 : Val bg) (a1 : Val bc) (a2 : Bool) (k : (Val (.pair fW tI)) → Option ρ) : Option ρ :=
  bf (b9 a0) fun r1 => ifb (ine r1 (0 : Int)) (ca (ine r1 (0 : Int)) (k (((((0 : Int), (0 : Int)), [], [], [], [], []), ((0 : Int), (0 : Int)), false, (0 : Int), []), r1))) (bw (fun (v26 : (Val az)) kk35 => pl (bK ([a1])) ([a1]) v26.1 v26.2.1 v26.2.2.1 v26.2.2.2.1 v26.2.2.2.2.1 v26.2.2.2.2.2.1 v26.2.2.2.2.2.2.1 v26.2.2.2.2.2.2.2 (fun u27 u28 u29 u30 u31 u32 u33 u34 => kk35 (u27, u28, u29, u30, u31, u32, u33, u34)) (fun z7 => ca (ine z7.1 (0 : Int)) (k (((((0 : Int), (0 : Int)), [], [], [], [], []), ((0 : Int), (0 : Int)), false, (0 : Int), []), z7.1))) (fun z8 => bf (df ((z8.1, z8.2.1), z8.2.2)) fun r9 => ifb (ine r9.2.2 (0 : Int)) (ca (ine r9.2.2 (0 : Int)) (k (((((0 : Int), (0 : Int)), [], [], [], [], []), ((0 : Int), (0 : Int)), false, (0 : Int), []), r9.2.2))) (bf (cD r9.1) fun r10 => ifb (!r10.1) (k (((((0 : Int), (0 : Int)), [], [], [], [], []), ((0 : Int), (0 : Int)), false, (0 : Int), []), (9 : Int))) (bf (jX (((z8.1, z8.2.1), z8.2.2), r9.1) a1 a2) fun r11 => bf (nH ((z8.1, z8.2.1), z8.2.2) r11) fun r12 => bf (I8 ((z8.1, z8.2.1), z8.2.2) r12 ([a1])) fun r13 => bf (b9 r13) fun r14 => ifb (ine r14 (0 : Int)) (ifb (ine r14 (0 : Int)) (k (((((0 : Int), (0 : Int)), [], [], [], [], []), ((0 : Int), (0 : Int)), false, (0 : Int), []), r14)) (bf (fU (((z8.1, z8.2.1), z8.2.2), r9.1) a1) fun r15 => none)) (bw (fun (v23 : Int) kk25 => pk (0 : Int) v23 (fun u24 => kk25 u24) (fun _ => bf (df r13) fun r17 => ifb (ine r17.2.2 (0 : Int)) (ifb (ine r17.2.2 (0 : Int)) (k (((((0 : Int), (0 : Int)), [], [], [], [], []), ((0 : Int), (0 : Int)), false, (0 : Int), []), r17.2.2)) (bf (fU (((z8.1, z8.2.1), z8.2.2), r9.1) a1) fun r18 => none)) (bf (cD r17.1) fun r19 => ifb (!r19.1) (k (((((0 : Int), (0 : Int)), [], [], [], [], []), ((0 : Int), (0 : Int)), false, (0 : Int), []), (9 : Int))) (bf (fU (((z8.1, z8.2.1), z8.2.2), r9.1) a1) fun r20 => bf (jX (r13, r17.1) a1 a2) fun r21 => ifb a2 (bf (gq (((z8.1, z8.2.1), z8.2.2), r9.1) a1) fun r22 => k ((r13, a1, a2, r22, r21), (0 : Int))) (k ((r13, a1, a2, r20, r21), (0 : Int))))))) (0 : Int)))))) ((0 : Int), a0.1.1, a0.1.2, a0.2.1, a0.2.2.1, a0.2.2.2.1, a0.2.2.2.2.1, a0.2.2.2.2.2))
def se (a0 : Val bg) (a1 : Val bc) (a2 : Bool) : Option ((Val (.pair fW tI))) := ym a0 a1 a2 some
def xW (k : Bool → Option ρ) : Option ρ :=
  bf vi fun r1 => bf (jp r1 ((2 : Int), (10 : Int))) fun r2 => bf (jp r1 ((1 : Int), (30 : Int))) fun r3 => bf (nJ r1 ((1 : Int), (10 : Int)) ((2 : Int), (10 : Int))) fun r4 => bf (Gf r1 (10 : Int) ([(1 : Int), (2 : Int)])) fun r5 => bf (BF r1 ((2 : Int), (0 : Int)) ((990 : Int), (1010 : Int))) fun r6 => bf (se r1 ((2 : Int), (10 : Int)) true) fun r7 => ifb (ine r2.2 (0 : Int)) (k false) (ifb (ine r3.2 (0 : Int)) (k false) (ifb (ine r4.2 (0 : Int)) (k false) (ifb (ine r5.2 (0 : Int)) (k false) (ifb (ine r6.2 (0 : Int)) (k false) (ifb (ine r7.2 (0 : Int)) (k false) (ifb (!((fo r2.1.1 (984 : Int)) && ((fo r2.1.2 (1011 : Int)) && true))) (k false) (ifb (!((fo r3.1.1 (964 : Int)) && ((fo r3.1.2 (1005 : Int)) && true))) (k false) (ifb (!((fo r4.1.1 (-6 : Int)) && ((fo r4.1.2 (11 : Int)) && true))) (k false) (ifb (!((fo r5.1.1 (1979 : Int)) && ((fo r5.1.2 (2018 : Int)) && true))) (k false) (ifb (ine r6.1 (3 : Int)) (k false) (ifb (ine r7.1.2.2.2.1 (1011 : Int)) (k false) (bf (vj r1 ((2 : Int), (10 : Int)) ((8 : Int), (10 : Int), [(1 : Int)], [(2 : Int)], (0 : Int), (0 : Int), (0 : Int), (0 : Int))) fun r8 => bf (nI r1 ((2 : Int), (10 : Int)) ((900 : Int), (1100 : Int)) ((8 : Int), (10 : Int), [(1 : Int)], [(2 : Int)], (0 : Int), (0 : Int), (0 : Int), (0 : Int))) fun r9 => bf (wa r1 r7.1) fun r10 => bf (BG r1) fun r11 => ifb (ieq r8.2 (0 : Int)) (ifb (ieq r9.2 (0 : Int)) (ifb (ieq r10.2 (0 : Int)) (ifb (ieq r11.2 (5 : Int)) (ifb (ieq r8.1 (10 : Int)) (ifb r9.1 (ifb r10.1 (bf (jW r7.1) fun r12 => k (ieq r12 (0 : Int))) (k false)) (k false)) (k false)) (k false)) (k false)) (k false)) (k false)))))))))))))
def gL : Option (Bool) := xW some
def lj (c0 : (Val aa)) (v0 : Int) (v1 : Int) (v2 : Int) (v3 : (Val ac)) (v4 : (Val aa)) (v5 : (Val af)) (v6 : (Val ab)) (v7 : (Val aa)) (v8 : Int) (v9 : Int) (v10 : (Val ac)) (v11 : (Val aa)) (v12 : (Val af)) (v13 : (Val ab)) (v14 : (Val aa)) (kn : Int → Int → Int → (Val ac) → (Val aa) → (Val af) → (Val ab) → (Val aa) → Int → Int → (Val ac) → (Val aa) → (Val af) → (Val ab) → (Val aa) → Option ρ) (k0 : (Val (.pair .bool ay)) → Option ρ) (k1 : (Val ay) → Option ρ) : Option ρ :=
  ifb (ilt v0 (bK c0)) (dn c0 v0 fun e1 => bf (dc ((v1, v2), v3, v4, v5, v6, v7) e1) fun r2 => ifb (ieq r2.2 (0 : Int)) (ck (v0 + (1 : Int)) fun n3 => kn n3 v1 v2 v3 v4 v5 v6 v7 v8 v9 v10 v11 v12 v13 v14) (dn c0 v0 fun e4 => bf (fm ((v1, v2), v3, v4, v5, v6, v7) e4) fun r5 => ifb (ine r5.2 (0 : Int)) (k0 (false, v1, v2, v3, v4, v5, v6, v7, v1, v2, v3, v4, v5, v6, v7)) (ck (v0 + (1 : Int)) fun n6 => kn n6 r5.1.1.1 r5.1.1.2 r5.1.2.1 r5.1.2.2.1 r5.1.2.2.2.1 r5.1.2.2.2.2.1 r5.1.2.2.2.2.2 v8 v9 v10 v11 v12 v13 v14))) (k1 (v1, v2, v3, v4, v5, v6, v7, v8, v9, v10, v11, v12, v13, v14))
def zE (a0 : Val bg) (a1 : (Val aa)) (k : (Val (.pair bg .bool)) → Option ρ) : Option ρ :=
  bw (fun (v9 : (Val (.pair tI ay))) kk25 => lj a1 v9.1 v9.2.1 v9.2.2.1 v9.2.2.2.1 v9.2.2.2.2.1 v9.2.2.2.2.2.1 v9.2.2.2.2.2.2.1 v9.2.2.2.2.2.2.2.1 v9.2.2.2.2.2.2.2.2.1 v9.2.2.2.2.2.2.2.2.2.1 v9.2.2.2.2.2.2.2.2.2.2.1 v9.2.2.2.2.2.2.2.2.2.2.2.1 v9.2.2.2.2.2.2.2.2.2.2.2.2.1 v9.2.2.2.2.2.2.2.2.2.2.2.2.2.1 v9.2.2.2.2.2.2.2.2.2.2.2.2.2.2 (fun u10 u11 u12 u13 u14 u15 u16 u17 u18 u19 u20 u21 u22 u23 u24 => kk25 (u10, u11, u12, u13, u14, u15, u16, u17, u18, u19, u20, u21, u22, u23, u24)) (fun z7 => k (((z7.2.2.2.2.2.2.2.2.1, z7.2.2.2.2.2.2.2.2.2.1), z7.2.2.2.2.2.2.2.2.2.2), z7.1)) (fun z8 => k (((z8.1, z8.2.1), z8.2.2.1, z8.2.2.2.1, z8.2.2.2.2.1, z8.2.2.2.2.2.1, z8.2.2.2.2.2.2.1), true))) ((0 : Int), a0.1.1, a0.1.2, a0.2.1, a0.2.2.1, a0.2.2.2.1, a0.2.2.2.2.1, a0.2.2.2.2.2, (0 : Int), (0 : Int), [], [], [], [], [])
def nB (a0 : Val bg) (a1 : (Val aa)) : Option ((Val (.pair bg .bool))) := zE a0 a1 some
def gd (c0 : (Val ae)) (c1 : Int) (v0 : Int) (kn : Int → Option ρ) (k0 : Int → Option ρ) (k1 : Unit → Option ρ) : Option ρ :=
  ifb (ilt v0 c1) (dn c0 v0 fun e1 => bf (cE e1 (-4503599627370496 : Int) (4503599627370496 : Int)) fun r2 => ifb (!r2) (k0 v0) (ck (v0 + (1 : Int)) fun n3 => kn n3)) (k1 ())
def kE (a0 : (Val aC)) (a1 : (Val ae)) (k : Int → Option ρ) : Option ρ :=
  ifb (ine (bK a1) (bK a0.2.1)) (k (1 : Int)) (bw (fun (v6 : Int) kk8 => gd a1 (bK a1) v6 (fun u7 => kk8 u7) (fun z4 => ifb (ige z4 (0 : Int)) (k (1 : Int)) (k (0 : Int))) (fun _ => k (0 : Int))) (0 : Int))
def iH (a0 : (Val aC)) (a1 : (Val ae)) : Option (Int) := kE a0 a1 some
def rB (c0 : (Val ae)) (c1 : Int) (v0 : Int) (kn : Int → Option ρ) (k0 : Int → Option ρ) (k1 : Unit → Option ρ) : Option ρ :=
  ifb (ilt v0 c1) (dn c0 v0 fun e2 => ifb (ilt e2 (-1152921504606846976 : Int)) (k0 v0) (ifb (igt e2 (1152921504606846976 : Int)) (k0 v0) (ck (v0 + (1 : Int)) fun n3 => kn n3))) (k1 ())
def kD (c0 : (Val ae)) (c1 : (Val ah)) (c2 : Int) (v0 : Int) (kn : Int → Option ρ) (k0 : (Val aE) → Option ρ) (k1 : Unit → Option ρ) : Option ρ :=
  ifb (ilt v0 c2) (dn c1 v0 fun e5 => dn c0 e5.2.1 fun e6 => dn c0 e5.1 fun e7 => ck (e7 + e5.2.2) fun n8 => ifb (igt e6 n8) (k0 (false, (0 : Int))) (ck (v0 + (1 : Int)) fun n9 => kn n9)) (k1 ())
def N5 (a0 : Val bq) (a1 : (Val ae)) (k : (Val aE) → Option ρ) : Option ρ :=
  bf (jY a0) fun r1 => ifb (ine r1.1 (0 : Int)) (k (false, r1.1)) (ifb (ine (bK a1) a0.1) (k (false, (1 : Int))) (bw (fun (v23 : Int) kk25 => rB a1 (bK a1) v23 (fun u24 => kk25 u24) (fun z4 => ifb (ige z4 (0 : Int)) (k (false, (1 : Int))) (bw (fun (v13 : Int) kk15 => kD a1 a0.2 (bK a0.2) v13 (fun u14 => kk15 u14) (fun z10 => k (z10.1, z10.2)) (fun _ => dn a1 (0 : Int) fun e12 => k (ieq e12 (0 : Int), (0 : Int)))) (0 : Int))) (fun _ => bw (fun (v20 : Int) kk22 => kD a1 a0.2 (bK a0.2) v20 (fun u21 => kk22 u21) (fun z17 => k (z17.1, z17.2)) (fun _ => dn a1 (0 : Int) fun e19 => k (ieq e19 (0 : Int), (0 : Int)))) (0 : Int))) (0 : Int)))
def Gg (a0 : Val bq) (a1 : (Val ae)) : Option ((Val aE)) := N5 a0 a1 some
def pu (a0 : (Val aC)) (a1 : (Val ae)) (k : Bool → Option ρ) : Option ρ :=
  ca (bZ ((List.length ([(0 : Int)])) + (List.length a1))) (bf (Gg a0.2.2.1 (([(0 : Int)]) ++ a1)) fun r1 => k r1.1)
def kZ (a0 : (Val aC)) (a1 : (Val ae)) : Option (Bool) := pu a0 a1 some
def OW (a0 : Val bg) (a1 : (Val ae)) (k : (Val aE) → Option ρ) : Option ρ :=
  bf (b9 a0) fun r1 => ifb (ine r1 (0 : Int)) (k (false, r1)) (bf (wd a0) fun r2 => bf (iH r2 a1) fun r3 => ifb (ine r3 (0 : Int)) (k (false, r3)) (bf (kZ r2 a1) fun r4 => k (r4, (0 : Int))))
def mE (a0 : Val bg) (a1 : (Val ae)) : Option ((Val aE)) := OW a0 a1 some
def Cl (a0 : Val bg) (a1 : Val bc) (k : Int → Option ρ) : Option ρ :=
  bf (dc a0 a1) fun r1 => ifb (ine r1.2 (0 : Int)) (k (-1 : Int)) (ck (r1.1 - (1 : Int)) fun n2 => k n2)
def qy (a0 : Val bg) (a1 : Val bc) : Option (Int) := Cl a0 a1 some
def xX (a0 : Int) (a1 : Val bc) (k : Bool → Option ρ) : Option ρ :=
  ifb (ige a0 a1.1) (k (ile a0 a1.2)) (k false)
def nD (a0 : Int) (a1 : Val bc) : Option (Bool) := xX a0 a1 some
def HK (a0 : Val bq) (a1 : Int) (a2 : Int) (k : (Val aA) → Option ρ) : Option ρ :=
  bf (lN a0 a1 a2) fun r1 => ifb (ine r1.2 (0 : Int)) (k ([], r1.2)) (ca (bZ (List.length a0.2)) (ck (0 - r1.1) fun n2 => ca (bZ ((List.length a0.2) + (List.length ([(a2, a1, n2)])))) (bf (iu (a0.1, (a0.2 ++ ([(a2, a1, n2)]))) ([])) fun r3 => k (r3.1, (0 : Int)))))
def vl (a0 : Val bq) (a1 : Int) (a2 : Int) : Option ((Val aA)) := HK a0 a1 a2 some
def ph (c0 : Int) (c10 : (Val aa)) (v0 : Int) (v1 : Int) (v2 : Int) (v3 : (Val ac)) (v4 : (Val aa)) (v5 : (Val af)) (v6 : (Val ab)) (v7 : (Val aa)) (kn : Int → Int → Int → (Val ac) → (Val aa) → (Val af) → (Val ab) → (Val aa) → Option ρ) (k0 : (Val az) → Option ρ) (k1 : (Val ai) → Option ρ) : Option ρ :=
  ifb (ilt v0 c0) (ca ((ile (0 : Int) v0) && (ilt v0 (dz c10))) (gw c10 (Int.toNat v0) fun e2 => bf (dc ((v1, v2), v3, v4, v5, v6, v7) e2) fun r3 => ifb (ieq r3.2 (0 : Int)) (ck (v0 + (1 : Int)) fun n4 => kn n4 v1 v2 v3 v4 v5 v6 v7) (bf (fm ((v1, v2), v3, v4, v5, v6, v7) e2) fun r5 => ifb (ine r5.2 (0 : Int)) (k0 (r5.2, v1, v2, v3, v4, v5, v6, v7)) (ck (v0 + (1 : Int)) fun n6 => kn n6 r5.1.1.1 r5.1.1.2 r5.1.2.1 r5.1.2.2.1 r5.1.2.2.2.1 r5.1.2.2.2.2.1 r5.1.2.2.2.2.2)))) (k1 (v1, v2, v3, v4, v5, v6, v7))
def yl (a0 : Val bg) (a1 : Val bc) (a2 : Bool) (k : (Val aA) → Option ρ) : Option ρ :=
  bf (b9 a0) fun r1 => ifb (ine r1 (0 : Int)) (ca (ine r1 (0 : Int)) (k ([], r1))) (bw (fun (v14 : (Val az)) kk23 => ph (bK ([a1])) ([a1]) v14.1 v14.2.1 v14.2.2.1 v14.2.2.2.1 v14.2.2.2.2.1 v14.2.2.2.2.2.1 v14.2.2.2.2.2.2.1 v14.2.2.2.2.2.2.2 (fun u15 u16 u17 u18 u19 u20 u21 u22 => kk23 (u15, u16, u17, u18, u19, u20, u21, u22)) (fun z7 => ca (ine z7.1 (0 : Int)) (k ([], z7.1))) (fun z8 => bf (df ((z8.1, z8.2.1), z8.2.2)) fun r9 => ifb (ine r9.2.2 (0 : Int)) (ca (ine r9.2.2 (0 : Int)) (k ([], r9.2.2))) (bf (cD r9.1) fun r10 => ifb (!r10.1) (k ([], (9 : Int))) (bf (fi (((z8.1, z8.2.1), z8.2.2), r9.1) a1) fun r11 => ifb a2 (bf (vl r9.1 (0 : Int) r11) fun r12 => ifb (ine r12.2 (0 : Int)) (k ([], r12.2)) (ca (ile (1 : Int) (dz r12.1)) (k ((List.drop 1 r12.1), (0 : Int))))) (bf (vl r9.1 r11 (0 : Int)) fun r13 => ifb (ine r13.2 (0 : Int)) (k ([], r13.2)) (ca (ile (1 : Int) (dz r13.1)) (k ((List.drop 1 r13.1), (0 : Int))))))))) ((0 : Int), a0.1.1, a0.1.2, a0.2.1, a0.2.2.1, a0.2.2.2.1, a0.2.2.2.2.1, a0.2.2.2.2.2))
def gO (a0 : Val bg) (a1 : Val bc) (a2 : Bool) : Option ((Val aA)) := yl a0 a1 a2 some
def ew (c1 : Int) (c2 : Int) (c4 : Int) (c5 : Int) (c6 : Int) (c7 : Int) (c8 : (Val ac)) (c9 : (Val aa)) (c10 : (Val af)) (c11 : (Val ab)) (c12 : (Val aa)) (c13 : Int) (c14 : Int) (v0 : Int) (kn : Int → Option ρ) (k0 : Bool → Option ρ) (k1 : Unit → Option ρ) : Option ρ :=
  ifb (ilt v0 (2 : Int)) (ifb (ieq c1 (0 : Int)) (bf (gO ((c6, c7), c8, c9, c10, c11, c12) (c4, c5) (ieq v0 (1 : Int))) fun r10 => bf (mE ((c6, c7), c8, c9, c10, c11, c12) r10.1) fun r11 => ifb (ine r10.2 (0 : Int)) (k0 false) (ifb (ine r11.2 (0 : Int)) (k0 false) (ifb (!r11.1) (k0 false) (ifb (ilt c2 (0 : Int)) (k0 false) (ifb (ige c2 (bK r10.1)) (k0 false) (ifb (ieq v0 (0 : Int)) (dn r10.1 c2 fun e12 => ifb (ine e12 c13) (k0 false) (ifb (ieq v0 (1 : Int)) (dn r10.1 c2 fun e13 => ifb (ine e13 c14) (k0 false) (ck (v0 + (1 : Int)) fun n14 => kn n14)) (ck (v0 + (1 : Int)) fun n15 => kn n15))) (ifb (ieq v0 (1 : Int)) (dn r10.1 c2 fun e16 => ifb (ine e16 c14) (k0 false) (ck (v0 + (1 : Int)) fun n17 => kn n17)) (ck (v0 + (1 : Int)) fun n18 => kn n18)))))))) (k1 ())) (k1 ())
def nf (a0 : Val bg) (a1 : Val bc) (a2 : Val bc) (a3 : (Val ae)) (k : Bool → Option ρ) : Option ρ :=
  bf (Gd a0) fun r1 => ifb (!r1) (bf gL fun r2 => k r2) (ifb (igt (bK a3) (70 : Int)) (bf gL fun r3 => k r3) (bf (nB a0 ([a1, a2])) fun r4 => ifb (!r4.2) (bf gL fun r5 => k r5) (bf (jp r4.1 a1) fun r6 => bf (nJ r4.1 a1 a2) fun r7 => ifb (ine r6.2 r7.2) (k false) (bf (qy r4.1 a1) fun r8 => bf (qy r4.1 a2) fun r9 => bw (fun (v31 : Int) kk33 => ew r6.2 r8 a1.1 a1.2 r4.1.1.1 r4.1.1.2 r4.1.2.1 r4.1.2.2.1 r4.1.2.2.2.1 r4.1.2.2.2.2.1 r4.1.2.2.2.2.2 r6.1.1 r6.1.2 v31 (fun u32 => kk33 u32) (fun z19 => k z19) (fun _ => bf (mE r4.1 a3) fun r21 => ifb (ine r21.2 (0 : Int)) (bf gL fun r22 => k r22) (ifb (!r21.1) (bf gL fun r23 => k r23) (ifb (ine r6.2 (0 : Int)) (k false) (ifb (ilt r8 (0 : Int)) (k false) (ifb (ilt r9 (0 : Int)) (k false) (ifb (ige r8 (bK a3)) (k false) (ifb (ige r9 (bK a3)) (k false) (bf gL fun r24 => ifb r24 (dn a3 r8 fun e25 => bf (nD e25 r6.1) fun r26 => ifb r26 (dn a3 r8 fun e27 => dn a3 r9 fun e28 => ck (e27 - e28) fun n29 => bf (nD n29 r7.1) fun r30 => k r30) (k false)) (k false)))))))))) (0 : Int)))))
def nE (a0 : Val bg) (a1 : Val bc) (a2 : Val bc) (a3 : (Val ae)) : Option (Bool) := nf a0 a1 a2 a3 some
end Go.Proofs.ZzM
end
