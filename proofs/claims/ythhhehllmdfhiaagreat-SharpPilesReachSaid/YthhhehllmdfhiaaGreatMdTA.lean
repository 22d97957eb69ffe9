/- lemmas -/
import Derived.Test.YthhhehllmdfhiaaGreatAmE
set_option linter.all false
set_option linter.unusedSectionVars false
set_option linter.unusedVariables false
set_option linter.unusedSimpArgs false
noncomputable section
variable {ρ : Type}
set_option maxRecDepth 100000
namespace Go.Proofs.ZzM
open Go Go.Am
abbrev tI : Ty := .int .i64
abbrev bc : Ty := (.pair tI tI)
abbrev cA : Ty := (.pair tI bc)
abbrev cg : Ty := (.pair bc bc)
abbrev jF : Ty := (.pair bc tI)
abbrev dC : Ty := (.pair tI jF)
abbrev Xz : Ty := (.pair cg tI)
abbrev bo : Ty := (.pair tI (.slice cA))
abbrev eW : Ty := (.pair bc (.pair cA cA))
abbrev yX : Ty := (.pair (.slice cA) (.slice bc))
abbrev br : Ty := (.pair tI (.pair tI (.pair tI (.pair bc jF))))
abbrev bq : Ty := (.pair tI (.pair tI (.pair (.slice tI) (.pair (.slice tI) (.pair tI cA)))))
abbrev bg : Ty := (.pair bc (.pair (.slice br) (.pair (.slice bc) (.pair (.slice dC) (.pair (.slice bq) (.slice bc))))))
abbrev fX : Ty := (.pair bg (.pair bc (.pair .bool (.pair tI (.slice tI)))))
abbrev ab2 : Ty := (.pair bg (.pair (.slice bc) (.pair bo (.slice bc))))
abbrev tyroom : Ty := (.pair bg bo)
abbrev aa : Ty := (.slice bc)
abbrev ab : Ty := (.slice bq)
abbrev ac : Ty := (.slice tI)
abbrev ae : Ty := (.slice br)
abbrev af : Ty := (.slice dC)
abbrev ag : Ty := (.pair tI (.pair tI (.pair ae (.pair aa (.pair af (.pair ab (.pair aa (.pair tI (.pair tI (.pair ae (.pair aa (.pair af (.pair ab (.pair aa (.pair tI (.pair tI (.pair ae (.pair aa (.pair af (.pair ab (.pair aa (.pair (.map tI .bool) (.pair (.map tI .bool) ae)))))))))))))))))))))))
abbrev ah : Ty := (.slice cA)
abbrev ai : Ty := (.pair tI (.pair tI (.pair ae (.pair aa (.pair af (.pair ab aa))))))
abbrev aj : Ty := (.map tI .bool)
abbrev ak : Ty := (.pair ac (.pair tI (.pair tI (.pair tI (.pair ae (.pair aa (.pair af (.pair ab (.pair aa (.pair tI (.pair tI (.pair tI (.pair tI (.pair tI (.pair tI (.pair ac (.pair ac (.pair tI (.pair tI (.pair tI (.pair tI (.pair aa (.pair tI (.pair tI (.pair ae (.pair aa (.pair af (.pair ab (.pair aa (.pair tI (.pair ah (.pair tI (.pair tI (.pair tI (.pair tI (.pair tI (.pair tI (.pair tI (.pair tI (.pair (.slice ac) (.pair (.slice ac) (.slice ac))))))))))))))))))))))))))))))))))))))))))
abbrev am : Ty := (.slice ac)
abbrev ao : Ty := (.map tI br)
abbrev aq : Ty := (.pair tI (.pair tI (.pair tI (.pair ae (.pair aa (.pair af (.pair ab (.pair aa (.pair tI (.pair tI (.pair tI (.pair tI (.pair tI (.pair tI (.pair ac (.pair ac (.pair tI (.pair tI (.pair tI (.pair tI aa))))))))))))))))))))
abbrev ar : Ty := (.pair tI (.pair tI (.pair tI (.pair tI (.pair tI cA)))))
abbrev au : Ty := (.ptr tyroom)
abbrev aw : Ty := (.slice .bool)
abbrev ax : Ty := (.pair tI ac)
abbrev ay : Ty := (.pair tI (.pair tI (.pair ae (.pair aa (.pair af (.pair ab (.pair aa ai)))))))
abbrev az : Ty := (.pair ac tI)
abbrev aA : Ty := (.pair tI aa)
abbrev aB : Ty := (.ptr ab2)
abbrev aC : Ty := (.pair tI ai)
abbrev aD : Ty := (.pair tI (.pair tI ax))
abbrev aE : Ty := (.pair .bool tI)
abbrev aF : Ty := (.pair tI bo)
abbrev aG : Ty := (.pair bg bq)
abbrev aH : Ty := (.pair tI (.pair tI (.pair tI (.pair ae (.pair aa (.pair af (.pair ab (.pair aa ar))))))))
abbrev aI : Ty := (.pair bg bc)
abbrev aJ : Ty := (.pair aw ac)
abbrev aK : Ty := (.pair ac (.pair aw (.pair ac ac)))
abbrev aL : Ty := (.slice am)
abbrev aM : Ty := (.pair bg tI)
abbrev aO : Ty := (.pair au bc)
abbrev aP : Ty := (.pair tI aA)
abbrev aQ : Ty := (.ptr bc)
abbrev aR : Ty := (.pair bo ac)
abbrev aS : Ty := (.pair bc bq)
abbrev aT : Ty := (.pair aa bc)
abbrev aU : Ty := (.pair bo bc)
abbrev aV : Ty := (.pair tI .bool)
abbrev aW : Ty := (.pair (.int .u64) (.int .u64))
abbrev aX : Ty := (.pair bg (.pair ao tI))
abbrev aY : Ty := (.pair tI (.pair tI (.pair ah bo)))
end Go.Proofs.ZzM
end

noncomputable section
variable {ρ : Type}
set_option maxRecDepth 100000
namespace Go.Proofs.ZzM
open Go Go.Am
def la (c0 : (Val ae)) (c1 : Int) (v0 : Int) (v1 : (Val ao)) (kn : Int → (Val ao) → Option ρ) (k0 : (Val ao) → Option ρ) : Option ρ :=
  ifb (ilt v0 c1) (dm c0 v0 fun e1 => ck (v0 + (1 : Int)) fun n2 => kn n2 (F0 (k := tI) (v := br) e1.1 e1 v1)) (k0 v1)
def yw (a0 : Val bg) (k : (Val ao) → Option ρ) : Option ρ :=
  bw (fun (v4 : (Val (.pair tI ao))) kk7 => la a0.2.1 (bG a0.2.1) v4.1 v4.2 (fun u5 u6 => kk7 (u5, u6)) (fun z3 => k z3)) ((0 : Int), [])
def fW (a0 : Val bg) : Option ((Val ao)) := yw a0 some
def C5 (a0 : Val bc) (a1 : Int) (a2 : Int) (k : Bool → Option ρ) : Option ρ :=
  ifb (ile a1 a0.1) (ifb (ile a0.1 a0.2) (k (ile a0.2 a2)) (k false)) (k false)
def fG (a0 : Val bc) (a1 : Int) (a2 : Int) : Option (Bool) := C5 a0 a1 a2 some
def CY (a0 : Int) (a1 : Int) (a2 : Int) (k : Bool → Option ρ) : Option ρ :=
  ifb (ile a1 a0) (k (ile a0 a2)) (k false)
def cF (a0 : Int) (a1 : Int) (a2 : Int) : Option (Bool) := CY a0 a1 a2 some
def Iv (a0 : Int) (k : Bool → Option ρ) : Option ρ :=
  bf (cF a0 (0 : Int) (20000 : Int)) fun r1 => k r1
def lQ (a0 : Int) : Option (Bool) := Iv a0 some
def Oa (a0 : Int) (k : Int → Option ρ) : Option ρ :=
  ifb (ilt a0 (0 : Int)) (k (IntKind.wrap .u64 (0 - (IntKind.wrap .u64 a0)))) (k (IntKind.wrap .u64 a0))
def oP (a0 : Int) : Option (Int) := Oa a0 some
def vQ (v0 : Int) (v1 : Int) (kn : Int → Int → Option ρ) (k0 : Int → Option ρ) : Option ρ :=
  ifb (ine v1 (0 : Int)) (ifb (fm v1 0) (none) (kn v1 (Int.tmod v0 v1))) (k0 v0)
def TO (a0 : Int) (a1 : Int) (k : Int → Option ρ) : Option ρ :=
  bw (fun (v2 : (Val aW)) kk5 => vQ v2.1 v2.2 (fun u3 u4 => kk5 (u3, u4)) (fun z1 => k z1)) (a0, a1)
def I5 (a0 : Int) (a1 : Int) : Option (Int) := TO a0 a1 some
def H9 (a0 : Val bc) (k : Bool → Option ρ) : Option ρ :=
  ifb (ige a0.2 (1 : Int)) (ifb (ile a0.2 (2147483647 : Int)) (bf (oP a0.1) fun r1 => ifb (ile r1 (2147483647 : Int)) (bf (oP a0.1) fun r2 => bf (oP a0.2) fun r3 => bf (I5 r2 r3) fun r4 => k (ieq r4 (1 : Int))) (k false)) (k false)) (k false)
def qA (a0 : Val bc) : Option (Bool) := H9 a0 some
def yz (a0 : Val br) (k : Bool → Option ρ) : Option ρ :=
  bf (qA a0.2.2.2.2.1) fun r1 => ifb r1 (bf (cF a0.2.2.2.2.1.1 (-1000 : Int) (1000 : Int)) fun r2 => ifb r2 (bf (cF a0.1 (1 : Int) (1099511627776 : Int)) fun r3 => ifb r3 (bf (lQ a0.2.1) fun r4 => ifb r4 (bf (cF a0.2.2.1 (1 : Int) (1125899906842624 : Int)) fun r5 => ifb r5 (bf (fG a0.2.2.2.1 (-1073741824 : Int) (1073741824 : Int)) fun r6 => ifb r6 (ifb (ile a0.2.2.2.2.1.2 (100 : Int)) (bf (cF a0.2.2.2.2.2 (0 : Int) (1048576 : Int)) fun r7 => k r7) (k false)) (k false)) (k false)) (k false)) (k false)) (bf (cF a0.1 (1 : Int) (1099511627776 : Int)) fun r8 => ifb r8 (bf (lQ a0.2.1) fun r9 => ifb r9 (bf (cF a0.2.2.1 (1 : Int) (1125899906842624 : Int)) fun r10 => ifb r10 (bf (fG a0.2.2.2.1 (-1073741824 : Int) (1073741824 : Int)) fun r11 => ifb r11 (k false) (k false)) (k false)) (k false)) (k false))) (bf (cF a0.1 (1 : Int) (1099511627776 : Int)) fun r12 => ifb r12 (bf (lQ a0.2.1) fun r13 => ifb r13 (bf (cF a0.2.2.1 (1 : Int) (1125899906842624 : Int)) fun r14 => ifb r14 (bf (fG a0.2.2.2.1 (-1073741824 : Int) (1073741824 : Int)) fun r15 => ifb r15 (k false) (k false)) (k false)) (k false)) (k false))
def sh (a0 : Val br) : Option (Bool) := yz a0 some
def ii (c0 : (Val ae)) (c1 : Int) (c4 : (Val ae)) (v0 : Int) (kn : Int → Option ρ) (k0 : Int → Option ρ) (k1 : Unit → Option ρ) : Option ρ :=
  ifb (ilt v0 c1) (dm c0 v0 fun e1 => bf (sh e1) fun r2 => ifb (!r2) (k0 (1 : Int)) (ifb (igt v0 (0 : Int)) (ck (v0 - (1 : Int)) fun n3 => dm c4 n3 fun e4 => ifb (ile e1.1 e4.1) (k0 (6 : Int)) (ck (v0 + (1 : Int)) fun n5 => kn n5)) (ck (v0 + (1 : Int)) fun n6 => kn n6))) (k1 ())
def nt (a0 : Val bg) (k : Int → Option ρ) : Option ρ :=
  bw (fun (v9 : Int) kk11 => ii a0.2.1 (bG a0.2.1) a0.2.1 v9 (fun u10 => kk11 u10) (fun z7 => k z7) (fun _ => k (0 : Int))) (0 : Int)
def fi (a0 : Val bg) : Option (Int) := nt a0 some
def gc (c0 : (Val ac)) (c1 : Int) (c2 : Int) (v0 : Int) (kn : Int → Option ρ) (k0 : Int → Option ρ) (k1 : Unit → Option ρ) : Option ρ :=
  ifb (ilt v0 c2) (dm c0 v0 fun e1 => ifb (ieq c1 e1) (k0 v0) (ck (v0 + (1 : Int)) fun n2 => kn n2)) (k1 ())
def kr (a0 : (Val ac)) (a1 : Int) (k : Int → Option ρ) : Option ρ :=
  bw (fun (v5 : Int) kk7 => gc a0 a1 (bG a0) v5 (fun u6 => kk7 u6) (fun z3 => k z3) (fun _ => k (-1 : Int))) (0 : Int)
def iI (a0 : (Val ac)) (a1 : Int) : Option (Int) := kr a0 a1 some
def iQ (a0 : (Val ac)) (a1 : Int) (k : Bool → Option ρ) : Option ρ :=
  bf (iI a0 a1) fun r1 => k (ige r1 (0 : Int))
def cn (a0 : (Val ac)) (a1 : Int) : Option (Bool) := iQ a0 a1 some
def rQ (c0 : (Val ab)) (c1 : Int) (c9 : Int) (v0 : Int) (v1 : (Val ac)) (kn : Int → (Val ac) → Option ρ) (k0 : (Val ac) → Option ρ) : Option ρ :=
  ifb (ilt v0 c1) (dm c0 v0 fun e1 => bf (cn e1.2.2.1 c9) fun r2 => bf (cn e1.2.2.2.1 c9) fun r3 => ifb (!(r2 == r3)) (b9 (bZ ((List.length v1) + (List.length ([e1.2.1])))) (ck (v0 + (1 : Int)) fun n4 => kn n4 (v1 ++ ([e1.2.1])))) (ck (v0 + (1 : Int)) fun n5 => kn n5 v1)) (k0 v1)
def rP (c0 : (Val aa)) (c1 : Int) (c2 : Int) (v0 : Int) (v1 : (Val ac)) (kn : Int → (Val ac) → Option ρ) (k0 : (Val ac) → Option ρ) : Option ρ :=
  ifb (ilt v0 c1) (dm c0 v0 fun e7 => ifb (ieq e7.1 c2) (b9 (bZ ((List.length v1) + (List.length ([e7.2])))) (ck (v0 + (1 : Int)) fun n8 => kn n8 (v1 ++ ([e7.2])))) (ck (v0 + (1 : Int)) fun n9 => kn n9 v1)) (k0 v1)
def OJ (a0 : Val bg) (a1 : Val br) (k : (Val ac) → Option ρ) : Option ρ :=
  bw (fun (v15 : (Val ax)) kk18 => rQ a0.2.2.2.2.1 (bG a0.2.2.2.2.1) a1.1 v15.1 v15.2 (fun u16 u17 => kk18 (u16, u17)) (fun z6 => bw (fun (v11 : (Val ax)) kk14 => rP a0.2.2.2.2.2 (bG a0.2.2.2.2.2) a1.1 v11.1 v11.2 (fun u12 u13 => kk14 (u12, u13)) (fun z10 => b9 (bZ (List.length z10)) (b9 (bZ (List.length (za z10))) (k (wj (za z10)))))) ((0 : Int), z6))) ((0 : Int), [a1.2.1])
def mA (a0 : Val bg) (a1 : Val br) : Option ((Val ac)) := OJ a0 a1 some
def oF (c3 : (Val ac)) (c4 : Int) (c12 : Int) (v0 : Int) (v1 : (Val aa)) (kn : Int → (Val aa) → Option ρ) (k0 : (Val aa) → Option ρ) : Option ρ :=
  ifb (ilt v0 c4) (dm c3 v0 fun e3 => b9 (bZ ((List.length v1) + (List.length ([(c12, e3)])))) (ck (v0 + (1 : Int)) fun n4 => kn n4 (v1 ++ ([(c12, e3)])))) (k0 v1)
def oG (c0 : (Val ae)) (c1 : Int) (c2 : Int) (c3 : Int) (c4 : (Val ae)) (c5 : (Val aa)) (c6 : (Val af)) (c7 : (Val ab)) (c8 : (Val aa)) (v0 : Int) (v1 : (Val aa)) (kn : Int → (Val aa) → Option ρ) (k0 : (Val aa) → Option ρ) : Option ρ :=
  ifb (ilt v0 c1) (dm c0 v0 fun e1 => bf (mA ((c2, c3), c4, c5, c6, c7, c8) e1) fun r2 => bw (fun (v7 : (Val aA)) kk10 => oF r2 (bG r2) e1.1 v7.1 v7.2 (fun u8 u9 => kk10 (u8, u9)) (fun z5 => ck (v0 + (1 : Int)) fun n6 => kn n6 z5)) ((0 : Int), v1)) (k0 v1)
def Io (a0 : Val bg) (k : (Val aa) → Option ρ) : Option ρ :=
  bw (fun (v12 : (Val aA)) kk15 => oG a0.2.1 (bG a0.2.1) a0.1.1 a0.1.2 a0.2.1 a0.2.2.1 a0.2.2.2.1 a0.2.2.2.2.1 a0.2.2.2.2.2 v12.1 v12.2 (fun u13 u14 => kk15 (u13, u14)) (fun z11 => k z11)) ((0 : Int), [])
def nH (a0 : Val bg) : Option ((Val aa)) := Io a0 some
def po (a0 : (Val ao)) (a1 : Int) (a2 : Int) (k : Int → Option ρ) : Option ρ :=
  PE (k := tI) (v := br) a1 a0 (fun y1 => ifb (ilt a2 y1.2.1) (k (4 : Int)) (k (0 : Int))) (k (5 : Int))
def gY (a0 : (Val ao)) (a1 : Int) (a2 : Int) : Option (Int) := po a0 a1 a2 some
def yy (a0 : Int) (a1 : Int) (a2 : (Val (.ptr ao))) (k : Int → Option ρ) : Option ρ :=
  bf (lQ a1) fun r1 => ifb (!r1) (k (1 : Int)) (bf (gY a2 a0 a1) fun r2 => k r2)
def dI (a0 : Int) (a1 : Int) (a2 : (Val (.ptr ao))) : Option (Int) := yy a0 a1 a2 some
def i8 (c0 : (Val af)) (c1 : Int) (c9 : Int) (c10 : Int) (c11 : Int) (v0 : Int) (kn : Int → Option ρ) (k0 : Int → Option ρ) (k1 : Unit → Option ρ) : Option ρ :=
  ifb (ilt v0 c1) (dm c0 v0 fun e5 => ifb (ieq e5.1 c9) (ifb (ile e5.2.1.1 c11) (ifb (ile c10 e5.2.1.2) (k0 v0) (ck (v0 + (1 : Int)) fun n6 => kn n6)) (ck (v0 + (1 : Int)) fun n7 => kn n7)) (ck (v0 + (1 : Int)) fun n8 => kn n8)) (k1 ())
def fF (c0 : (Val aa)) (c1 : Int) (c9 : Int) (c10 : Int) (c11 : Int) (v0 : Int) (kn : Int → Option ρ) (k0 : Int → Option ρ) (k1 : Unit → Option ρ) : Option ρ :=
  ifb (ilt v0 c1) (dm c0 v0 fun e10 => ifb (ieq e10.1 c9) (bf (cF e10.2 c10 c11) fun r11 => ifb r11 (k0 v0) (ck (v0 + (1 : Int)) fun n12 => kn n12)) (ck (v0 + (1 : Int)) fun n13 => kn n13)) (k1 ())
def rR (a0 : Val bg) (a1 : (Val ao)) (a2 : Int) (k : Int → Option ρ) : Option ρ :=
  dm a0.2.2.2.1 a2 fun e1 => bf (fG e1.2.1 (0 : Int) (20000 : Int)) fun r2 => ifb (!r2) (k (1 : Int)) (bf (cF e1.2.2 (0 : Int) (1048576 : Int)) fun r3 => ifb (!r3) (k (1 : Int)) (bf (gY a1 e1.1 e1.2.1.1) fun r4 => ifb (ine r4 (0 : Int)) (k r4) (b9 ((ile (0 : Int) a2) && (ile a2 (dj a0.2.2.2.1))) (bw (fun (v25 : Int) kk27 => i8 (List.take (Int.toNat a2) a0.2.2.2.1) (bG (List.take (Int.toNat a2) a0.2.2.2.1)) e1.1 e1.2.1.1 e1.2.1.2 v25 (fun u26 => kk27 u26) (fun z9 => ifb (ige z9 (0 : Int)) (k (9 : Int)) (bw (fun (v16 : Int) kk18 => fF a0.2.2.1 (bG a0.2.2.1) e1.1 e1.2.1.1 e1.2.1.2 v16 (fun u17 => kk18 u17) (fun z14 => ifb (ige z14 (0 : Int)) (k (9 : Int)) (k (0 : Int))) (fun _ => k (0 : Int))) (0 : Int))) (fun _ => bw (fun (v22 : Int) kk24 => fF a0.2.2.1 (bG a0.2.2.1) e1.1 e1.2.1.1 e1.2.1.2 v22 (fun u23 => kk24 u23) (fun z20 => ifb (ige z20 (0 : Int)) (k (9 : Int)) (k (0 : Int))) (fun _ => k (0 : Int))) (0 : Int))) (0 : Int)))))
def fK (a0 : Val bg) (a1 : (Val ao)) (a2 : Int) : Option (Int) := rR a0 a1 a2 some
def rO (c0 : Int) (c1 : (Val ac)) (c2 : (Val ac)) (v0 : Int) (kn : Int → Option ρ) (k0 : Int → Option ρ) (k1 : Unit → Option ρ) : Option ρ :=
  ifb (ilt v0 c0) (b9 ((ile (0 : Int) v0) && (ilt v0 (dj c2))) (gk c2 (Int.toNat v0) fun e1 => bf (cn c1 e1) fun r2 => ifb r2 (k0 v0) (ck (v0 + (1 : Int)) fun n3 => kn n3))) (k1 ())
def jk (c0 : (Val ac)) (v0 : Int) (v1 : Int) (v2 : (Val ac)) (kn : Int → Int → (Val ac) → Option ρ) (k0 : (Val ax) → Option ρ) : Option ρ :=
  ifb (ilt v1 (bG v2)) (b9 ((ile (0 : Int) v1) && (ilt v1 (dj v2))) (gk v2 (Int.toNat v1) fun e6 => bf (cn c0 e6) fun r7 => ifb (!r7) (b9 ((ile (0 : Int) v0) && (ilt v0 (dj v2))) (gk v2 (Int.toNat v0) fun e8 => ck (v0 + (1 : Int)) fun n9 => ck (v1 + (1 : Int)) fun n10 => kn n9 n10 (List.set v2 (Int.toNat v0) e6))) (ck (v1 + (1 : Int)) fun n11 => kn v0 n11 v2))) (k0 (v0, v2))
def OA (a0 : (Val ac)) (a1 : (Val ac)) (k : (Val ac) → Option ρ) : Option ρ :=
  b9 (bZ (List.length a0)) (bw (fun (v19 : Int) kk21 => rO (bG a0) a1 a0 v19 (fun u20 => kk21 u20) (fun z4 => ifb (ieq z4 (-1 : Int)) (k a0) (ck (z4 + (1 : Int)) fun n5 => bw (fun (v13 : (Val (.pair tI ax))) kk17 => jk a1 v13.1 v13.2.1 v13.2.2 (fun u14 u15 u16 => kk17 (u14, u15, u16)) (fun z12 => b9 ((ile (0 : Int) z12.1) && (ile z12.1 (dj z12.2))) (b9 ((ile (0 : Int) z12.1) && (ile z12.1 (dj (List.take (Int.toNat z12.1) z12.2 ++ List.replicate (List.length z12.2 - (Int.toNat z12.1)) (0 : Int) ++ List.drop ((Int.toNat z12.1) + (List.length z12.2 - (Int.toNat z12.1))) z12.2)))) (k (List.take (Int.toNat z12.1) (List.drop 0 (List.take (Int.toNat z12.1) z12.2 ++ List.replicate (List.length z12.2 - (Int.toNat z12.1)) (0 : Int) ++ List.drop ((Int.toNat z12.1) + (List.length z12.2 - (Int.toNat z12.1))) z12.2))))))) (z4, n5, a0))) (fun _ => k a0)) (0 : Int))
def eO (a0 : (Val ac)) (a1 : (Val ac)) : Option ((Val ac)) := OA a0 a1 some
def dn (c1 : (Val am)) (c2 : Int) (v0 : Int) (v1 : Int) (kn : Int → Int → Option ρ) (k0 : Int → Option ρ) : Option ρ :=
  ifb (ilt v1 c2) (dm c1 v1 fun e1 => ck (v0 + (bG e1)) fun n2 => ifb (ilt n2 (0 : Int)) (none) (ck (v1 + (1 : Int)) fun n3 => kn n2 n3)) (k0 v0)
def bW (c0 : (Val am)) (c1 : Int) (v0 : Int) (v1 : (Val ac)) (kn : Int → (Val ac) → Option ρ) (k0 : (Val ac) → Option ρ) : Option ρ :=
  ifb (ilt v0 c1) (dm c0 v0 fun e6 => b9 (bZ ((List.length v1) + (List.length e6))) (ck (v0 + (1 : Int)) fun n7 => kn n7 (v1 ++ e6))) (k0 v1)
def ic (a0 : (Val am)) (k : (Val ac) → Option ρ) : Option ρ :=
  bw (fun (v18 : Val bc) kk21 => dn a0 (bG a0) v18.1 v18.2 (fun u19 u20 => kk21 (u19, u20)) (fun z4 => ifb (ilt z4 (0 : Int)) (none) (ck (z4 - (0 : Int)) fun n5 => ifb (igt n5 (0 : Int)) (b9 ((ilt (0 : Int) n5) && (bZ (Int.toNat n5))) (b9 (ile (0 : Int) (dj (List.replicate (Int.toNat n5) (0 : Int)))) (bw (fun (v9 : (Val ax)) kk12 => bW a0 (bG a0) v9.1 v9.2 (fun u10 u11 => kk12 (u10, u11)) (fun z8 => k z8)) ((0 : Int), (List.take 0 (List.replicate (Int.toNat n5) (0 : Int))))))) (bw (fun (v14 : (Val ax)) kk17 => bW a0 (bG a0) v14.1 v14.2 (fun u15 u16 => kk17 (u15, u16)) (fun z13 => k z13)) ((0 : Int), []))))) ((0 : Int), (0 : Int))
def bS (a0 : (Val am)) : Option ((Val ac)) := ic a0 some
def mq (c0 : (Val ac)) (c1 : (Val ac)) (c2 : Int) (v0 : Int) (kn : Int → Option ρ) (k0 : Bool → Option ρ) (k1 : Unit → Option ρ) : Option ρ :=
  ifb (ilt v0 c2) (dm c1 v0 fun e1 => bf (cF e1 (1 : Int) (1099511627776 : Int)) fun r2 => ifb (!r2) (k0 false) (ifb (igt v0 (0 : Int)) (ck (v0 - (1 : Int)) fun n3 => dm c0 n3 fun e4 => ifb (ile e1 e4) (k0 false) (ck (v0 + (1 : Int)) fun n5 => kn n5)) (ck (v0 + (1 : Int)) fun n6 => kn n6))) (k1 ())
def C4 (a0 : (Val ac)) (k : Bool → Option ρ) : Option ρ :=
  bw (fun (v9 : Int) kk11 => mq a0 a0 (bG a0) v9 (fun u10 => kk11 u10) (fun z7 => k z7) (fun _ => k (ile (bG a0) (6 : Int)))) (0 : Int)
def kR (a0 : (Val ac)) : Option (Bool) := C4 a0 some
def rS (c0 : (Val af)) (c1 : Int) (c9 : Int) (c10 : Int) (v0 : Int) (kn : Int → Option ρ) (k0 : Int → Option ρ) (k1 : Unit → Option ρ) : Option ρ :=
  ifb (ilt v0 c1) (dm c0 v0 fun e1 => ifb (ieq e1.1 c9) (bf (cF c10 e1.2.1.1 e1.2.1.2) fun r2 => ifb r2 (k0 v0) (ck (v0 + (1 : Int)) fun n3 => kn n3)) (ck (v0 + (1 : Int)) fun n4 => kn n4)) (k1 ())
def OL (a0 : Val bg) (a1 : Int) (a2 : Int) (k : (Val (.pair dC .bool)) → Option ρ) : Option ρ :=
  bw (fun (v8 : Int) kk10 => rS a0.2.2.2.1 (bG a0.2.2.2.1) a1 a2 v8 (fun u9 => kk10 u9) (fun z5 => ifb (ilt z5 (0 : Int)) (k (((0 : Int), ((0 : Int), (0 : Int)), (0 : Int)), false)) (dm a0.2.2.2.1 z5 fun e6 => k (e6, true))) (fun _ => k (((0 : Int), ((0 : Int), (0 : Int)), (0 : Int)), false))) (0 : Int)
def wg (a0 : Val bg) (a1 : Int) (a2 : Int) : Option ((Val (.pair dC .bool))) := OL a0 a1 a2 some
def gK (c0 : (Val ab)) (c1 : Int) (c9 : Int) (v0 : Int) (kn : Int → Option ρ) (k0 : Int → Option ρ) (k1 : Unit → Option ρ) : Option ρ :=
  ifb (ilt v0 c1) (dm c0 v0 fun e9 => ifb (ieq e9.1 c9) (k0 v0) (ck (v0 + (1 : Int)) fun n10 => kn n10)) (k1 ())
def gJ (c0 : (Val ao)) (c2 : Int) (c5 : (Val ac)) (c6 : Int) (c15 : Int) (v0 : Int) (kn : Int → Option ρ) (k0 : Int → Option ρ) (k1 : Unit → Option ρ) : Option ρ :=
  ifb (ilt v0 c6) (dm c5 v0 fun e14 => bf (gY c0 e14 c15) fun r15 => ifb (ieq r15 c2) (k0 c2) (ck (v0 + (1 : Int)) fun n16 => kn n16)) (k1 ())
def dS (c0 : (Val ao)) (c1 : (Val ac)) (c2 : Int) (c11 : Int) (c18 : (Val ac)) (v0 : Int) (kn : Int → Option ρ) (k0 : Int → Option ρ) (k1 : Unit → Option ρ) : Option ρ :=
  ifb (ilt v0 c2) (b9 ((ile (0 : Int) v0) && (ilt v0 (dj c18))) (gk c18 (Int.toNat v0) fun e13 => bw (fun (v20 : Int) kk22 => gJ c0 e13 c1 (bG c1) c11 v20 (fun u21 => kk22 u21) (fun z17 => k0 z17) (fun _ => ck (v0 + (1 : Int)) fun n19 => kn n19)) (0 : Int))) (k1 ())
def dR (c0 : (Val ac)) (c1 : Int) (c2 : Int) (c3 : Int) (c4 : (Val ae)) (c5 : (Val aa)) (c6 : (Val af)) (c7 : (Val ab)) (c8 : (Val aa)) (c10 : Int) (v0 : Int) (kn : Int → Option ρ) (k0 : Int → Option ρ) (k1 : Unit → Option ρ) : Option ρ :=
  ifb (ilt v0 c1) (dm c0 v0 fun e25 => bf (wg ((c2, c3), c4, c5, c6, c7, c8) e25 c10) fun r26 => ifb r26.2 (k0 (9 : Int)) (ck (v0 + (1 : Int)) fun n27 => kn n27)) (k1 ())
def l6 (a0 : Val bg) (a1 : (Val ao)) (a2 : Int) (k : Int → Option ρ) : Option ρ :=
  dm a0.2.2.2.2.1 a2 fun e1 => bf (cF e1.1 (1 : Int) (1099511627776 : Int)) fun r2 => ifb (!r2) (k (1 : Int)) (bf (lQ e1.2.1) fun r3 => ifb (!r3) (k (1 : Int)) (bf (cF e1.2.2.2.2.1 (-1125899906842624 : Int) (1125899906842624 : Int)) fun r4 => ifb (!r4) (k (1 : Int)) (bf (cF e1.2.2.2.2.2.1 (0 : Int) (1073741824 : Int)) fun r5 => ifb (!r5) (k (1 : Int)) (bf (fG e1.2.2.2.2.2.2 (-10000 : Int) (10000 : Int)) fun r6 => ifb (!r6) (k (1 : Int)) (bf (kR e1.2.2.1) fun r7 => ifb (!r7) (k (1 : Int)) (bf (kR e1.2.2.2.1) fun r8 => ifb (!r8) (k (1 : Int)) (b9 ((ile (0 : Int) a2) && (ile a2 (dj a0.2.2.2.2.1))) (bw (fun (v54 : Int) kk56 => gK (List.take (Int.toNat a2) a0.2.2.2.2.1) (bG (List.take (Int.toNat a2) a0.2.2.2.2.1)) e1.1 v54 (fun u55 => kk56 u55) (fun z11 => ifb (ige z11 (0 : Int)) (k (6 : Int)) (bf (bS ([e1.2.2.1, e1.2.2.2.1])) fun r12 => bw (fun (v36 : Int) kk38 => dS a1 r12 (bG ([(5 : Int), (4 : Int)])) e1.2.1 ([(5 : Int), (4 : Int)]) v36 (fun u37 => kk38 u37) (fun z23 => k z23) (fun _ => bw (fun (v33 : Int) kk35 => dR r12 (bG r12) a0.1.1 a0.1.2 a0.2.1 a0.2.2.1 a0.2.2.2.1 a0.2.2.2.2.1 a0.2.2.2.2.2 e1.2.1 v33 (fun u34 => kk35 u34) (fun z28 => k z28) (fun _ => bf (eO e1.2.2.1 e1.2.2.2.1) fun r30 => bf (eO e1.2.2.2.1 e1.2.2.1) fun r31 => ifb (igt (bG r30) (1 : Int)) (k (1 : Int)) (ifb (igt (bG r31) (1 : Int)) (k (1 : Int)) (ck ((bG r30) + (bG r31)) fun n32 => ifb (ieq n32 (0 : Int)) (k (1 : Int)) (k (0 : Int)))))) (0 : Int))) (0 : Int))) (fun _ => bf (bS ([e1.2.2.1, e1.2.2.2.1])) fun r40 => bw (fun (v51 : Int) kk53 => dS a1 r40 (bG ([(5 : Int), (4 : Int)])) e1.2.1 ([(5 : Int), (4 : Int)]) v51 (fun u52 => kk53 u52) (fun z41 => k z41) (fun _ => bw (fun (v48 : Int) kk50 => dR r40 (bG r40) a0.1.1 a0.1.2 a0.2.1 a0.2.2.1 a0.2.2.2.1 a0.2.2.2.2.1 a0.2.2.2.2.2 e1.2.1 v48 (fun u49 => kk50 u49) (fun z43 => k z43) (fun _ => bf (eO e1.2.2.1 e1.2.2.2.1) fun r45 => bf (eO e1.2.2.2.1 e1.2.2.1) fun r46 => ifb (igt (bG r45) (1 : Int)) (k (1 : Int)) (ifb (igt (bG r46) (1 : Int)) (k (1 : Int)) (ck ((bG r45) + (bG r46)) fun n47 => ifb (ieq n47 (0 : Int)) (k (1 : Int)) (k (0 : Int)))))) (0 : Int))) (0 : Int))) (0 : Int)))))))))
def dK (a0 : Val bg) (a1 : (Val ao)) (a2 : Int) : Option (Int) := l6 a0 a1 a2 some
def lM (b : Val bg) (s : Val ao) : Option (List Int) :=
  bf (GZ (fun u => dI u.1 u.2 s) (b.2.2.1 : List (Int × Int))) fun l1 => bf (GZ (fun i => fK b s i) (tx (b.2.2.2.1 : List (Val dC)).length)) fun l2 =>
    bf (GZ (fun i => dK b s i) (tx (b.2.2.2.2.1 : List (Val bq)).length)) fun l3 => bf (GZ (fun u => dI u.1 u.2 s) (b.2.2.2.2.2 : List (Int × Int))) fun l4 => some (l1 ++ (l2 ++ (l3 ++ l4)))
def IB (a0 : Val bg) (k : Int → Option ρ) : Option ρ :=
  bf (fG a0.1 (0 : Int) (1000000 : Int)) fun r1 => ifb (!r1) (k (1 : Int)) (ifb (igt (bG a0.2.1) (12 : Int)) (k (2 : Int)) (ifb (igt (bG a0.2.2.1) (40 : Int)) (k (2 : Int)) (ifb (igt (bG a0.2.2.2.1) (12 : Int)) (k (2 : Int)) (ifb (igt (bG a0.2.2.2.2.1) (40 : Int)) (k (2 : Int)) (ifb (igt (bG a0.2.2.2.2.2) (10 : Int)) (k (2 : Int)) (bf (fi a0) fun r2 => ifb (ine r2 (0 : Int)) (k r2) (bf (fW a0) fun r3 => P8 (lM a0 r3) (fun e4 => k e4) (bf (nH a0) fun r5 => ifb (igt (bG r5) (59 : Int)) (k (2 : Int)) (ck ((2 : Int) * (bG a0.2.1)) fun n6 => ck ((bG r5) - (bG a0.2.1)) fun n7 => ck ((2 : Int) * n7) fun n8 => ck (n6 + n8) fun n9 => ck ((2 : Int) * (bG a0.2.2.2.2.1)) fun n10 => ck (n9 + n10) fun n11 => ifb (igt n11 (300 : Int)) (k (2 : Int)) (k (0 : Int)))))))))))
def cd (a0 : Val bg) : Option (Int) := IB a0 some
def vW (l : List (Val br)) (m : List (Int × Bool)) : Option (List (Val br)) :=
  b9 (bZ l.length) (some (l.filter fun g => (pL (k := tI) (v := .bool) g.1 m).getD false))
def pY (c0 : (Val ac)) (c1 : Int) (v0 : Int) (v1 : (Val aj)) (kn : Int → (Val aj) → Option ρ) (k0 : (Val aj) → Option ρ) : Option ρ :=
  ifb (ilt v0 c1) (dm c0 v0 fun e9 => ck (v0 + (1 : Int)) fun n10 => kn n10 (F0 (k := tI) (v := .bool) e9 true v1)) (k0 v1)
def vM (c1 : (Val aa)) (c2 : Int) (c5 : (Val ae)) (c8 : (Val ab)) (v0 : Int) (v1 : (Val aj)) (v2 : (Val aj)) (kn : Int → (Val aj) → (Val aj) → Option ρ) (k0 : (Val (.pair aj aj)) → Option ρ) : Option ρ :=
  ifb (ilt v0 c2) (dm c1 v0 fun e1 => ifb (fm e1.1 0) (none) (ifb (fm e1.1 1) (dm c5 e1.2 fun e2 => ck (v0 + (1 : Int)) fun n3 => kn n3 (F0 (k := tI) (v := .bool) e2.1 true v1) v2) (ifb (fm e1.1 2) (dm c5 e1.2 fun e4 => ck (v0 + (1 : Int)) fun n5 => kn n5 (F0 (k := tI) (v := .bool) e4.1 true v1) v2) (b9 (fm e1.1 3) (dm c8 e1.2 fun e6 => dm c8 e1.2 fun e7 => bf (bS ([e6.2.2.1, e7.2.2.2.1])) fun r8 => bw (fun (v13 : (Val (.pair tI aj))) kk16 => pY r8 (bG r8) v13.1 v13.2 (fun u14 u15 => kk16 (u14, u15)) (fun z11 => ck (v0 + (1 : Int)) fun n12 => kn n12 z11 (F0 (k := tI) (v := .bool) e1.2 true v2))) ((0 : Int), v1)))))) (k0 (v1, v2))
def pX (c1 : (Val aa)) (c2 : Int) (v0 : Int) (v1 : (Val aj)) (kn : Int → (Val aj) → Option ρ) (k0 : (Val aj) → Option ρ) : Option ρ :=
  ifb (ilt v0 c2) (dm c1 v0 fun e18 => ck (v0 + (1 : Int)) fun n19 => kn n19 (F0 (k := tI) (v := .bool) e18.1 true v1)) (k0 v1)
def pW (c0 : (Val aa)) (c1 : Int) (c19 : (Val aj)) (v0 : Int) (v1 : (Val aa)) (kn : Int → (Val aa) → Option ρ) (k0 : (Val aa) → Option ρ) : Option ρ :=
  ifb (ilt v0 c1) (dm c0 v0 fun e21 => PE (k := tI) (v := .bool) e21.1 c19 (fun y22 => ifb y22 (b9 (bZ ((List.length v1) + (List.length ([e21])))) (ck (v0 + (1 : Int)) fun n23 => kn n23 (v1 ++ ([e21])))) (ck (v0 + (1 : Int)) fun n24 => kn n24 v1)) (ck (v0 + (1 : Int)) fun n25 => kn n25 v1)) (k0 v1)
def pV (c0 : (Val af)) (c1 : Int) (c19 : (Val aj)) (v0 : Int) (v1 : (Val af)) (kn : Int → (Val af) → Option ρ) (k0 : (Val af) → Option ρ) : Option ρ :=
  ifb (ilt v0 c1) (dm c0 v0 fun e27 => PE (k := tI) (v := .bool) e27.1 c19 (fun y28 => ifb y28 (b9 (bZ ((List.length v1) + (List.length ([e27])))) (ck (v0 + (1 : Int)) fun n29 => kn n29 (v1 ++ ([e27])))) (ck (v0 + (1 : Int)) fun n30 => kn n30 v1)) (ck (v0 + (1 : Int)) fun n31 => kn n31 v1)) (k0 v1)
def pU (c0 : (Val ab)) (c1 : Int) (c12 : (Val aj)) (v0 : Int) (v1 : (Val ab)) (kn : Int → (Val ab) → Option ρ) (k0 : (Val ab) → Option ρ) : Option ρ :=
  ifb (ilt v0 c1) (dm c0 v0 fun e33 => PE (k := tI) (v := .bool) v0 c12 (fun y34 => ifb y34 (b9 (bZ (List.length e33.2.2.1)) (b9 (bZ (List.length e33.2.2.2.1)) (b9 (bZ ((List.length v1) + (List.length ([e33])))) (ck (v0 + (1 : Int)) fun n35 => kn n35 (v1 ++ ([e33])))))) (ck (v0 + (1 : Int)) fun n36 => kn n36 v1)) (ck (v0 + (1 : Int)) fun n37 => kn n37 v1)) (k0 v1)
def lC (p : (Val aP)) (v : (Val ag)) (k : Val bg → Option ρ) : Option ρ :=
  bw (fun (v47 : (Val aA)) kk50 => pW v.2.2.2.1 (bG v.2.2.2.1) v.2.2.2.2.2.2.2.2.2.2.2.2.2.2.2.2.2.2.2.2.2.1 v47.1 v47.2 (fun u48 u49 => kk50 (u48, u49)) (fun z26 => bw (fun (v43 : (Val (.pair tI af))) kk46 => pV v.2.2.2.2.1 (bG v.2.2.2.2.1) v.2.2.2.2.2.2.2.2.2.2.2.2.2.2.2.2.2.2.2.2.2.1 v43.1 v43.2 (fun u44 u45 => kk46 (u44, u45)) (fun z32 => bw (fun (v39 : (Val (.pair tI ab))) kk42 => pU v.2.2.2.2.2.1 (bG v.2.2.2.2.2.1) v.2.2.2.2.2.2.2.2.2.2.2.2.2.2.2.2.2.2.2.2.2.2.1 v39.1 v39.2 (fun u40 u41 => kk42 (u40, u41)) (fun z38 => k ((p.1, p.2.1), v.2.2.2.2.2.2.2.2.2.2.2.2.2.2.2.2.2.2.2.2.2.2.2, z26, z32, z38, p.2.2))) ((0 : Int), []))) ((0 : Int), []))) ((0 : Int), [])
def Ac (a0 : Val bg) (a1 : (Val aa)) (a2 : (Val aa)) (kA : (Val aP) → (Val ag) → Option ρ) : Option ρ :=
  bw (fun (v55 : (Val (.pair tI (.pair aj aj)))) kk59 => vM a1 (bG a1) a0.2.1 a0.2.2.2.2.1 v55.1 v55.2.1 v55.2.2 (fun u56 u57 u58 => kk59 (u56, u57, u58)) (fun z17 => bw (fun (v51 : (Val (.pair tI aj))) kk54 => pX a2 (bG a2) v51.1 v51.2 (fun u52 u53 => kk54 (u52, u53)) (fun z20 => kA (a0.1.1, a0.1.2, a2) (a0.1.1, a0.1.2, a0.2.1, a0.2.2.1, a0.2.2.2.1, a0.2.2.2.2.1, a0.2.2.2.2.2, (0 : Int), (0 : Int), [], [], [], [], [], a0.1.1, a0.1.2, a0.2.1, a0.2.2.1, a0.2.2.2.1, a0.2.2.2.2.1, a0.2.2.2.2.2, z20, z17.2, []))) ((0 : Int), z17.1))) ((0 : Int), [], [])
def Yl (a0 : Val bg) (a1 : (Val aa)) (a2 : (Val aa)) (k : Val bg → Option ρ) : Option ρ :=
  Ac a0 a1 a2 fun p v => bf (vW v.2.2.2.2.2.2.2.2.2.2.2.2.2.2.2.2.1 v.2.2.2.2.2.2.2.2.2.2.2.2.2.2.2.2.2.2.2.2.2.1) fun z => lC p (v.1, v.2.1, v.2.2.1, v.2.2.2.1, v.2.2.2.2.1, v.2.2.2.2.2.1, v.2.2.2.2.2.2.1, v.2.2.2.2.2.2.2.1, v.2.2.2.2.2.2.2.2.1, v.2.2.2.2.2.2.2.2.2.1, v.2.2.2.2.2.2.2.2.2.2.1, v.2.2.2.2.2.2.2.2.2.2.2.1, v.2.2.2.2.2.2.2.2.2.2.2.2.1, v.2.2.2.2.2.2.2.2.2.2.2.2.2.1, v.2.2.2.2.2.2.2.2.2.2.2.2.2.2.1, v.2.2.2.2.2.2.2.2.2.2.2.2.2.2.2.1, v.2.2.2.2.2.2.2.2.2.2.2.2.2.2.2.2.1, v.2.2.2.2.2.2.2.2.2.2.2.2.2.2.2.2.2.1, v.2.2.2.2.2.2.2.2.2.2.2.2.2.2.2.2.2.2.1, v.2.2.2.2.2.2.2.2.2.2.2.2.2.2.2.2.2.2.2.1, v.2.2.2.2.2.2.2.2.2.2.2.2.2.2.2.2.2.2.2.2.1, v.2.2.2.2.2.2.2.2.2.2.2.2.2.2.2.2.2.2.2.2.2.1, v.2.2.2.2.2.2.2.2.2.2.2.2.2.2.2.2.2.2.2.2.2.2.1, z) k
def I4 (a0 : Val bg) (a1 : (Val aa)) (a2 : (Val aa)) : Option (Val bg) := Yl a0 a1 a2 some
end Go.Proofs.ZzM
end

noncomputable section
variable {ρ : Type}
set_option maxRecDepth 100000
namespace Go.Proofs.ZzM
open Go Go.Am
def Cm (a0 : Val bq) (k : Bool → Option ρ) : Option ρ :=
  ifb (ile (bG a0.2.2.1) (10 : Int)) (k (ile (bG a0.2.2.2.1) (10 : Int))) (k false)
def wa (a0 : Val bq) : Option (Bool) := Cm a0 some
def qS (c5 : (Val ab)) (v0 : Int) (kn : Int → Option ρ) (k0 : Bool → Option ρ) (k1 : Unit → Option ρ) : Option ρ :=
  ifb (ilt v0 (bG c5)) (ifb (ilt v0 (50 : Int)) (dm c5 v0 fun e1 => bf (wa e1) fun r2 => ifb (!r2) (k0 false) (ck (v0 + (1 : Int)) fun n3 => kn n3)) (k1 ())) (k1 ())
def Np (a0 : Val bg) (k : Bool → Option ρ) : Option ρ :=
  bw (fun (v6 : Int) kk8 => qS a0.2.2.2.2.1 v6 (fun u7 => kk8 u7) (fun z4 => k z4) (fun _ => ifb (ile (bG a0.2.1) (14 : Int)) (ifb (ile (bG a0.2.2.1) (45 : Int)) (ifb (ile (bG a0.2.2.2.1) (14 : Int)) (ifb (ile (bG a0.2.2.2.2.1) (42 : Int)) (k (ile (bG a0.2.2.2.2.2) (12 : Int))) (k false)) (k false)) (k false)) (k false))) (0 : Int)
def Gb (a0 : Val bg) : Option (Bool) := Np a0 some
def rN (c0 : Int) (c1 : Int) (c2 : (Val af)) (c3 : Int) (c11 : Int) (v0 : Int) (v1 : Int) (kn : Int → Int → Option ρ) (k0 : Int → Option ρ) : Option ρ :=
  ifb (ilt v1 c3) (dm c2 v1 fun e1 => ck (c1 - (1 : Int)) fun n2 => ck ((SP e1.2.1.2 n2) - (PF e1.2.1.1 c0)) fun n3 => ck (n3 + (1 : Int)) fun n4 => ifb (ieq e1.1 c11) (ifb (igt n4 (0 : Int)) (ck (n4 * e1.2.2) fun n5 => ck (v0 + n5) fun n6 => ck (v1 + (1 : Int)) fun n7 => kn n6 n7) (ck (v1 + (1 : Int)) fun n8 => kn v0 n8)) (ck (v1 + (1 : Int)) fun n9 => kn v0 n9)) (k0 v0)
def rM (c0 : Int) (c1 : Int) (c3 : (Val aa)) (c4 : Int) (c5 : Int) (v0 : Int) (v1 : (Val ac)) (kn : Int → (Val ac) → Option ρ) (k0 : (Val ac) → Option ρ) : Option ρ :=
  ifb (ilt v0 c4) (dm c3 v0 fun e11 => ifb (ieq e11.1 c5) (ck (c1 - (1 : Int)) fun n12 => bf (cF e11.2 c0 n12) fun r13 => ifb r13 (b9 (bZ ((List.length v1) + (List.length ([e11.2])))) (ck (v0 + (1 : Int)) fun n14 => kn n14 (v1 ++ ([e11.2])))) (ck (v0 + (1 : Int)) fun n15 => kn n15 v1)) (ck (v0 + (1 : Int)) fun n16 => kn n16 v1)) (k0 v1)
def Ox (a0 : Val bg) (a1 : Val br) (a2 : Int) (a3 : Int) (k : Int → Option ρ) : Option ρ :=
  bw (fun (v24 : Val bc) kk27 => rN a2 a3 a0.2.2.2.1 (bG a0.2.2.2.1) a1.1 v24.1 v24.2 (fun u25 u26 => kk27 (u25, u26)) (fun z10 => bw (fun (v20 : (Val ax)) kk23 => rM a2 a3 a0.2.2.1 (bG a0.2.2.1) a1.1 v20.1 v20.2 (fun u21 u22 => kk23 (u21, u22)) (fun z17 => b9 (bZ (List.length z17)) (b9 (bZ (List.length (za z17))) (ck ((bG (wj (za z17))) * a1.2.2.2.2.2) fun n18 => ck (z10 + n18) fun n19 => k n19)))) ((0 : Int), []))) ((0 : Int), (0 : Int))
def we (a0 : Val bg) (a1 : Val br) (a2 : Int) (a3 : Int) : Option (Int) := Ox a0 a1 a2 a3 some
def dh (c0 : (Val aa)) (c1 : Int) (c2 : Int) (c3 : Int) (v0 : Int) (kn : Int → Option ρ) (k0 : Int → Option ρ) (k1 : Unit → Option ρ) : Option ρ :=
  ifb (ilt v0 c1) (dm c0 v0 fun e1 => ifb ((fm c2 e1.1) && ((fm c3 e1.2) && true)) (k0 v0) (ck (v0 + (1 : Int)) fun n2 => kn n2)) (k1 ())
def fc (a0 : (Val aa)) (a1 : Val bc) (k : Int → Option ρ) : Option ρ :=
  bw (fun (v5 : Int) kk7 => dh a0 (bG a0) a1.1 a1.2 v5 (fun u6 => kk7 u6) (fun z3 => k z3) (fun _ => k (-1 : Int))) (0 : Int)
def ca (a0 : (Val aa)) (a1 : Val bc) : Option (Int) := fc a0 a1 some
def uO (a0 : (Val aB)) (a1 : (Val ac)) (a2 : Int) (k : Int → Option ρ) : Option ρ :=
  ifb (ieq (bG a1) (0 : Int)) (k (0 : Int)) (dm a1 (0 : Int) fun e1 => bf (ca a0.2.1 (e1, a2)) fun r2 => ck (r2 + (1 : Int)) fun n3 => k n3)
def gE (a0 : (Val aB)) (a1 : (Val ac)) (a2 : Int) : Option (Int) := uO a0 a1 a2 some
def l5 (a0 : (Val ao)) (a1 : (Val ac)) (k : Val bc → Option ρ) : Option ρ :=
  ifb (ieq (bG a1) (0 : Int)) (k ((0 : Int), (1 : Int))) (dm a1 (0 : Int) fun e1 => PE (k := tI) (v := br) e1 a0 (fun y2 => k y2.2.2.2.2.1) (k ((0 : Int), (0 : Int))))
def gV (a0 : (Val ao)) (a1 : (Val ac)) : Option (Val bc) := l5 a0 a1 some
def oB (c0 : (Val aa)) (c1 : Int) (v0 : Int) (kn : Int → Option ρ) (k0 : Int → Option ρ) (k1 : Unit → Option ρ) : Option ρ :=
  ifb (ilt v0 c1) (dm c0 v0 fun e1 => bf (qA e1) fun r2 => ifb (!r2) (k0 (1 : Int)) (ck (v0 + (1 : Int)) fun n3 => kn n3)) (k1 ())
def HX (a0 : (Val aa)) (k : Int → Option ρ) : Option ρ :=
  bw (fun (v6 : Int) kk8 => oB a0 (bG a0) v6 (fun u7 => kk8 u7) (fun z4 => k z4) (fun _ => k (0 : Int))) (0 : Int)
def i5 (a0 : (Val aa)) : Option (Int) := HX a0 some
def yu (a0 : Int) (a1 : Int) (k : Val jF → Option ρ) : Option ρ :=
  bf (oP a0) fun r1 => bf (oP a1) fun r2 => bf (I5 r1 r2) fun r3 => ifb (fm r3 0) (none) (ifb (fm r3 0) (none) (ifb (igt (IntKind.wrap .u64 (Int.tdiv r1 r3)) (2147483647 : Int)) (k (((0 : Int), (0 : Int)), (3 : Int))) (ifb (igt (IntKind.wrap .u64 (Int.tdiv r2 r3)) (2147483647 : Int)) (k (((0 : Int), (0 : Int)), (3 : Int))) (ifb (!((ilt a0 (0 : Int)) == (ilt a1 (0 : Int)))) (ck (0 - (IntKind.wrap .i64 (IntKind.wrap .u64 (Int.tdiv r1 r3)))) fun n4 => k ((n4, (IntKind.wrap .i64 (IntKind.wrap .u64 (Int.tdiv r2 r3)))), (0 : Int))) (k (((IntKind.wrap .i64 (IntKind.wrap .u64 (Int.tdiv r1 r3))), (IntKind.wrap .i64 (IntKind.wrap .u64 (Int.tdiv r2 r3)))), (0 : Int)))))))
def nF (a0 : Int) (a1 : Int) : Option (Val jF) := yu a0 a1 some
def TS (a0 : Val bc) (a1 : Val bc) (k : Val jF → Option ρ) : Option ρ :=
  bf (i5 ([a0, a1])) fun r1 => ifb (ine r1 (0 : Int)) (k (((0 : Int), (0 : Int)), r1)) (ck (a0.1 * a1.2) fun n2 => ck (a1.1 * a0.2) fun n3 => ck (n2 - n3) fun n4 => ck (a0.2 * a1.2) fun n5 => bf (nF n4 n5) fun r6 => k (r6.1, r6.2))
def O8 (a0 : Val bc) (a1 : Val bc) : Option (Val jF) := TS a0 a1 some
def rG (a0 : Val bc) (a1 : Val bc) (k : Val bc → Option ρ) : Option ρ :=
  bf (O8 a0 a1) fun r1 => k r1.1
def sg (a0 : Val bc) (a1 : Val bc) : Option (Val bc) := rG a0 a1 some
def TQ (a0 : Val bc) (a1 : Val bc) (k : Int → Option ρ) : Option ρ :=
  ck (a0.1 * a1.2) fun n1 => ck (a1.1 * a0.2) fun n2 => ifb ((fm a0.1 a1.1) && ((fm a0.2 a1.2) && true)) (k (0 : Int)) (ifb (ilt n1 n2) (k (-1 : Int)) (ifb (igt n1 n2) (k (1 : Int)) (k (0 : Int))))
def I6 (a0 : Val bc) (a1 : Val bc) : Option (Int) := TQ a0 a1 some
def pn (a0 : Val cg) (k : Bool → Option ρ) : Option ρ :=
  bf (i5 ([a0.1, a0.2])) fun r1 => ifb (ieq r1 (0 : Int)) (bf (I6 a0.1 a0.2) fun r2 => k (ile r2 (0 : Int))) (k false)
def pw (a0 : Val cg) : Option (Bool) := pn a0 some
def TU (a0 : Val bc) (a1 : Val bc) (k : Val jF → Option ρ) : Option ρ :=
  bf (i5 ([a0, a1])) fun r1 => ifb (ine r1 (0 : Int)) (k (((0 : Int), (0 : Int)), r1)) (ck (a0.1 * a1.1) fun n2 => ck (a0.2 * a1.2) fun n3 => bf (nF n2 n3) fun r4 => k (r4.1, r4.2))
def I8 (a0 : Val bc) (a1 : Val bc) : Option (Val jF) := TU a0 a1 some
def Ib (a0 : Val cg) (a1 : Val bc) (k : Val Xz → Option ρ) : Option ρ :=
  bf (pw a0) fun r1 => ifb (!r1) (k ((((0 : Int), (0 : Int)), (0 : Int), (0 : Int)), (1 : Int))) (bf (qA a1) fun r2 => ifb (!r2) (k ((((0 : Int), (0 : Int)), (0 : Int), (0 : Int)), (1 : Int))) (bf (I8 a1 a0.1) fun r3 => ifb (ine r3.2 (0 : Int)) (k ((((0 : Int), (0 : Int)), (0 : Int), (0 : Int)), r3.2)) (bf (I8 a1 a0.2) fun r4 => ifb (ine r4.2 (0 : Int)) (k ((((0 : Int), (0 : Int)), (0 : Int), (0 : Int)), r4.2)) (bf (I6 r3.1 r4.1) fun r5 => ifb (igt r5 (0 : Int)) (k ((r4.1, r3.1), (0 : Int))) (k ((r3.1, r4.1), (0 : Int)))))))
def I7 (a0 : Val cg) (a1 : Val bc) : Option (Val Xz) := Ib a0 a1 some
def rE (a0 : Val bc) (a1 : Val bc) (k : Val cg → Option ρ) : Option ρ :=
  bf (I7 ((a1.1, (1 : Int)), a1.2, (1 : Int)) a0) fun r1 => k r1.1
def mz (a0 : Val bc) (a1 : Val bc) : Option (Val cg) := rE a0 a1 some
def C6 (a0 : Val bg) (a1 : Val bq) (k : Val cg → Option ρ) : Option ρ :=
  bf (fW a0) fun r1 => bf (eO a1.2.2.1 a1.2.2.2.1) fun r2 => bf (gV r1 r2) fun r3 => bf (eO a1.2.2.2.1 a1.2.2.1) fun r4 => bf (gV r1 r4) fun r5 => bf (sg r3 r5) fun r6 => bf (mz r6 a1.2.2.2.2.2.2) fun r7 => k r7
def mS (a0 : Val bg) (a1 : Val bq) : Option (Val cg) := C6 a0 a1 some
def Ix (a0 : Val bg) (a1 : Val bq) (k : Val bc → Option ρ) : Option ρ :=
  ck ((bG a1.2.2.1) - (1 : Int)) fun n1 => ck ((bG a1.2.2.2.1) - (1 : Int)) fun n2 => ck ((PF (0 : Int) n1) * a0.1.1) fun n3 => ck ((PF (0 : Int) n2) * a0.1.2) fun n4 => ck (n3 - n4) fun n5 => ck ((PF (0 : Int) n1) * a0.1.2) fun n6 => ck ((PF (0 : Int) n2) * a0.1.1) fun n7 => ck (n6 - n7) fun n8 => k (n5, n8)
def qC (a0 : Val bg) (a1 : Val bq) : Option (Val bc) := Ix a0 a1 some
def H6 (a0 : Int) (a1 : Int) (k : Int → Option ρ) : Option ρ :=
  ifb (fm a1 0) (none) (ck (Int.tdiv a0 a1) fun n1 => ifb (fm a1 0) (none) (ifb (ilt (Int.tmod a0 a1) (0 : Int)) (ck (n1 - (1 : Int)) fun n2 => k n2) (k n1)))
def vn (a0 : Int) (a1 : Int) : Option (Int) := H6 a0 a1 some
def Oh (a0 : Val bc) (k : Val bc → Option ρ) : Option ρ :=
  bf (i5 ([a0])) fun r1 => ifb (ine r1 (0 : Int)) (k ((0 : Int), r1)) (ck (0 - a0.1) fun n2 => bf (vn n2 a0.2) fun r3 => ck (0 - r3) fun n4 => k (n4, (0 : Int)))
def BH (a0 : Val bc) : Option (Val bc) := Oh a0 some
def Ie (a0 : Val bc) (k : Val bc → Option ρ) : Option ρ :=
  bf (i5 ([a0])) fun r1 => ifb (ine r1 (0 : Int)) (k ((0 : Int), r1)) (bf (vn a0.1 a0.2) fun r2 => k (r2, (0 : Int)))
def vo (a0 : Val bc) : Option (Val bc) := Ie a0 some
def Om (a0 : Val bg) (a1 : Val bq) (k : Val bc → Option ρ) : Option ρ :=
  bf (mS a0 a1) fun r1 => bf (qC a0 a1) fun r2 => bf (vo r1.2) fun r3 => bf (BH r1.1) fun r4 => ck (a1.2.2.2.2.1 - a1.2.2.2.2.2.1) fun n5 => ck (n5 - r2.2) fun n6 => ck (n6 - r3.1) fun n7 => ck (a1.2.2.2.2.1 + a1.2.2.2.2.2.1) fun n8 => ck (n8 - r2.1) fun n9 => ck (n9 - r4.1) fun n10 => k (n7, n10)
def sf (a0 : Val bg) (a1 : Val bq) : Option (Val bc) := Om a0 a1 some
def rK (c0 : Int) (c1 : (Val ac)) (c2 : Int) (c13 : Int) (c14 : Int) (c15 : (Val ae)) (c16 : (Val aa)) (c17 : (Val af)) (c18 : (Val ab)) (c19 : (Val aa)) (c22 : Int) (c23 : Int) (c24 : Int) (c25 : Int) (c26 : Int) (c27 : Int) (c28 : Int) (c29 : Int) (v0 : Int) (v1 : (Val ah)) (v2 : (Val aa)) (kn : Int → (Val ah) → (Val aa) → Option ρ) (k0 : Val yX → Option ρ) : Option ρ :=
  ifb (ilt v0 (bG c1)) (ck (c2 + v0) fun n9 => ck (n9 - (1 : Int)) fun n10 => ck (c2 + v0) fun n11 => ck (v0 - (1 : Int)) fun n12 => dm c1 n12 fun e13 => dm c1 v0 fun e14 => bf (we ((c13, c14), c15, c16, c17, c18, c19) (c22, c23, c24, (c25, c26), (c27, c28), c29) e13 e14) fun r15 => ck (0 - r15) fun n16 => ck (0 - n16) fun n17 => b9 (bZ ((List.length v1) + (List.length ([(n10, n11, (0 : Int)), (n11, n10, n17)])))) (b9 (bZ ((List.length v2) + (List.length ([((2 : Int), c0), ((2 : Int), c0)])))) (ck (v0 + (1 : Int)) fun n18 => kn n18 (v1 ++ ([(n10, n11, (0 : Int)), (n11, n10, n17)])) (v2 ++ ([((2 : Int), c0), ((2 : Int), c0)]))))) (k0 (v1, v2))
def rL (c0 : (Val ae)) (c1 : Int) (c9 : Int) (c10 : Int) (c11 : (Val ae)) (c12 : (Val aa)) (c13 : (Val af)) (c14 : (Val ab)) (c15 : (Val aa)) (c16 : (Val aa)) (c17 : Int) (v0 : Int) (v1 : (Val ah)) (v2 : (Val aa)) (kn : Int → (Val ah) → (Val aa) → Option ρ) (k0 : Val yX → Option ρ) : Option ρ :=
  ifb (ilt v0 c1) (dm c0 v0 fun e3 => bf (mA ((c9, c10), c11, c12, c13, c14, c15) e3) fun r4 => bf (gE (((c9, c10), c11, c12, c13, c14, c15), c16, (c17, v1), v2) ([e3.1]) e3.2.1) fun r5 => ck (e3.2.2.1 + e3.2.2.2.1.1) fun n6 => ck (e3.2.2.1 + e3.2.2.2.1.2) fun n7 => ck (0 - n6) fun n8 => b9 (bZ ((List.length v1) + (List.length ([((0 : Int), r5, n7), (r5, (0 : Int), n8)])))) (b9 (bZ ((List.length v2) + (List.length ([((1 : Int), v0), ((1 : Int), v0)])))) (bw (fun (v21 : (Val (.pair tI yX))) kk25 => rK v0 r4 r5 c9 c10 c11 c12 c13 c14 c15 e3.1 e3.2.1 e3.2.2.1 e3.2.2.2.1.1 e3.2.2.2.1.2 e3.2.2.2.2.1.1 e3.2.2.2.2.1.2 e3.2.2.2.2.2 v21.1 v21.2.1 v21.2.2 (fun u22 u23 u24 => kk25 (u22, u23, u24)) (fun z19 => ck (v0 + (1 : Int)) fun n20 => kn n20 z19.1 z19.2)) ((1 : Int), (v1 ++ ([((0 : Int), r5, n7), (r5, (0 : Int), n8)])), (v2 ++ ([((1 : Int), v0), ((1 : Int), v0)])))))) (k0 (v1, v2))
def rJ (c0 : (Val ab)) (c1 : Int) (c9 : Int) (c10 : Int) (c11 : (Val ae)) (c12 : (Val aa)) (c13 : (Val af)) (c14 : (Val ab)) (c15 : (Val aa)) (c16 : (Val aa)) (c17 : Int) (v0 : Int) (v1 : (Val ah)) (v2 : (Val aa)) (kn : Int → (Val ah) → (Val aa) → Option ρ) (k0 : Val yX → Option ρ) : Option ρ :=
  ifb (ilt v0 c1) (dm c0 v0 fun e27 => bf (eO e27.2.2.2.1 e27.2.2.1) fun r28 => bf (gE (((c9, c10), c11, c12, c13, c14, c15), c16, (c17, v1), v2) r28 e27.2.1) fun r29 => bf (eO e27.2.2.1 e27.2.2.2.1) fun r30 => bf (gE (((c9, c10), c11, c12, c13, c14, c15), c16, (c17, v1), v2) r30 e27.2.1) fun r31 => bf (sf ((c9, c10), c11, c12, c13, c14, c15) e27) fun r32 => ck (0 - r32.1) fun n33 => b9 (bZ ((List.length v1) + (List.length ([(r29, r31, r32.2), (r31, r29, n33)])))) (b9 (bZ ((List.length v2) + (List.length ([((3 : Int), v0), ((3 : Int), v0)])))) (ck (v0 + (1 : Int)) fun n34 => kn n34 (v1 ++ ([(r29, r31, r32.2), (r31, r29, n33)])) (v2 ++ ([((3 : Int), v0), ((3 : Int), v0)]))))) (k0 (v1, v2))
def Ou (a0 : Val bg) (k : (Val aB) → Option ρ) : Option ρ :=
  bf (nH a0) fun r1 => ck ((bG r1) + (1 : Int)) fun n2 => bw (fun (v41 : (Val (.pair tI yX))) kk45 => rL a0.2.1 (bG a0.2.1) a0.1.1 a0.1.2 a0.2.1 a0.2.2.1 a0.2.2.2.1 a0.2.2.2.2.1 a0.2.2.2.2.2 r1 n2 v41.1 v41.2.1 v41.2.2 (fun u42 u43 u44 => kk45 (u42, u43, u44)) (fun z26 => bw (fun (v36 : (Val (.pair tI yX))) kk40 => rJ a0.2.2.2.2.1 (bG a0.2.2.2.2.1) a0.1.1 a0.1.2 a0.2.1 a0.2.2.1 a0.2.2.2.1 a0.2.2.2.2.1 a0.2.2.2.2.2 r1 n2 v36.1 v36.2.1 v36.2.2 (fun u37 u38 u39 => kk40 (u37, u38, u39)) (fun z35 => k (a0, r1, (n2, z35.1), z35.2))) ((0 : Int), z26.1, z26.2))) ((0 : Int), [], [])
def wd (a0 : Val bg) : Option ((Val aB)) := Ou a0 some
def Da (a0 : Val bg) (k : (Val (.pair bo (.pair aa tI))) → Option ρ) : Option ρ :=
  bf (cd a0) fun r1 => ifb (ine r1 (0 : Int)) (k (((0 : Int), []), [], r1)) (bf (wd a0) fun r2 => k (r2.2.2.1, r2.2.2.2, (0 : Int)))
def df (a0 : Val bg) : Option ((Val (.pair bo (.pair aa tI)))) := Da a0 some
def IA (a0 : Val bg) (a1 : Val bc) (k : Val bc → Option ρ) : Option ρ :=
  bf (cd a0) fun r1 => ifb (ine r1 (0 : Int)) (k ((0 : Int), r1)) (bf (nH a0) fun r2 => bf (ca r2 a1) fun r3 => ifb (ilt r3 (0 : Int)) (k ((0 : Int), (5 : Int))) (ck (r3 + (1 : Int)) fun n4 => k (n4, (0 : Int))))
def dg (a0 : Val bg) (a1 : Val bc) : Option (Val bc) := IA a0 a1 some
def yf (a0 : (Val au)) (a1 : Val bc) (k : Int → Option ρ) : Option ρ :=
  bf (dg a0.1 a1) fun r1 => k r1.1
def fV (a0 : (Val au)) (a1 : Val bc) : Option (Int) := yf a0 a1 some
def NX (a0 : Val bo) (a1 : Int) (k : Bool → Option ρ) : Option ρ :=
  ifb (ige a1 (0 : Int)) (k (ilt a1 a0.1)) (k false)
def oN (a0 : Val bo) (a1 : Int) : Option (Bool) := NX a0 a1 some
def ow (c0 : (Val ah)) (c1 : Int) (c2 : Int) (c3 : (Val ah)) (v0 : Int) (kn : Int → Option ρ) (k0 : Val bc → Option ρ) (k1 : Unit → Option ρ) : Option ρ :=
  ifb (ilt v0 c1) (dm c0 v0 fun e1 => bf (oN (c2, c3) e1.1) fun r2 => ifb (!r2) (k0 ((1 : Int), v0)) (bf (oN (c2, c3) e1.2.1) fun r3 => ifb (!r3) (k0 ((1 : Int), v0)) (ifb (ieq e1.1 e1.2.1) (k0 ((1 : Int), v0)) (ifb (ilt e1.2.2 (-4503599627370496 : Int)) (k0 ((1 : Int), v0)) (ifb (igt e1.2.2 (4503599627370496 : Int)) (k0 ((1 : Int), v0)) (ck (v0 + (1 : Int)) fun n4 => kn n4)))))) (k1 ())
def HO (a0 : Val bo) (k : Val bc → Option ρ) : Option ρ :=
  ifb (ilt a0.1 (1 : Int)) (k ((1 : Int), (-1 : Int))) (ifb (igt a0.1 (60 : Int)) (k ((1 : Int), (-1 : Int))) (ifb (igt (bG a0.2) (300 : Int)) (k ((2 : Int), (-1 : Int))) (bw (fun (v7 : Int) kk9 => ow a0.2 (bG a0.2) a0.1 a0.2 v7 (fun u8 => kk9 u8) (fun z5 => k (z5.1, z5.2)) (fun _ => k ((0 : Int), (-1 : Int)))) (0 : Int))))
def j3 (a0 : Val bo) : Option (Val bc) := HO a0 some
def gr (c1 : (Val ah)) (c2 : Int) (v0 : Int) (v1 : Int) (kn : Int → Int → Option ρ) (k0 : Int → Option ρ) : Option ρ :=
  ifb (ilt v1 c2) (dm c1 v1 fun e1 => ck (v0 + (SP e1.2.2 (0 : Int))) fun n2 => ck (v1 + (1 : Int)) fun n3 => kn n2 n3) (k0 v0)
def d8 (c2 : Int) (c5 : (Val ac)) (v0 : Int) (v1 : (Val aw)) (v2 : (Val ac)) (kn : Int → (Val aw) → (Val ac) → Option ρ) (k0 : (Val aJ) → Option ρ) : Option ρ :=
  ifb (ilt v0 c2) (b9 ((ile (0 : Int) v0) && (ilt v0 (dj c5))) (gk c5 (Int.toNat v0) fun e5 => ifb (ine e5 (1152921504606846976 : Int)) (b9 (bZ ((List.length v2) + (List.length ([v0])))) (b9 ((ile (0 : Int) v0) && (ilt v0 (dj v1))) (gk v1 (Int.toNat v0) fun e6 => ck (v0 + (1 : Int)) fun n7 => kn n7 (List.set v1 (Int.toNat v0) true) (v2 ++ ([v0]))))) (ck (v0 + (1 : Int)) fun n8 => kn n8 v1 v2))) (k0 (v1, v2))
def ip (c0 : (Val aj)) (c1 : Int) (c2 : Int) (c3 : (Val ah)) (c4 : Int) (v0 : Int) (v1 : (Val ac)) (v2 : (Val aw)) (v3 : (Val ac)) (kn : Int → (Val ac) → (Val aw) → (Val ac) → Option ρ) (k0 : (Val (.pair .bool (.pair ac aJ))) → Option ρ) (k1 : (Val (.pair ac aJ)) → Option ρ) : Option ρ :=
  ifb (ilt v0 c4) (dm c3 v0 fun e17 => ifb (ine e17.1 c2) (ck (v0 + (1 : Int)) fun n18 => kn n18 v1 v2 v3) (PE (k := tI) (v := .bool) v0 c0 (fun y19 => ifb y19 (ck (v0 + (1 : Int)) fun n20 => kn n20 v1 v2 v3) (b9 ((ile (0 : Int) c2) && (ilt c2 (dj v1))) (gk v1 (Int.toNat c2) fun e21 => ck (e21 + e17.2.2) fun n22 => b9 ((ile (0 : Int) e17.2.1) && (ilt e17.2.1 (dj v1))) (gk v1 (Int.toNat e17.2.1) fun e23 => ifb (ige n22 e23) (ck (v0 + (1 : Int)) fun n24 => kn n24 v1 v2 v3) (b9 ((ile (0 : Int) c2) && (ilt c2 (dj v1))) (gk v1 (Int.toNat c2) fun e25 => ck (e25 + e17.2.2) fun n26 => b9 ((ile (0 : Int) e17.2.1) && (ilt e17.2.1 (dj v1))) (gk v1 (Int.toNat e17.2.1) fun e27 => b9 ((ile (0 : Int) e17.2.1) && (ilt e17.2.1 (dj (List.set v1 (Int.toNat e17.2.1) n26)))) (gk (List.set v1 (Int.toNat e17.2.1) n26) (Int.toNat e17.2.1) fun e28 => ifb (ilt e28 c1) (k0 (false, (List.set v1 (Int.toNat e17.2.1) n26), v2, v3)) (b9 ((ile (0 : Int) e17.2.1) && (ilt e17.2.1 (dj v2))) (gk v2 (Int.toNat e17.2.1) fun e29 => ifb (!e29) (b9 (bZ ((List.length v3) + (List.length ([e17.2.1])))) (b9 ((ile (0 : Int) e17.2.1) && (ilt e17.2.1 (dj v2))) (gk v2 (Int.toNat e17.2.1) fun e30 => ck (v0 + (1 : Int)) fun n31 => kn n31 (List.set v1 (Int.toNat e17.2.1) n26) (List.set v2 (Int.toNat e17.2.1) true) (v3 ++ ([e17.2.1]))))) (ck (v0 + (1 : Int)) fun n32 => kn n32 (List.set v1 (Int.toNat e17.2.1) n26) v2 v3))))))))))) (b9 ((ile (0 : Int) c2) && (ilt c2 (dj v1))) (gk v1 (Int.toNat c2) fun e33 => ck (e33 + e17.2.2) fun n34 => b9 ((ile (0 : Int) e17.2.1) && (ilt e17.2.1 (dj v1))) (gk v1 (Int.toNat e17.2.1) fun e35 => ifb (ige n34 e35) (ck (v0 + (1 : Int)) fun n36 => kn n36 v1 v2 v3) (b9 ((ile (0 : Int) c2) && (ilt c2 (dj v1))) (gk v1 (Int.toNat c2) fun e37 => ck (e37 + e17.2.2) fun n38 => b9 ((ile (0 : Int) e17.2.1) && (ilt e17.2.1 (dj v1))) (gk v1 (Int.toNat e17.2.1) fun e39 => b9 ((ile (0 : Int) e17.2.1) && (ilt e17.2.1 (dj (List.set v1 (Int.toNat e17.2.1) n38)))) (gk (List.set v1 (Int.toNat e17.2.1) n38) (Int.toNat e17.2.1) fun e40 => ifb (ilt e40 c1) (k0 (false, (List.set v1 (Int.toNat e17.2.1) n38), v2, v3)) (b9 ((ile (0 : Int) e17.2.1) && (ilt e17.2.1 (dj v2))) (gk v2 (Int.toNat e17.2.1) fun e41 => ifb (!e41) (b9 (bZ ((List.length v3) + (List.length ([e17.2.1])))) (b9 ((ile (0 : Int) e17.2.1) && (ilt e17.2.1 (dj v2))) (gk v2 (Int.toNat e17.2.1) fun e42 => ck (v0 + (1 : Int)) fun n43 => kn n43 (List.set v1 (Int.toNat e17.2.1) n38) (List.set v2 (Int.toNat e17.2.1) true) (v3 ++ ([e17.2.1]))))) (ck (v0 + (1 : Int)) fun n44 => kn n44 (List.set v1 (Int.toNat e17.2.1) n38) v2 v3)))))))))))) (k1 (v1, v2, v3))
def dl (c0 : (Val aj)) (c1 : Int) (c4 : Int) (c5 : (Val ah)) (v0 : (Val ac)) (v1 : (Val aw)) (v2 : (Val ac)) (v3 : (Val ac)) (kn : (Val ac) → (Val aw) → (Val ac) → (Val ac) → Option ρ) (k0 : (Val (.pair .bool aK)) → Option ρ) : Option ρ :=
  ifb (ieq (bG v3) (0 : Int)) (k0 (true, v0, v1, v2, v3)) (b9 (ilt (0 : Int) (dj v3)) (gk v3 0 fun e10 => b9 (ile (1 : Int) (dj v3)) (b9 (decide (1 + (List.length v3 - 1) = List.length v3)) (b9 ((ile (0 : Int) e10) && (ilt e10 (dj v1))) (gk v1 (Int.toNat e10) fun e11 => b9 ((ile (0 : Int) e10) && (ilt e10 (dj v2))) (gk v2 (Int.toNat e10) fun e12 => ck (e12 + (1 : Int)) fun n13 => b9 ((ile (0 : Int) e10) && (ilt e10 (dj v2))) (gk v2 (Int.toNat e10) fun e14 => b9 ((ile (0 : Int) e10) && (ilt e10 (dj (List.set v2 (Int.toNat e10) n13)))) (gk (List.set v2 (Int.toNat e10) n13) (Int.toNat e10) fun e15 => ck (c4 + (1 : Int)) fun n16 => ifb (igt e15 n16) (k0 (false, v0, (List.set v1 (Int.toNat e10) false), (List.set v2 (Int.toNat e10) n13), (List.drop 1 v3))) (bw (fun (v47 : (Val (.pair tI (.pair ac aJ)))) kk52 => ip c0 c1 e10 c5 (bG c5) v47.1 v47.2.1 v47.2.2.1 v47.2.2.2 (fun u48 u49 u50 u51 => kk52 (u48, u49, u50, u51)) (fun z45 => k0 (z45.1, z45.2.1, z45.2.2.1, (List.set v2 (Int.toNat e10) n13), z45.2.2.2)) (fun z46 => kn z46.1 z46.2.1 (List.set v2 (Int.toNat e10) n13) z46.2.2)) ((0 : Int), v0, (List.set v1 (Int.toNat e10) false), (List.drop 1 v3)))))))))))
def il (c0 : Int) (c1 : Int) (v0 : Int) (v1 : (Val ac)) (kn : Int → (Val ac) → Option ρ) (k0 : (Val ac) → Option ρ) : Option ρ :=
  ifb (ilt v0 c1) (b9 ((ile (0 : Int) v0) && (ilt v0 (dj v1))) (gk v1 (Int.toNat v0) fun e55 => ck (e55 - c0) fun n56 => b9 ((ile (0 : Int) v0) && (ilt v0 (dj v1))) (gk v1 (Int.toNat v0) fun e57 => ck (v0 + (1 : Int)) fun n58 => kn n58 (List.set v1 (Int.toNat v0) n56)))) (k0 v1)
def uA (a0 : Val bo) (a1 : (Val aj)) (k : (Val (.pair ac .bool)) → Option ρ) : Option ρ :=
  b9 ((ile (0 : Int) a0.1) && (bZ (Int.toNat a0.1))) (b9 ((ile (0 : Int) a0.1) && (bZ (Int.toNat a0.1))) (b9 ((ile (0 : Int) a0.1) && (bZ (Int.toNat a0.1))) (bw (fun (v75 : Val bc) kk78 => gr a0.2 (bG a0.2) v75.1 v75.2 (fun u76 u77 => kk78 (u76, u77)) (fun z4 => bw (fun (v70 : (Val (.pair tI aJ))) kk74 => d8 a0.1 (List.replicate (Int.toNat a0.1) (0 : Int)) v70.1 v70.2.1 v70.2.2 (fun u71 u72 u73 => kk74 (u71, u72, u73)) (fun z9 => bw (fun (v64 : (Val aK)) kk69 => dl a1 z4 a0.1 a0.2 v64.1 v64.2.1 v64.2.2.1 v64.2.2.2 (fun u65 u66 u67 u68 => kk69 (u65, u66, u67, u68)) (fun z53 => ifb (!z53.1) (k ([], false)) (b9 (ilt (0 : Int) (dj z53.2.1)) (gk z53.2.1 0 fun e54 => bw (fun (v60 : (Val ax)) kk63 => il e54 (bG z53.2.1) v60.1 v60.2 (fun u61 u62 => kk63 (u61, u62)) (fun z59 => k (z59, true))) ((0 : Int), z53.2.1))))) ((List.replicate (Int.toNat a0.1) (0 : Int)), z9.1, (List.replicate (Int.toNat a0.1) (0 : Int)), z9.2))) ((0 : Int), (List.replicate (Int.toNat a0.1) false), []))) ((0 : Int), (0 : Int)))))
def jx (a0 : Val bo) (a1 : (Val aj)) : Option ((Val (.pair ac .bool))) := uA a0 a1 some
def oq (c0 : (Val ac)) (c1 : Int) (c2 : Int) (c3 : (Val ah)) (v0 : Int) (kn : Int → Option ρ) (k0 : Int → Option ρ) (k1 : Unit → Option ρ) : Option ρ :=
  ifb (ilt v0 c1) (dm c0 v0 fun e2 => bf (oN (c2, c3) e2) fun r3 => ifb (!r3) (k0 (1 : Int)) (ck (v0 + (1 : Int)) fun n4 => kn n4)) (k1 ())
def HC (a0 : Val bo) (a1 : (Val ac)) (k : Int → Option ρ) : Option ρ :=
  bf (j3 a0) fun r1 => ifb (ine r1.1 (0 : Int)) (k r1.1) (bw (fun (v8 : Int) kk10 => oq a1 (bG a1) a0.1 a0.2 v8 (fun u9 => kk10 u9) (fun z5 => k z5) (fun _ => bf (jx a0 ([])) fun r7 => ifb (!r7.2) (k (9 : Int)) (k (0 : Int)))) (0 : Int))
def qz (a0 : Val bo) (a1 : (Val ac)) : Option (Int) := HC a0 a1 some
def mo (c2 : Int) (v0 : Int) (v1 : (Val ac)) (kn : Int → (Val ac) → Option ρ) (k0 : (Val ac) → Option ρ) : Option ρ :=
  ifb (ilt v0 c2) (b9 ((ile (0 : Int) v0) && (ilt v0 (dj v1))) (gk v1 (Int.toNat v0) fun e1 => ck (v0 + (1 : Int)) fun n2 => kn n2 (List.set v1 (Int.toNat v0) (1152921504606846976 : Int)))) (k0 v1)
def rz (c1 : (Val ah)) (c2 : Int) (v0 : Int) (v1 : Int) (kn : Int → Int → Option ρ) (k0 : Int → Option ρ) : Option ρ :=
  ifb (ilt v1 c2) (dm c1 v1 fun e5 => ck (v0 + (SP e5.2.2 (0 : Int))) fun n6 => ck (v1 + (1 : Int)) fun n7 => kn n6 n7) (k0 v0)
def ru (c2 : Int) (c5 : (Val ac)) (v0 : Int) (v1 : (Val aw)) (v2 : (Val ac)) (kn : Int → (Val aw) → (Val ac) → Option ρ) (k0 : (Val aJ) → Option ρ) : Option ρ :=
  ifb (ilt v0 c2) (b9 ((ile (0 : Int) v0) && (ilt v0 (dj c5))) (gk c5 (Int.toNat v0) fun e9 => ifb (ine e9 (1152921504606846976 : Int)) (b9 (bZ ((List.length v2) + (List.length ([v0])))) (b9 ((ile (0 : Int) v0) && (ilt v0 (dj v1))) (gk v1 (Int.toNat v0) fun e10 => ck (v0 + (1 : Int)) fun n11 => kn n11 (List.set v1 (Int.toNat v0) true) (v2 ++ ([v0]))))) (ck (v0 + (1 : Int)) fun n12 => kn n12 v1 v2))) (k0 (v1, v2))
def Ay (c0 : (Val aj)) (c1 : Int) (c2 : Int) (c3 : (Val ah)) (c4 : Int) (v0 : Int) (v1 : (Val ac)) (v2 : (Val aw)) (v3 : (Val ac)) (kn : Int → (Val ac) → (Val aw) → (Val ac) → Option ρ) (k0 : (Val (.pair .bool (.pair ac aJ))) → Option ρ) (k1 : (Val (.pair ac aJ)) → Option ρ) : Option ρ :=
  ifb (ilt v0 c4) (dm c3 v0 fun e21 => ifb (ine e21.1 c2) (ck (v0 + (1 : Int)) fun n22 => kn n22 v1 v2 v3) (PE (k := tI) (v := .bool) v0 c0 (fun y23 => ifb y23 (ck (v0 + (1 : Int)) fun n24 => kn n24 v1 v2 v3) (b9 ((ile (0 : Int) c2) && (ilt c2 (dj v1))) (gk v1 (Int.toNat c2) fun e25 => ck (e25 + e21.2.2) fun n26 => b9 ((ile (0 : Int) e21.2.1) && (ilt e21.2.1 (dj v1))) (gk v1 (Int.toNat e21.2.1) fun e27 => ifb (ige n26 e27) (ck (v0 + (1 : Int)) fun n28 => kn n28 v1 v2 v3) (b9 ((ile (0 : Int) c2) && (ilt c2 (dj v1))) (gk v1 (Int.toNat c2) fun e29 => ck (e29 + e21.2.2) fun n30 => b9 ((ile (0 : Int) e21.2.1) && (ilt e21.2.1 (dj v1))) (gk v1 (Int.toNat e21.2.1) fun e31 => b9 ((ile (0 : Int) e21.2.1) && (ilt e21.2.1 (dj (List.set v1 (Int.toNat e21.2.1) n30)))) (gk (List.set v1 (Int.toNat e21.2.1) n30) (Int.toNat e21.2.1) fun e32 => ifb (ilt e32 c1) (k0 (false, (List.set v1 (Int.toNat e21.2.1) n30), v2, v3)) (b9 ((ile (0 : Int) e21.2.1) && (ilt e21.2.1 (dj v2))) (gk v2 (Int.toNat e21.2.1) fun e33 => ifb (!e33) (b9 (bZ ((List.length v3) + (List.length ([e21.2.1])))) (b9 ((ile (0 : Int) e21.2.1) && (ilt e21.2.1 (dj v2))) (gk v2 (Int.toNat e21.2.1) fun e34 => ck (v0 + (1 : Int)) fun n35 => kn n35 (List.set v1 (Int.toNat e21.2.1) n30) (List.set v2 (Int.toNat e21.2.1) true) (v3 ++ ([e21.2.1]))))) (ck (v0 + (1 : Int)) fun n36 => kn n36 (List.set v1 (Int.toNat e21.2.1) n30) v2 v3))))))))))) (b9 ((ile (0 : Int) c2) && (ilt c2 (dj v1))) (gk v1 (Int.toNat c2) fun e37 => ck (e37 + e21.2.2) fun n38 => b9 ((ile (0 : Int) e21.2.1) && (ilt e21.2.1 (dj v1))) (gk v1 (Int.toNat e21.2.1) fun e39 => ifb (ige n38 e39) (ck (v0 + (1 : Int)) fun n40 => kn n40 v1 v2 v3) (b9 ((ile (0 : Int) c2) && (ilt c2 (dj v1))) (gk v1 (Int.toNat c2) fun e41 => ck (e41 + e21.2.2) fun n42 => b9 ((ile (0 : Int) e21.2.1) && (ilt e21.2.1 (dj v1))) (gk v1 (Int.toNat e21.2.1) fun e43 => b9 ((ile (0 : Int) e21.2.1) && (ilt e21.2.1 (dj (List.set v1 (Int.toNat e21.2.1) n42)))) (gk (List.set v1 (Int.toNat e21.2.1) n42) (Int.toNat e21.2.1) fun e44 => ifb (ilt e44 c1) (k0 (false, (List.set v1 (Int.toNat e21.2.1) n42), v2, v3)) (b9 ((ile (0 : Int) e21.2.1) && (ilt e21.2.1 (dj v2))) (gk v2 (Int.toNat e21.2.1) fun e45 => ifb (!e45) (b9 (bZ ((List.length v3) + (List.length ([e21.2.1])))) (b9 ((ile (0 : Int) e21.2.1) && (ilt e21.2.1 (dj v2))) (gk v2 (Int.toNat e21.2.1) fun e46 => ck (v0 + (1 : Int)) fun n47 => kn n47 (List.set v1 (Int.toNat e21.2.1) n42) (List.set v2 (Int.toNat e21.2.1) true) (v3 ++ ([e21.2.1]))))) (ck (v0 + (1 : Int)) fun n48 => kn n48 (List.set v1 (Int.toNat e21.2.1) n42) v2 v3)))))))))))) (k1 (v1, v2, v3))
def rt (c0 : (Val aj)) (c1 : Int) (c4 : Int) (c5 : (Val ah)) (v0 : (Val ac)) (v1 : (Val aw)) (v2 : (Val ac)) (v3 : (Val ac)) (kn : (Val ac) → (Val aw) → (Val ac) → (Val ac) → Option ρ) (k0 : (Val (.pair .bool aK)) → Option ρ) : Option ρ :=
  ifb (ieq (bG v3) (0 : Int)) (k0 (true, v0, v1, v2, v3)) (b9 (ilt (0 : Int) (dj v3)) (gk v3 0 fun e14 => b9 (ile (1 : Int) (dj v3)) (b9 (decide (1 + (List.length v3 - 1) = List.length v3)) (b9 ((ile (0 : Int) e14) && (ilt e14 (dj v1))) (gk v1 (Int.toNat e14) fun e15 => b9 ((ile (0 : Int) e14) && (ilt e14 (dj v2))) (gk v2 (Int.toNat e14) fun e16 => ck (e16 + (1 : Int)) fun n17 => b9 ((ile (0 : Int) e14) && (ilt e14 (dj v2))) (gk v2 (Int.toNat e14) fun e18 => b9 ((ile (0 : Int) e14) && (ilt e14 (dj (List.set v2 (Int.toNat e14) n17)))) (gk (List.set v2 (Int.toNat e14) n17) (Int.toNat e14) fun e19 => ck (c4 + (1 : Int)) fun n20 => ifb (igt e19 n20) (k0 (false, v0, (List.set v1 (Int.toNat e14) false), (List.set v2 (Int.toNat e14) n17), (List.drop 1 v3))) (bw (fun (v51 : (Val (.pair tI (.pair ac aJ)))) kk56 => Ay c0 c1 e14 c5 (bG c5) v51.1 v51.2.1 v51.2.2.1 v51.2.2.2 (fun u52 u53 u54 u55 => kk56 (u52, u53, u54, u55)) (fun z49 => k0 (z49.1, z49.2.1, z49.2.2.1, (List.set v2 (Int.toNat e14) n17), z49.2.2.2)) (fun z50 => kn z50.1 z50.2.1 (List.set v2 (Int.toNat e14) n17) z50.2.2)) ((0 : Int), v0, (List.set v1 (Int.toNat e14) false), (List.drop 1 v3)))))))))))
def CT (a0 : Val bo) (a1 : (Val aj)) (a2 : Int) (k : (Val ac) → Option ρ) : Option ρ :=
  b9 ((ile (0 : Int) a0.1) && (bZ (Int.toNat a0.1))) (bw (fun (v73 : (Val ax)) kk76 => mo (bG (List.replicate (Int.toNat a0.1) (0 : Int))) v73.1 v73.2 (fun u74 u75 => kk76 (u74, u75)) (fun z3 => b9 ((ile (0 : Int) a2) && (ilt a2 (dj z3))) (gk z3 (Int.toNat a2) fun e4 => b9 ((ile (0 : Int) a0.1) && (bZ (Int.toNat a0.1))) (b9 ((ile (0 : Int) a0.1) && (bZ (Int.toNat a0.1))) (bw (fun (v69 : Val bc) kk72 => rz a0.2 (bG a0.2) v69.1 v69.2 (fun u70 u71 => kk72 (u70, u71)) (fun z8 => bw (fun (v64 : (Val (.pair tI aJ))) kk68 => ru a0.1 (List.set z3 (Int.toNat a2) (0 : Int)) v64.1 v64.2.1 v64.2.2 (fun u65 u66 u67 => kk68 (u65, u66, u67)) (fun z13 => bw (fun (v58 : (Val aK)) kk63 => rt a1 z8 a0.1 a0.2 v58.1 v58.2.1 v58.2.2.1 v58.2.2.2 (fun u59 u60 u61 u62 => kk63 (u59, u60, u61, u62)) (fun z57 => k z57.2.1)) ((List.set z3 (Int.toNat a2) (0 : Int)), z13.1, (List.replicate (Int.toNat a0.1) (0 : Int)), z13.2))) ((0 : Int), (List.replicate (Int.toNat a0.1) false), []))) ((0 : Int), (0 : Int))))))) ((0 : Int), (List.replicate (Int.toNat a0.1) (0 : Int))))
def kQ (a0 : Val bo) (a1 : (Val aj)) (a2 : Int) : Option ((Val ac)) := CT a0 a1 a2 some
def HV (a0 : Val bo) (a1 : Int) (a2 : Int) (k : Val bc → Option ρ) : Option ρ :=
  bf (qz a0 ([a1, a2])) fun r1 => ifb (ine r1 (0 : Int)) (k ((0 : Int), r1)) (bf (kQ a0 ([]) a1) fun r2 => dm r2 a2 fun e3 => ifb (ieq e3 (1152921504606846976 : Int)) (k ((0 : Int), (5 : Int))) (k (e3, (0 : Int))))
def nE (a0 : Val bo) (a1 : Int) (a2 : Int) : Option (Val bc) := HV a0 a1 a2 some
def oZ (a0 : (Val au)) (a1 : Int) (a2 : Int) (k : Int → Option ρ) : Option ρ :=
  bf (nE a0.2 a2 a1) fun r1 => k r1.1
def cq (a0 : (Val au)) (a1 : Int) (a2 : Int) : Option (Int) := oZ a0 a1 a2 some
def oY (a0 : (Val au)) (a1 : Val bc) (k : Int → Option ρ) : Option ρ :=
  bf (fV a0 a1) fun r1 => bf (cq a0 (0 : Int) r1) fun r2 => ck (0 - r2) fun n3 => k n3
def fU (a0 : (Val au)) (a1 : Val bc) : Option (Int) := oY a0 a1 some
def kB (a0 : (Val au)) (a1 : Val bc) (k : Int → Option ρ) : Option ρ :=
  bf (fV a0 a1) fun r1 => bf (cq a0 r1 (0 : Int)) fun r2 => k r2
def gw (a0 : (Val au)) (a1 : Val bc) : Option (Int) := kB a0 a1 some
def kz (a0 : (Val au)) (a1 : Val bc) (k : Val bc → Option ρ) : Option ρ :=
  bf (fU a0 a1) fun r1 => bf (gw a0 a1) fun r2 => k (r1, r2)
def eT (a0 : (Val au)) (a1 : Val bc) : Option (Val bc) := kz a0 a1 some
def rV (c0 : Int) (v0 : Int) (v1 : (Val ab)) (kn : Int → (Val ab) → Option ρ) (k0 : (Val ab) → Option ρ) : Option ρ :=
  ifb (ilt v0 c0) (b9 ((ile (0 : Int) v0) && (ilt v0 (dj v1))) (gk v1 (Int.toNat v0) fun e2 => b9 (bZ (List.length e2.2.2.1)) (b9 (bZ (List.length e2.2.2.2.1)) (b9 ((ile (0 : Int) v0) && (ilt v0 (dj v1))) (gk v1 (Int.toNat v0) fun e3 => b9 ((ile (0 : Int) v0) && (ilt v0 (dj (List.set v1 (Int.toNat v0) (e3.1, e3.2.1, e2.2.2.1, e3.2.2.2))))) (gk (List.set v1 (Int.toNat v0) (e3.1, e3.2.1, e2.2.2.1, e3.2.2.2)) (Int.toNat v0) fun e4 => ck (v0 + (1 : Int)) fun n5 => kn n5 (List.set (List.set v1 (Int.toNat v0) (e3.1, e3.2.1, e2.2.2.1, e3.2.2.2)) (Int.toNat v0) (e4.1, e4.2.1, e4.2.2.1, e2.2.2.2.1, e4.2.2.2.2)))))))) (k0 v1)
def OT (a0 : Val bg) (a1 : Val bc) (k : (Val aM) → Option ρ) : Option ρ :=
  bf (cd a0) fun r1 => ifb (ine r1 (0 : Int)) (k ((((0 : Int), (0 : Int)), [], [], [], [], []), r1)) (b9 (bZ (List.length a0.2.1)) (b9 (bZ (List.length a0.2.2.1)) (b9 (bZ (List.length a0.2.2.2.1)) (b9 (bZ (List.length a0.2.2.2.2.2)) (b9 (bZ (List.length a0.2.2.2.2.1)) (bw (fun (v8 : (Val (.pair tI ab))) kk11 => rV (bG a0.2.2.2.2.1) v8.1 v8.2 (fun u9 u10 => kk11 (u9, u10)) (fun z6 => b9 (bZ ((List.length a0.2.2.2.2.2) + (List.length ([a1])))) (bf (cd (a0.1, a0.2.1, a0.2.2.1, a0.2.2.2.1, z6, (a0.2.2.2.2.2 ++ ([a1])))) fun r7 => ifb (ine r7 (0 : Int)) (k ((((0 : Int), (0 : Int)), [], [], [], [], []), r7)) (k ((a0.1, a0.2.1, a0.2.2.1, a0.2.2.2.1, z6, (a0.2.2.2.2.2 ++ ([a1]))), (0 : Int)))))) ((0 : Int), a0.2.2.2.2.1)))))))
def fL (a0 : Val bg) (a1 : Val bc) : Option ((Val aM)) := OT a0 a1 some
def pk (a0 : Val bo) (k : (Val aE) → Option ρ) : Option ρ :=
  bf (j3 a0) fun r1 => ifb (ine r1.1 (0 : Int)) (k (false, r1.1)) (bf (jx a0 ([])) fun r2 => k (r2.2, (0 : Int)))
def dc (a0 : Val bo) : Option ((Val aE)) := pk a0 some
def cB (c0 : Int) (c12 : (Val aa)) (v0 : Int) (v1 : Int) (v2 : Int) (v3 : (Val ae)) (v4 : (Val aa)) (v5 : (Val af)) (v6 : (Val ab)) (v7 : (Val aa)) (kn : Int → Int → Int → (Val ae) → (Val aa) → (Val af) → (Val ab) → (Val aa) → Option ρ) (k0 : (Val aC) → Option ρ) (k1 : (Val ai) → Option ρ) : Option ρ :=
  ifb (ilt v0 c0) (b9 ((ile (0 : Int) v0) && (ilt v0 (dj c12))) (gk c12 (Int.toNat v0) fun e2 => bf (dg ((v1, v2), v3, v4, v5, v6, v7) e2) fun r3 => ifb (ieq r3.2 (0 : Int)) (ck (v0 + (1 : Int)) fun n4 => kn n4 v1 v2 v3 v4 v5 v6 v7) (bf (fL ((v1, v2), v3, v4, v5, v6, v7) e2) fun r5 => ifb (ine r5.2 (0 : Int)) (k0 (r5.2, v1, v2, v3, v4, v5, v6, v7)) (ck (v0 + (1 : Int)) fun n6 => kn n6 r5.1.1.1 r5.1.1.2 r5.1.2.1 r5.1.2.2.1 r5.1.2.2.2.1 r5.1.2.2.2.2.1 r5.1.2.2.2.2.2)))) (k1 (v1, v2, v3, v4, v5, v6, v7))
def uq (a0 : Val bg) (a1 : Val bc) (k : Val jF → Option ρ) : Option ρ :=
  bf (cd a0) fun r1 => ifb (ine r1 (0 : Int)) (b9 (ine r1 (0 : Int)) (k (((0 : Int), (0 : Int)), r1))) (bw (fun (v12 : (Val aC)) kk21 => cB (bG ([a1])) ([a1]) v12.1 v12.2.1 v12.2.2.1 v12.2.2.2.1 v12.2.2.2.2.1 v12.2.2.2.2.2.1 v12.2.2.2.2.2.2.1 v12.2.2.2.2.2.2.2 (fun u13 u14 u15 u16 u17 u18 u19 u20 => kk21 (u13, u14, u15, u16, u17, u18, u19, u20)) (fun z7 => b9 (ine z7.1 (0 : Int)) (k (((0 : Int), (0 : Int)), z7.1))) (fun z8 => bf (df ((z8.1, z8.2.1), z8.2.2)) fun r9 => ifb (ine r9.2.2 (0 : Int)) (b9 (ine r9.2.2 (0 : Int)) (k (((0 : Int), (0 : Int)), r9.2.2))) (bf (dc r9.1) fun r10 => ifb (!r10.1) (k (((0 : Int), (0 : Int)), (9 : Int))) (bf (eT (((z8.1, z8.2.1), z8.2.2), r9.1) a1) fun r11 => k (r11, (0 : Int)))))) ((0 : Int), a0.1.1, a0.1.2, a0.2.1, a0.2.2.1, a0.2.2.2.1, a0.2.2.2.2.1, a0.2.2.2.2.2))
def lP (a0 : Val bg) (a1 : Val bc) : Option (Val jF) := uq a0 a1 some
def pj (c0 : Int) (c14 : (Val aa)) (v0 : Int) (v1 : Int) (v2 : Int) (v3 : (Val ae)) (v4 : (Val aa)) (v5 : (Val af)) (v6 : (Val ab)) (v7 : (Val aa)) (kn : Int → Int → Int → (Val ae) → (Val aa) → (Val af) → (Val ab) → (Val aa) → Option ρ) (k0 : (Val aC) → Option ρ) (k1 : (Val ai) → Option ρ) : Option ρ :=
  ifb (ilt v0 c0) (b9 ((ile (0 : Int) v0) && (ilt v0 (dj c14))) (gk c14 (Int.toNat v0) fun e2 => bf (dg ((v1, v2), v3, v4, v5, v6, v7) e2) fun r3 => ifb (ieq r3.2 (0 : Int)) (ck (v0 + (1 : Int)) fun n4 => kn n4 v1 v2 v3 v4 v5 v6 v7) (bf (fL ((v1, v2), v3, v4, v5, v6, v7) e2) fun r5 => ifb (ine r5.2 (0 : Int)) (k0 (r5.2, v1, v2, v3, v4, v5, v6, v7)) (ck (v0 + (1 : Int)) fun n6 => kn n6 r5.1.1.1 r5.1.1.2 r5.1.2.1 r5.1.2.2.1 r5.1.2.2.2.1 r5.1.2.2.2.2.1 r5.1.2.2.2.2.2)))) (k1 (v1, v2, v3, v4, v5, v6, v7))
def yn (a0 : Val bg) (a1 : Val bc) (a2 : Val bc) (k : Val jF → Option ρ) : Option ρ :=
  bf (cd a0) fun r1 => ifb (ine r1 (0 : Int)) (b9 (ine r1 (0 : Int)) (k (((0 : Int), (0 : Int)), r1))) (bw (fun (v16 : (Val aC)) kk25 => pj (bG ([a1, a2])) ([a1, a2]) v16.1 v16.2.1 v16.2.2.1 v16.2.2.2.1 v16.2.2.2.2.1 v16.2.2.2.2.2.1 v16.2.2.2.2.2.2.1 v16.2.2.2.2.2.2.2 (fun u17 u18 u19 u20 u21 u22 u23 u24 => kk25 (u17, u18, u19, u20, u21, u22, u23, u24)) (fun z7 => b9 (ine z7.1 (0 : Int)) (k (((0 : Int), (0 : Int)), z7.1))) (fun z8 => bf (df ((z8.1, z8.2.1), z8.2.2)) fun r9 => ifb (ine r9.2.2 (0 : Int)) (b9 (ine r9.2.2 (0 : Int)) (k (((0 : Int), (0 : Int)), r9.2.2))) (bf (dc r9.1) fun r10 => ifb (!r10.1) (k (((0 : Int), (0 : Int)), (9 : Int))) (bf (fV (((z8.1, z8.2.1), z8.2.2), r9.1) a1) fun r11 => bf (fV (((z8.1, z8.2.1), z8.2.2), r9.1) a2) fun r12 => bf (cq (((z8.1, z8.2.1), z8.2.2), r9.1) r12 r11) fun r13 => ck (0 - r13) fun n14 => bf (cq (((z8.1, z8.2.1), z8.2.2), r9.1) r11 r12) fun r15 => k ((n14, r15), (0 : Int)))))) ((0 : Int), a0.1.1, a0.1.2, a0.2.1, a0.2.2.1, a0.2.2.2.1, a0.2.2.2.2.1, a0.2.2.2.2.2))
def se (a0 : Val bg) (a1 : Val bc) (a2 : Val bc) : Option (Val jF) := yn a0 a1 a2 some
def Dc (a0 : (Val ac)) (a1 : (Val ac)) (k : (Val (.pair ac az)) → Option ρ) : Option ρ :=
  bf (kR a0) fun r1 => ifb (!r1) (k ([], [], (1 : Int))) (bf (kR a1) fun r2 => ifb (!r2) (k ([], [], (1 : Int))) (bf (eO a0 a1) fun r3 => bf (eO a1 a0) fun r4 => k (r3, r4, (0 : Int))))
def qD (a0 : (Val ac)) (a1 : (Val ac)) : Option ((Val (.pair ac az))) := Dc a0 a1 some
def Nr (a0 : (Val ac)) (a1 : Int) (k : Bool → Option ρ) : Option ρ :=
  bf (qD a0 ([])) fun r1 => ifb (ieq r1.2.2 (0 : Int)) (k (ile (bG a0) a1)) (k false)
def Gc (a0 : (Val ac)) (a1 : Int) : Option (Bool) := Nr a0 a1 some
def He (a0 : Int) (k : Bool → Option ρ) : Option ρ :=
  ifb (ige a0 (0 : Int)) (k (ile a0 (20000 : Int))) (k false)
def BA (a0 : Int) : Option (Bool) := He a0 some
def oe (c0 : Int) (c1 : (Val ac)) (c2 : Int) (v0 : Int) (v1 : (Val aa)) (kn : Int → (Val aa) → Option ρ) (k0 : (Val aa) → Option ρ) : Option ρ :=
  ifb (ilt v0 c2) (dm c1 v0 fun e2 => b9 (bZ ((List.length v1) + (List.length ([(e2, c0)])))) (ck (v0 + (1 : Int)) fun n3 => kn n3 (v1 ++ ([(e2, c0)])))) (k0 v1)
def G8 (a0 : Int) (a1 : (Val am)) (k : (Val aa) → Option ρ) : Option ρ :=
  bf (bS a1) fun r1 => bw (fun (v5 : (Val aA)) kk8 => oe a0 r1 (bG r1) v5.1 v5.2 (fun u6 u7 => kk8 (u6, u7)) (fun z4 => k z4)) ((0 : Int), [])
def Bz (a0 : Int) (a1 : (Val am)) : Option ((Val aa)) := G8 a0 a1 some
def rj (c0 : (Val aa)) (c1 : Int) (v0 : Int) (v1 : Int) (v2 : Int) (v3 : (Val ae)) (v4 : (Val aa)) (v5 : (Val af)) (v6 : (Val ab)) (v7 : (Val aa)) (kn : Int → Int → Int → (Val ae) → (Val aa) → (Val af) → (Val ab) → (Val aa) → Option ρ) (k0 : (Val aC) → Option ρ) (k1 : (Val ai) → Option ρ) : Option ρ :=
  ifb (ilt v0 c1) (dm c0 v0 fun e9 => bf (dg ((v1, v2), v3, v4, v5, v6, v7) e9) fun r10 => ifb (ieq r10.2 (0 : Int)) (ck (v0 + (1 : Int)) fun n11 => kn n11 v1 v2 v3 v4 v5 v6 v7) (bf (fL ((v1, v2), v3, v4, v5, v6, v7) e9) fun r12 => ifb (ine r12.2 (0 : Int)) (k0 (r12.2, v1, v2, v3, v4, v5, v6, v7)) (ck (v0 + (1 : Int)) fun n13 => kn n13 r12.1.1.1 r12.1.1.2 r12.1.2.1 r12.1.2.2.1 r12.1.2.2.2.1 r12.1.2.2.2.2.1 r12.1.2.2.2.2.2))) (k1 (v1, v2, v3, v4, v5, v6, v7))
def ri (c0 : (Val au)) (c1 : (Val aa)) (c2 : Int) (v0 : Int) (v1 : Int) (v2 : Int) (kn : Int → Int → Int → Option ρ) (k0 : Val bc → Option ρ) : Option ρ :=
  ifb (ilt v0 c2) (dm c1 v0 fun e27 => bf (eT c0 e27) fun r28 => ck (v1 + r28.1) fun n29 => ck (v2 + r28.2) fun n30 => ck (v0 + (1 : Int)) fun n31 => kn n31 n29 n30) (k0 (v1, v2))
def NS (a0 : Val bg) (a1 : Int) (a2 : (Val ac)) (k : Val jF → Option ρ) : Option ρ :=
  bf (cd a0) fun r1 => ifb (ine r1 (0 : Int)) (k (((0 : Int), (0 : Int)), r1)) (ifb (ieq (bG a2) (0 : Int)) (k (((0 : Int), (0 : Int)), (1 : Int))) (bf (Gc a2 (6 : Int)) fun r2 => ifb (!r2) (k (((0 : Int), (0 : Int)), (1 : Int))) (bf (BA a1) fun r3 => ifb (!r3) (k (((0 : Int), (0 : Int)), (1 : Int))) (bf (Bz a1 ([a2])) fun r4 => bf (cd a0) fun r5 => ifb (ine r5 (0 : Int)) (ifb (ine r5 (0 : Int)) (k (((0 : Int), (0 : Int)), r5)) (ck ((bG a2) - (1 : Int)) fun n6 => ck (n6 * a0.1.1) fun n7 => ck (n6 * a0.1.2) fun n8 => none)) (bw (fun (v38 : (Val aC)) kk47 => rj r4 (bG r4) v38.1 v38.2.1 v38.2.2.1 v38.2.2.2.1 v38.2.2.2.2.1 v38.2.2.2.2.2.1 v38.2.2.2.2.2.2.1 v38.2.2.2.2.2.2.2 (fun u39 u40 u41 u42 u43 u44 u45 u46 => kk47 (u39, u40, u41, u42, u43, u44, u45, u46)) (fun z14 => ifb (ine z14.1 (0 : Int)) (k (((0 : Int), (0 : Int)), z14.1)) (ck ((bG a2) - (1 : Int)) fun n15 => ck (n15 * a0.1.1) fun n16 => ck (n15 * a0.1.2) fun n17 => none)) (fun z18 => bf (df ((z18.1, z18.2.1), z18.2.2)) fun r19 => ifb (ine r19.2.2 (0 : Int)) (ifb (ine r19.2.2 (0 : Int)) (k (((0 : Int), (0 : Int)), r19.2.2)) (ck ((bG a2) - (1 : Int)) fun n20 => ck (n20 * a0.1.1) fun n21 => ck (n20 * a0.1.2) fun n22 => none)) (bf (dc r19.1) fun r23 => ifb (!r23.1) (k (((0 : Int), (0 : Int)), (9 : Int))) (ck ((bG a2) - (1 : Int)) fun n24 => ck (n24 * a0.1.1) fun n25 => ck (n24 * a0.1.2) fun n26 => bw (fun (v33 : Val cA) kk37 => ri (((z18.1, z18.2.1), z18.2.2), r19.1) r4 (bG r4) v33.1 v33.2.1 v33.2.2 (fun u34 u35 u36 => kk37 (u34, u35, u36)) (fun z32 => k (z32, (0 : Int)))) ((0 : Int), n25, n26))))) ((0 : Int), a0.1.1, a0.1.2, a0.2.1, a0.2.2.1, a0.2.2.2.1, a0.2.2.2.2.1, a0.2.2.2.2.2))))))
def BB (a0 : Val bg) (a1 : Int) (a2 : (Val ac)) : Option (Val jF) := NS a0 a1 a2 some
def yd (a0 : Val bc) (a1 : Val bc) (k : Int → Option ρ) : Option ρ :=
  ifb (ile a1.1 a0.1) (ifb (ile a0.2 a1.2) (k (1 : Int)) (ifb (ilt a0.2 a1.1) (k (2 : Int)) (ifb (ilt a1.2 a0.1) (k (2 : Int)) (k (3 : Int))))) (ifb (ilt a0.2 a1.1) (k (2 : Int)) (ifb (ilt a1.2 a0.1) (k (2 : Int)) (k (3 : Int))))
def nz (a0 : Val bc) (a1 : Val bc) : Option (Int) := yd a0 a1 some
def un (c0 : Int) (c12 : (Val aa)) (v0 : Int) (v1 : Int) (v2 : Int) (v3 : (Val ae)) (v4 : (Val aa)) (v5 : (Val af)) (v6 : (Val ab)) (v7 : (Val aa)) (kn : Int → Int → Int → (Val ae) → (Val aa) → (Val af) → (Val ab) → (Val aa) → Option ρ) (k0 : (Val aC) → Option ρ) (k1 : (Val ai) → Option ρ) : Option ρ :=
  ifb (ilt v0 c0) (b9 ((ile (0 : Int) v0) && (ilt v0 (dj c12))) (gk c12 (Int.toNat v0) fun e2 => bf (dg ((v1, v2), v3, v4, v5, v6, v7) e2) fun r3 => ifb (ieq r3.2 (0 : Int)) (ck (v0 + (1 : Int)) fun n4 => kn n4 v1 v2 v3 v4 v5 v6 v7) (bf (fL ((v1, v2), v3, v4, v5, v6, v7) e2) fun r5 => ifb (ine r5.2 (0 : Int)) (k0 (r5.2, v1, v2, v3, v4, v5, v6, v7)) (ck (v0 + (1 : Int)) fun n6 => kn n6 r5.1.1.1 r5.1.1.2 r5.1.2.1 r5.1.2.2.1 r5.1.2.2.2.1 r5.1.2.2.2.2.1 r5.1.2.2.2.2.2)))) (k1 (v1, v2, v3, v4, v5, v6, v7))
def Hn (a0 : Val bg) (a1 : Val bc) (a2 : Val bc) (k : Val bc → Option ρ) : Option ρ :=
  bf (cd a0) fun r1 => ifb (ine r1 (0 : Int)) (ifb (ine r1 (0 : Int)) (k ((0 : Int), r1)) (b9 (igt a2.1 a2.2) (k ((0 : Int), (1 : Int))))) (bw (fun (v13 : (Val aC)) kk22 => un (bG ([a1])) ([a1]) v13.1 v13.2.1 v13.2.2.1 v13.2.2.2.1 v13.2.2.2.2.1 v13.2.2.2.2.2.1 v13.2.2.2.2.2.2.1 v13.2.2.2.2.2.2.2 (fun u14 u15 u16 u17 u18 u19 u20 u21 => kk22 (u14, u15, u16, u17, u18, u19, u20, u21)) (fun z7 => ifb (ine z7.1 (0 : Int)) (k ((0 : Int), z7.1)) (b9 (igt a2.1 a2.2) (k ((0 : Int), (1 : Int))))) (fun z8 => bf (df ((z8.1, z8.2.1), z8.2.2)) fun r9 => ifb (ine r9.2.2 (0 : Int)) (ifb (ine r9.2.2 (0 : Int)) (k ((0 : Int), r9.2.2)) (b9 (igt a2.1 a2.2) (k ((0 : Int), (1 : Int))))) (bf (dc r9.1) fun r10 => ifb (!r10.1) (k ((0 : Int), (9 : Int))) (ifb (igt a2.1 a2.2) (k ((0 : Int), (1 : Int))) (bf (eT (((z8.1, z8.2.1), z8.2.2), r9.1) a1) fun r11 => bf (nz r11 a2) fun r12 => k (r12, (0 : Int))))))) ((0 : Int), a0.1.1, a0.1.2, a0.2.1, a0.2.2.1, a0.2.2.2.1, a0.2.2.2.2.1, a0.2.2.2.2.2))
def BC (a0 : Val bg) (a1 : Val bc) (a2 : Val bc) : Option (Val bc) := Hn a0 a1 a2 some
def rU (c0 : Int) (v0 : Int) (v1 : (Val ab)) (kn : Int → (Val ab) → Option ρ) (k0 : (Val ab) → Option ρ) : Option ρ :=
  ifb (ilt v0 c0) (b9 ((ile (0 : Int) v0) && (ilt v0 (dj v1))) (gk v1 (Int.toNat v0) fun e2 => b9 (bZ (List.length e2.2.2.1)) (b9 (bZ (List.length e2.2.2.2.1)) (b9 ((ile (0 : Int) v0) && (ilt v0 (dj v1))) (gk v1 (Int.toNat v0) fun e3 => b9 ((ile (0 : Int) v0) && (ilt v0 (dj (List.set v1 (Int.toNat v0) (e3.1, e3.2.1, e2.2.2.1, e3.2.2.2))))) (gk (List.set v1 (Int.toNat v0) (e3.1, e3.2.1, e2.2.2.1, e3.2.2.2)) (Int.toNat v0) fun e4 => ck (v0 + (1 : Int)) fun n5 => kn n5 (List.set (List.set v1 (Int.toNat v0) (e3.1, e3.2.1, e2.2.2.1, e3.2.2.2)) (Int.toNat v0) (e4.1, e4.2.1, e4.2.2.1, e2.2.2.2.1, e4.2.2.2.2)))))))) (k0 v1)
def OO (a0 : Val bg) (a1 : Val bq) (k : (Val aM) → Option ρ) : Option ρ :=
  b9 (bZ (List.length a1.2.2.1)) (b9 (bZ (List.length a1.2.2.2.1)) (bf (cd a0) fun r1 => ifb (ine r1 (0 : Int)) (k ((((0 : Int), (0 : Int)), [], [], [], [], []), r1)) (b9 (bZ (List.length a0.2.1)) (b9 (bZ (List.length a0.2.2.1)) (b9 (bZ (List.length a0.2.2.2.1)) (b9 (bZ (List.length a0.2.2.2.2.2)) (b9 (bZ (List.length a0.2.2.2.2.1)) (bw (fun (v8 : (Val (.pair tI ab))) kk11 => rU (bG a0.2.2.2.2.1) v8.1 v8.2 (fun u9 u10 => kk11 (u9, u10)) (fun z6 => b9 (bZ ((List.length z6) + (List.length ([a1])))) (bf (cd (a0.1, a0.2.1, a0.2.2.1, a0.2.2.2.1, (z6 ++ ([a1])), a0.2.2.2.2.2)) fun r7 => ifb (ine r7 (0 : Int)) (k ((((0 : Int), (0 : Int)), [], [], [], [], []), r7)) (k ((a0.1, a0.2.1, a0.2.2.1, a0.2.2.2.1, (z6 ++ ([a1])), a0.2.2.2.2.2), (0 : Int)))))) ((0 : Int), a0.2.2.2.2.1)))))))))
def mB (a0 : Val bg) (a1 : Val bq) : Option ((Val aM)) := OO a0 a1 some
def Ii (a0 : Val bg) (a1 : Val bq) (a2 : Val bc) (k : Val jF → Option ρ) : Option ρ :=
  bf (mS a0 a1) fun r1 => bf (qC a0 a1) fun r2 => bf (BH r1.1) fun r3 => bf (vo r1.2) fun r4 => ck (r3.1 + r2.1) fun n5 => ck (n5 - a1.2.2.2.2.2.1) fun n6 => ck (r4.1 + r2.2) fun n7 => ck (n7 + a1.2.2.2.2.2.1) fun n8 => ifb (igt n6 n8) (k (((0 : Int), (0 : Int)), (5 : Int))) (ck (a2.1 + n6) fun n9 => ck (a2.2 + n8) fun n10 => k ((n9, n10), (0 : Int)))
def qB (a0 : Val bg) (a1 : Val bq) (a2 : Val bc) : Option (Val jF) := Ii a0 a1 a2 some
def yE (a0 : Val bg) (a1 : Val bq) (k : Val jF → Option ρ) : Option ρ :=
  bf (mB a0 (a1.1, a1.2.1, a1.2.2.1, a1.2.2.2.1, (0 : Int), a1.2.2.2.2.2)) fun r1 => ifb (ine r1.2 (0 : Int)) (k (((0 : Int), (0 : Int)), r1.2)) (bf (wd r1.1) fun r2 => ck ((bG r2.2.2.1.2) - (2 : Int)) fun n3 => b9 ((ile (0 : Int) n3) && (ile n3 (dj r2.2.2.1.2))) (bf (eO a1.2.2.1 a1.2.2.2.1) fun r4 => bf (gE r2 r4 a1.2.1) fun r5 => bf (eO a1.2.2.2.1 a1.2.2.1) fun r6 => bf (gE r2 r6 a1.2.1) fun r7 => bf (nE (r2.2.2.1.1, (List.take (Int.toNat n3) r2.2.2.1.2)) r7 r5) fun r8 => ifb (ine r8.2 (0 : Int)) (k (((0 : Int), (0 : Int)), r8.2)) (bf (nE (r2.2.2.1.1, (List.take (Int.toNat n3) r2.2.2.1.2)) r5 r7) fun r9 => ifb (ine r9.2 (0 : Int)) (k (((0 : Int), (0 : Int)), r9.2)) (ck (0 - r9.1) fun n10 => bf (qB a0 (a1.1, a1.2.1, a1.2.2.1, a1.2.2.2.1, (0 : Int), a1.2.2.2.2.2) (n10, r8.1)) fun r11 => k (r11.1, r11.2)))))
def si (a0 : Val bg) (a1 : Val bq) : Option (Val jF) := yE a0 a1 some
def Ig (a0 : Val bg) (a1 : Int) (k : (Val (.pair bq tI)) → Option ρ) : Option ρ :=
  bf (cd a0) fun r1 => ifb (ine r1 (0 : Int)) (k (((0 : Int), (0 : Int), [], [], (0 : Int), (0 : Int), (0 : Int), (0 : Int)), r1)) (ifb (ilt a1 (0 : Int)) (k (((0 : Int), (0 : Int), [], [], (0 : Int), (0 : Int), (0 : Int), (0 : Int)), (1 : Int))) (ifb (ige a1 (bG a0.2.2.2.2.1)) (k (((0 : Int), (0 : Int), [], [], (0 : Int), (0 : Int), (0 : Int), (0 : Int)), (1 : Int))) (dm a0.2.2.2.2.1 a1 fun e2 => k (e2, (0 : Int)))))
def BI (a0 : Val bg) (a1 : Int) : Option ((Val (.pair bq tI))) := Ig a0 a1 some
def OQ (a0 : Val bg) (a1 : Int) (k : Val jF → Option ρ) : Option ρ :=
  bf (BI a0 a1) fun r1 => ifb (ine r1.2 (0 : Int)) (k (((0 : Int), (0 : Int)), r1.2)) (bf (sf a0 r1.1) fun r2 => k (r2, (0 : Int)))
def Ge (a0 : Val bg) (a1 : Int) : Option (Val jF) := OQ a0 a1 some
def uf (a0 : (Val ac)) (a1 : (Val au)) (a2 : (Val (.ptr bq))) (k : Int → Option ρ) : Option ρ :=
  ifb (ieq (bG a0) (0 : Int)) (k (0 : Int)) (dm a0 (0 : Int) fun e1 => bf (fV a1 (e1, a2.2.1)) fun r2 => k r2)
def lO (a0 : (Val ac)) (a1 : (Val au)) (a2 : (Val (.ptr bq))) : Option (Int) := uf a0 a1 a2 some
def ue (a0 : Int) (a1 : Int) (a2 : (Val au)) (a3 : (Val (.ptr tI))) (a4 : (Val aQ)) (a5 : (Val (.ptr tI))) (k : Val cA → Option ρ) : Option ρ :=
  bf (cq a2 a0 a1) fun r1 => bf (cq a2 a3 a1) fun r2 => ck (r2 + a4.2) fun n3 => bf (cq a2 a0 a5) fun r4 => ck (n3 + r4) fun n5 => bf (cq a2 a5 a1) fun r6 => ck (r6 - a4.1) fun n7 => bf (cq a2 a0 a3) fun r8 => ck (n7 + r8) fun n9 => k (r1, n5, n9)
def lN (a0 : Int) (a1 : Int) (a2 : (Val au)) (a3 : (Val (.ptr tI))) (a4 : (Val aQ)) (a5 : (Val (.ptr tI))) : Option (Val cA) := ue a0 a1 a2 a3 a4 a5 some
def jR (c0 : Int) (c3 : (Val aa)) (c4 : (Val ah)) (c5 : Int) (v0 : Int) (v1 : (Val ah)) (kn : Int → (Val ah) → Option ρ) (k0 : (Val ah) → Option ρ) : Option ρ :=
  ifb (ilt v0 c5) (dm c4 v0 fun e7 => dm c3 v0 fun e8 => ifb (!((fm e8.1 (3 : Int)) && ((fm e8.2 c0) && true))) (b9 (bZ ((List.length v1) + (List.length ([e7])))) (ck (v0 + (1 : Int)) fun n9 => kn n9 (v1 ++ ([e7])))) (ck (v0 + (1 : Int)) fun n10 => kn n10 v1)) (k0 v1)
def Cs (a0 : (Val au)) (a1 : Val bc) (a2 : Val bq) (k : (Val (.pair eW tI)) → Option ρ) : Option ρ :=
  bf (si a0.1 a2) fun r1 => ifb (ine r1.2 (0 : Int)) (k ((((0 : Int), (0 : Int)), ((0 : Int), (0 : Int), (0 : Int)), (0 : Int), (0 : Int), (0 : Int)), r1.2)) (bf (mB a0.1 (a2.1, a2.2.1, a2.2.2.1, a2.2.2.2.1, (0 : Int), a2.2.2.2.2.2)) fun r2 => ifb (ine r2.2 (0 : Int)) (k ((((0 : Int), (0 : Int)), ((0 : Int), (0 : Int), (0 : Int)), (0 : Int), (0 : Int), (0 : Int)), r2.2)) (ck ((bG r2.1.2.2.2.2.1) - (1 : Int)) fun n3 => bf (Ge r2.1 n3) fun r4 => bf (qD a2.2.2.1 a2.2.2.2.1) fun r5 => bf (df r2.1) fun r6 => bw (fun (v17 : Val bo) kk20 => jR n3 r6.2.1 r6.1.2 (bG r6.1.2) v17.1 v17.2 (fun u18 u19 => kk20 (u18, u19)) (fun z11 => bf (lO r5.1 (r2.1, r6.1.1, z11) (a2.1, a2.2.1, a2.2.2.1, a2.2.2.2.1, (0 : Int), a2.2.2.2.2.2)) fun r12 => bf (lO r5.2.1 (r2.1, r6.1.1, z11) (a2.1, a2.2.1, a2.2.2.1, a2.2.2.2.1, (0 : Int), a2.2.2.2.2.2)) fun r13 => bf (fV (r2.1, r6.1.1, z11) a1) fun r14 => bf (lN r14 (0 : Int) (r2.1, r6.1.1, z11) r13 r4.1 r12) fun r15 => bf (lN (0 : Int) r14 (r2.1, r6.1.1, z11) r13 r4.1 r12) fun r16 => k ((r1.1, r15, r16), (0 : Int)))) ((0 : Int), [])))
def qx (a0 : (Val au)) (a1 : Val bc) (a2 : Val bq) : Option ((Val (.pair eW tI))) := Cs a0 a1 a2 some
def rd (a0 : Val cA) (k : (Val ac) → Option ρ) : Option ρ :=
  ck (a0.2.2 - a0.2.1) fun n1 => ck (Int.tdiv n1 (2 : Int)) fun n2 => ck (a0.1 - a0.2.1) fun n3 => ck (a0.2.2 - a0.1) fun n4 => ck (n2 - (1 : Int)) fun n5 => ck (n2 + (1 : Int)) fun n6 => k ([n3, n4, n2, n5, n6])
def gN (a0 : Val cA) : Option ((Val ac)) := rd a0 some
def Cv (a0 : Val cA) (a1 : Int) (k : Int → Option ρ) : Option ρ :=
  ck (a0.2.1 + a1) fun n1 => ck (a0.2.2 - a1) fun n2 => k (SP (SP a0.1 n1) n2)
def qy (a0 : Val cA) (a1 : Int) : Option (Int) := Cv a0 a1 some
def oW (a0 : Val eW) (a1 : Int) (k : Val bc → Option ρ) : Option ρ :=
  bf (qy a0.2.2 a1) fun r1 => ck (0 - r1) fun n2 => bf (qy a0.2.1 a1) fun r3 => k (n2, r3)
def dV (a0 : Val eW) (a1 : Int) : Option (Val bc) := oW a0 a1 some
def gq (c0 : Int) (c4 : Int) (c5 : Int) (v0 : Int) (v1 : (Val ac)) (kn : Int → (Val ac) → Option ρ) (k0 : (Val ac) → Option ρ) : Option ρ :=
  ck (c0 + (2 : Int)) fun n3 => ifb (ile v0 n3) (ifb (igt v0 c4) (ifb (ilt v0 c5) (b9 (bZ ((List.length v1) + (List.length ([v0])))) (ck (v0 + (1 : Int)) fun n4 => kn n4 (v1 ++ ([v0])))) (ck (v0 + (1 : Int)) fun n5 => kn n5 v1)) (ck (v0 + (1 : Int)) fun n6 => kn n6 v1)) (k0 v1)
def iE (c0 : (Val ac)) (c1 : Int) (c2 : Int) (c3 : Int) (v0 : Int) (v1 : (Val ac)) (kn : Int → (Val ac) → Option ρ) (k0 : (Val ac) → Option ρ) : Option ρ :=
  ifb (ilt v0 c1) (dm c0 v0 fun e1 => ck (e1 - (2 : Int)) fun n2 => bw (fun (v9 : (Val ax)) kk12 => gq e1 c2 c3 v9.1 v9.2 (fun u10 u11 => kk12 (u10, u11)) (fun z7 => ck (v0 + (1 : Int)) fun n8 => kn n8 z7)) (n2, v1)) (k0 v1)
def oX (a0 : Val eW) (a1 : (Val ac)) (k : (Val ac) → Option ρ) : Option ρ :=
  bw (fun (v14 : (Val ax)) kk17 => iE a1 (bG a1) a0.1.1 a0.1.2 v14.1 v14.2 (fun u15 u16 => kk17 (u15, u16)) (fun z13 => k z13)) ((0 : Int), [a0.1.1, a0.1.2])
def iZ (a0 : Val eW) (a1 : (Val ac)) : Option ((Val ac)) := oX a0 a1 some
def ig (c0 : (Val ac)) (c1 : Int) (c2 : Int) (c3 : Int) (c4 : Int) (c5 : Int) (c6 : Int) (c7 : Int) (c8 : Int) (c9 : Int) (v0 : Int) (v1 : Int) (kn : Int → Int → Option ρ) (k0 : Int → Option ρ) : Option ρ :=
  ifb (ilt v1 c1) (dm c0 v1 fun e5 => bf (dV ((c2, c3), (c4, c5, c6), c7, c8, c9) e5) fun r6 => ck (r6.2 - r6.1) fun n7 => ck (v1 + (1 : Int)) fun n8 => kn (PF v0 n7) n8) (k0 v0)
def nc (a0 : Val eW) (k : Int → Option ρ) : Option ρ :=
  bf (gN a0.2.1) fun r1 => bf (gN a0.2.2) fun r2 => bf (bS ([r1, r2])) fun r3 => bf (iZ a0 r3) fun r4 => bw (fun (v10 : Val bc) kk13 => ig r4 (bG r4) a0.1.1 a0.1.2 a0.2.1.1 a0.2.1.2.1 a0.2.1.2.2 a0.2.2.1 a0.2.2.2.1 a0.2.2.2.2 v10.1 v10.2 (fun u11 u12 => kk13 (u11, u12)) (fun z9 => k z9)) ((-1 : Int), (0 : Int))
def jY (a0 : Val eW) : Option (Int) := nc a0 some
def uj (c0 : Int) (c18 : (Val aa)) (v0 : Int) (v1 : Int) (v2 : Int) (v3 : (Val ae)) (v4 : (Val aa)) (v5 : (Val af)) (v6 : (Val ab)) (v7 : (Val aa)) (kn : Int → Int → Int → (Val ae) → (Val aa) → (Val af) → (Val ab) → (Val aa) → Option ρ) (k0 : (Val aC) → Option ρ) (k1 : (Val ai) → Option ρ) : Option ρ :=
  ifb (ilt v0 c0) (b9 ((ile (0 : Int) v0) && (ilt v0 (dj c18))) (gk c18 (Int.toNat v0) fun e2 => bf (dg ((v1, v2), v3, v4, v5, v6, v7) e2) fun r3 => ifb (ieq r3.2 (0 : Int)) (ck (v0 + (1 : Int)) fun n4 => kn n4 v1 v2 v3 v4 v5 v6 v7) (bf (fL ((v1, v2), v3, v4, v5, v6, v7) e2) fun r5 => ifb (ine r5.2 (0 : Int)) (k0 (r5.2, v1, v2, v3, v4, v5, v6, v7)) (ck (v0 + (1 : Int)) fun n6 => kn n6 r5.1.1.1 r5.1.1.2 r5.1.2.1 r5.1.2.2.1 r5.1.2.2.2.1 r5.1.2.2.2.2.1 r5.1.2.2.2.2.2)))) (k1 (v1, v2, v3, v4, v5, v6, v7))
def Hk (a0 : Val bg) (a1 : Val bc) (a2 : Val bq) (k : Val bc → Option ρ) : Option ρ :=
  bf (cd a0) fun r1 => ifb (ine r1 (0 : Int)) (b9 (ine r1 (0 : Int)) (k ((0 : Int), r1))) (bw (fun (v13 : (Val aC)) kk22 => uj (bG ([a1])) ([a1]) v13.1 v13.2.1 v13.2.2.1 v13.2.2.2.1 v13.2.2.2.2.1 v13.2.2.2.2.2.1 v13.2.2.2.2.2.2.1 v13.2.2.2.2.2.2.2 (fun u14 u15 u16 u17 u18 u19 u20 u21 => kk22 (u14, u15, u16, u17, u18, u19, u20, u21)) (fun z7 => b9 (ine z7.1 (0 : Int)) (k ((0 : Int), z7.1))) (fun z8 => bf (df ((z8.1, z8.2.1), z8.2.2)) fun r9 => ifb (ine r9.2.2 (0 : Int)) (b9 (ine r9.2.2 (0 : Int)) (k ((0 : Int), r9.2.2))) (bf (dc r9.1) fun r10 => ifb (!r10.1) (k ((0 : Int), (9 : Int))) (bf (qx (((z8.1, z8.2.1), z8.2.2), r9.1) a1 a2) fun r11 => ifb (ine r11.2 (0 : Int)) (k ((0 : Int), r11.2)) (bf (jY r11.1) fun r12 => k (r12, (0 : Int))))))) ((0 : Int), a0.1.1, a0.1.2, a0.2.1, a0.2.2.1, a0.2.2.2.1, a0.2.2.2.2.1, a0.2.2.2.2.2))
def vj (a0 : Val bg) (a1 : Val bc) (a2 : Val bq) : Option (Val bc) := Hk a0 a1 a2 some
def kZ (c0 : (Val ac)) (c1 : Int) (c3 : (Val ah)) (v0 : Int) (kn : Int → Option ρ) (k0 : Int → Option ρ) (k1 : Unit → Option ρ) : Option ρ :=
  ifb (ilt v0 c1) (dm c0 v0 fun e1 => ifb (ilt e1 (0 : Int)) (k0 v0) (ifb (ige e1 (bG c3)) (k0 v0) (ck (v0 + (1 : Int)) fun n2 => kn n2))) (k1 ())
def yo (a0 : Val bo) (a1 : (Val ac)) (k : Int → Option ρ) : Option ρ :=
  ifb (igt (bG a1) (80 : Int)) (k (2 : Int)) (bw (fun (v5 : Int) kk7 => kZ a1 (bG a1) a0.2 v5 (fun u6 => kk7 u6) (fun z3 => ifb (ige z3 (0 : Int)) (k (1 : Int)) (k (0 : Int))) (fun _ => k (0 : Int))) (0 : Int))
def nD (a0 : Val bo) (a1 : (Val ac)) : Option (Int) := yo a0 a1 some
def rq (c0 : (Val ac)) (c1 : Int) (c3 : (Val ah)) (v0 : Int) (v1 : Int) (v2 : Int) (kn : Int → Int → Int → Option ρ) (k0 : (Val (.pair tI aV)) → Option ρ) (k1 : Val bc → Option ρ) : Option ρ :=
  ifb (ilt v2 c1) (dm c0 v2 fun e1 => dm c3 e1 fun e2 => ifb (ine e2.1 v0) (k0 ((0 : Int), (0 : Int), false)) (ck (v1 + e2.2.2) fun n3 => ck (v2 + (1 : Int)) fun n4 => kn e2.2.1 n3 n4)) (k1 (v0, v1))
def NW (a0 : Val bo) (a1 : Int) (a2 : (Val ac)) (k : (Val (.pair tI aV)) → Option ρ) : Option ρ :=
  bw (fun (v7 : Val cA) kk11 => rq a2 (bG a2) a0.2 v7.1 v7.2.1 v7.2.2 (fun u8 u9 u10 => kk11 (u8, u9, u10)) (fun z5 => k (z5.1, z5.2.1, z5.2.2)) (fun z6 => k (z6.1, z6.2, true))) (a1, (0 : Int), (0 : Int))
def BF (a0 : Val bo) (a1 : Int) (a2 : (Val ac)) : Option ((Val (.pair tI aV))) := NW a0 a1 a2 some
def pm (a0 : Val bo) (a1 : Int) (a2 : Int) (a3 : (Val ac)) (k : Val bc → Option ρ) : Option ρ :=
  bf (j3 a0) fun r1 => ifb (ine r1.1 (0 : Int)) (k ((0 : Int), r1.1)) (bf (oN a0 a1) fun r2 => ifb (!r2) (k ((0 : Int), (1 : Int))) (bf (oN a0 a2) fun r3 => ifb (!r3) (k ((0 : Int), (1 : Int))) (bf (nD a0 a3) fun r4 => ifb (ine r4 (0 : Int)) (k ((0 : Int), r4)) (bf (BF a0 a1 a3) fun r5 => ifb (!r5.2.2) (k ((0 : Int), (8 : Int))) (ifb (ine r5.1 a2) (k ((0 : Int), (8 : Int))) (k (r5.2.1, (0 : Int))))))))
def i0 (a0 : Val bo) (a1 : Int) (a2 : Int) (a3 : (Val ac)) : Option (Val bc) := pm a0 a1 a2 a3 some
def rk (a0 : Val fX) (k : Int → Option ρ) : Option ρ :=
  bf (cd a0.1) fun r1 => ifb (ine r1 (0 : Int)) (k r1) (bf (dg a0.1 a0.2.1) fun r2 => ifb (ine r2.2 (0 : Int)) (k (5 : Int)) (bf (df a0.1) fun r3 => ck (0 - a0.2.2.2.1) fun n4 => ifb a0.2.2.1 (bf (i0 r3.1 (0 : Int) r2.1 a0.2.2.2.2) fun r5 => ifb (ine r5.2 (0 : Int)) (k (8 : Int)) (ifb (ine r5.1 a0.2.2.2.1) (k (8 : Int)) (k (0 : Int)))) (bf (i0 r3.1 r2.1 (0 : Int) a0.2.2.2.2) fun r6 => ifb (ine r6.2 (0 : Int)) (k (8 : Int)) (ifb (ine r6.1 n4) (k (8 : Int)) (k (0 : Int))))))
def j1 (a0 : Val fX) : Option (Int) := rk a0 some
def pl (a0 : Val bo) (a1 : (Val ac)) (k : Int → Option ρ) : Option ρ :=
  bf (j3 a0) fun r1 => ifb (ine r1.1 (0 : Int)) (k r1.1) (bf (nD a0 a1) fun r2 => ifb (ine r2 (0 : Int)) (k r2) (ifb (ieq (bG a1) (0 : Int)) (k (8 : Int)) (dm a1 (0 : Int) fun e3 => dm a0.2 e3 fun e4 => bf (BF a0 e4.1 a1) fun r5 => ifb (!r5.2.2) (k (8 : Int)) (ifb (ine r5.1 e4.1) (k (8 : Int)) (ifb (ige r5.2.1 (0 : Int)) (k (8 : Int)) (k (0 : Int)))))))
def lf (a0 : Val bo) (a1 : (Val ac)) : Option (Int) := pl a0 a1 some
def pd (a0 : Val fX) (k : Int → Option ρ) : Option ρ :=
  bf (cd a0.1) fun r1 => ifb (ine r1 (0 : Int)) (k r1) (ifb (!((fm a0.2.1.1 (0 : Int)) && ((fm a0.2.1.2 (0 : Int)) && true))) (k (1 : Int)) (ifb a0.2.2.1 (k (1 : Int)) (ifb (ine a0.2.2.2.1 (0 : Int)) (k (1 : Int)) (bf (df a0.1) fun r2 => bf (lf r2.1 a0.2.2.2.2) fun r3 => ifb (ine r3 (0 : Int)) (k (8 : Int)) (k (0 : Int))))))
def ld (a0 : Val fX) : Option (Int) := pd a0 some
def cj (c0 : (Val ae)) (c1 : Int) (c2 : Int) (c3 : Int) (c4 : Int) (c5 : Int) (c6 : Int) (c7 : Int) (c8 : Int) (c9 : Int) (v0 : Int) (kn : Int → Option ρ) (k0 : Int → Option ρ) (k1 : Unit → Option ρ) : Option ρ :=
  ifb (ilt v0 c1) (dm c0 v0 fun e1 => ifb ((fm c2 e1.1) && ((fm c3 e1.2.1) && ((fm c4 e1.2.2.1) && ((fm c5 e1.2.2.2.1.1) && ((fm c6 e1.2.2.2.1.2) && ((fm c7 e1.2.2.2.2.1.1) && ((fm c8 e1.2.2.2.2.1.2) && ((fm c9 e1.2.2.2.2.2) && true)))))))) (k0 v0) (ck (v0 + (1 : Int)) fun n2 => kn n2)) (k1 ())
def eE (a0 : (Val ae)) (a1 : Val br) (k : Int → Option ρ) : Option ρ :=
  bw (fun (v5 : Int) kk7 => cj a0 (bG a0) a1.1 a1.2.1 a1.2.2.1 a1.2.2.2.1.1 a1.2.2.2.1.2 a1.2.2.2.2.1.1 a1.2.2.2.2.1.2 a1.2.2.2.2.2 v5 (fun u6 => kk7 u6) (fun z3 => k z3) (fun _ => k (-1 : Int))) (0 : Int)
def eF (a0 : (Val ae)) (a1 : Val br) : Option (Int) := eE a0 a1 some
def dM (a0 : (Val ae)) (a1 : Val br) (k : Bool → Option ρ) : Option ρ :=
  bf (eF a0 a1) fun r1 => k (ige r1 (0 : Int))
def cW (a0 : (Val ae)) (a1 : Val br) : Option (Bool) := dM a0 a1 some
def cI (c0 : (Val aa)) (c1 : Int) (c2 : Int) (c3 : Int) (v0 : Int) (kn : Int → Option ρ) (k0 : Int → Option ρ) (k1 : Unit → Option ρ) : Option ρ :=
  ifb (ilt v0 c1) (dm c0 v0 fun e1 => ifb ((fm c2 e1.1) && ((fm c3 e1.2) && true)) (k0 v0) (ck (v0 + (1 : Int)) fun n2 => kn n2)) (k1 ())
def fP (a0 : (Val aa)) (a1 : Val bc) (k : Int → Option ρ) : Option ρ :=
  bw (fun (v5 : Int) kk7 => cI a0 (bG a0) a1.1 a1.2 v5 (fun u6 => kk7 u6) (fun z3 => k z3) (fun _ => k (-1 : Int))) (0 : Int)
def fT (a0 : (Val aa)) (a1 : Val bc) : Option (Int) := fP a0 a1 some
def eN (a0 : (Val aa)) (a1 : Val bc) (k : Bool → Option ρ) : Option ρ :=
  bf (fT a0 a1) fun r1 => k (ige r1 (0 : Int))
def cN (a0 : (Val aa)) (a1 : Val bc) : Option (Bool) := eN a0 a1 some
def cr (c0 : (Val af)) (c1 : Int) (c2 : Int) (c3 : Int) (c4 : Int) (c5 : Int) (v0 : Int) (kn : Int → Option ρ) (k0 : Int → Option ρ) (k1 : Unit → Option ρ) : Option ρ :=
  ifb (ilt v0 c1) (dm c0 v0 fun e1 => ifb ((fm c2 e1.1) && ((fm c3 e1.2.1.1) && ((fm c4 e1.2.1.2) && ((fm c5 e1.2.2) && true)))) (k0 v0) (ck (v0 + (1 : Int)) fun n2 => kn n2)) (k1 ())
def fe (a0 : (Val af)) (a1 : Val dC) (k : Int → Option ρ) : Option ρ :=
  bw (fun (v5 : Int) kk7 => cr a0 (bG a0) a1.1 a1.2.1.1 a1.2.1.2 a1.2.2 v5 (fun u6 => kk7 u6) (fun z3 => k z3) (fun _ => k (-1 : Int))) (0 : Int)
def fh (a0 : (Val af)) (a1 : Val dC) : Option (Int) := fe a0 a1 some
def dZ (a0 : (Val af)) (a1 : Val dC) (k : Bool → Option ρ) : Option ρ :=
  bf (fh a0 a1) fun r1 => k (ige r1 (0 : Int))
def cu (a0 : (Val af)) (a1 : Val dC) : Option (Bool) := dZ a0 a1 some
def rc (c0 : (Val ae)) (c1 : Int) (v0 : Int) (v1 : (Val aj)) (kn : Int → (Val aj) → Option ρ) (k0 : (Val aj) → Option ρ) : Option ρ :=
  ifb (ilt v0 c1) (dm c0 v0 fun e1 => ck (v0 + (1 : Int)) fun n2 => kn n2 (F0 (k := tI) (v := .bool) e1.1 true v1)) (k0 v1)
def kE (c0 : (Val ac)) (c1 : (Val ac)) (c2 : Int) (v0 : Int) (kn : Int → Option ρ) (k0 : Bool → Option ρ) (k1 : Unit → Option ρ) : Option ρ :=
  ifb (ilt v0 c2) (dm c0 v0 fun e7 => dm c1 v0 fun e8 => ifb (ine e7 e8) (k0 false) (ck (v0 + (1 : Int)) fun n9 => kn n9)) (k1 ())
def qZ (c0 : (Val ac)) (c1 : (Val ac)) (c2 : Int) (v0 : Int) (kn : Int → Option ρ) (k0 : Bool → Option ρ) (k1 : Unit → Option ρ) : Option ρ :=
  ifb (ilt v0 c2) (dm c0 v0 fun e12 => dm c1 v0 fun e13 => ifb (ine e12 e13) (k0 false) (ck (v0 + (1 : Int)) fun n14 => kn n14)) (k1 ())
def nj (c0 : (Val ab)) (c1 : Int) (c17 : Int) (c18 : Int) (c19 : (Val ac)) (c20 : (Val ac)) (c21 : Int) (c22 : Int) (c23 : Int) (c24 : Int) (v0 : Int) (kn : Int → Option ρ) (k0 : Int → Option ρ) (k1 : Unit → Option ρ) : Option ρ :=
  ifb (ilt v0 c1) (dm c0 v0 fun e5 => ifb (ieq c17 e5.1) (ifb (ieq c18 e5.2.1) (ifb (ieq c21 e5.2.2.2.2.1) (ifb (ieq c22 e5.2.2.2.2.2.1) (ifb ((fm c23 e5.2.2.2.2.2.2.1) && ((fm c24 e5.2.2.2.2.2.2.2) && true)) (ifb (ine (bG c19) (bG e5.2.2.1)) (ck (v0 + (1 : Int)) fun n6 => kn n6) (bw (fun (v30 : Int) kk32 => kE c19 e5.2.2.1 (bG c19) v30 (fun u31 => kk32 u31) (fun z10 => ifb z10 (ifb (ine (bG c20) (bG e5.2.2.2.1)) (ck (v0 + (1 : Int)) fun n11 => kn n11) (bw (fun (v18 : Int) kk20 => qZ c20 e5.2.2.2.1 (bG c20) v18 (fun u19 => kk20 u19) (fun z15 => ifb z15 (k0 v0) (ck (v0 + (1 : Int)) fun n16 => kn n16)) (fun _ => k0 v0)) (0 : Int))) (ck (v0 + (1 : Int)) fun n21 => kn n21)) (fun _ => ifb (ine (bG c20) (bG e5.2.2.2.1)) (ck (v0 + (1 : Int)) fun n23 => kn n23) (bw (fun (v27 : Int) kk29 => qZ c20 e5.2.2.2.1 (bG c20) v27 (fun u28 => kk29 u28) (fun z24 => ifb z24 (k0 v0) (ck (v0 + (1 : Int)) fun n25 => kn n25)) (fun _ => k0 v0)) (0 : Int)))) (0 : Int))) (ck (v0 + (1 : Int)) fun n33 => kn n33)) (ck (v0 + (1 : Int)) fun n34 => kn n34)) (ck (v0 + (1 : Int)) fun n35 => kn n35)) (ck (v0 + (1 : Int)) fun n36 => kn n36)) (ck (v0 + (1 : Int)) fun n37 => kn n37)) (k1 ())
def nk (c0 : (Val ab)) (c1 : Int) (c14 : (Val ab)) (v0 : Int) (kn : Int → Option ρ) (k0 : Bool → Option ρ) (k1 : Unit → Option ρ) : Option ρ :=
  ifb (ilt v0 c1) (dm c0 v0 fun e4 => bw (fun (v41 : Int) kk43 => nj c14 (bG c14) e4.1 e4.2.1 e4.2.2.1 e4.2.2.2.1 e4.2.2.2.2.1 e4.2.2.2.2.2.1 e4.2.2.2.2.2.2.1 e4.2.2.2.2.2.2.2 v41 (fun u42 => kk43 u42) (fun z38 => ifb (!(ige z38 (0 : Int))) (k0 false) (ck (v0 + (1 : Int)) fun n39 => kn n39)) (fun _ => k0 false)) (0 : Int)) (k1 ())
def ni (c0 : (Val ae)) (c1 : Int) (c17 : (Val ae)) (v0 : Int) (kn : Int → Option ρ) (k0 : Int → Option ρ) (k1 : Unit → Option ρ) : Option ρ :=
  ifb (ilt v0 c1) (dm c0 v0 fun e46 => bf (cW c17 e46) fun r47 => ifb (!r47) (k0 v0) (ck (v0 + (1 : Int)) fun n48 => kn n48)) (k1 ())
def jh (c0 : (Val aa)) (c1 : Int) (c16 : (Val aj)) (c18 : (Val aa)) (v0 : Int) (kn : Int → Option ρ) (k0 : Int → Option ρ) (k1 : Unit → Option ρ) : Option ρ :=
  ifb (ilt v0 c1) (dm c0 v0 fun e50 => PE (k := tI) (v := .bool) e50.1 c16 (fun y51 => ifb y51 (bf (cN c18 e50) fun r52 => ifb (!r52) (k0 v0) (ck (v0 + (1 : Int)) fun n53 => kn n53)) (ck (v0 + (1 : Int)) fun n54 => kn n54)) (ck (v0 + (1 : Int)) fun n55 => kn n55)) (k1 ())
def kD (c0 : (Val aa)) (c1 : Int) (c16 : (Val aj)) (c19 : (Val aa)) (v0 : Int) (kn : Int → Option ρ) (k0 : Int → Option ρ) (k1 : Unit → Option ρ) : Option ρ :=
  ifb (ilt v0 c1) (dm c0 v0 fun e57 => PE (k := tI) (v := .bool) e57.1 c16 (fun y58 => ifb y58 (bf (cN c19 e57) fun r59 => ifb (!r59) (k0 v0) (ck (v0 + (1 : Int)) fun n60 => kn n60)) (ck (v0 + (1 : Int)) fun n61 => kn n61)) (ck (v0 + (1 : Int)) fun n62 => kn n62)) (k1 ())
def dF (c0 : (Val af)) (c1 : Int) (c16 : (Val aj)) (c20 : (Val af)) (v0 : Int) (kn : Int → Option ρ) (k0 : Int → Option ρ) (k1 : Unit → Option ρ) : Option ρ :=
  ifb (ilt v0 c1) (dm c0 v0 fun e64 => PE (k := tI) (v := .bool) e64.1 c16 (fun y65 => ifb y65 (bf (cu c20 e64) fun r66 => ifb (!r66) (k0 v0) (ck (v0 + (1 : Int)) fun n67 => kn n67)) (ck (v0 + (1 : Int)) fun n68 => kn n68)) (ck (v0 + (1 : Int)) fun n69 => kn n69)) (k1 ())
def cG (c0 : (Val af)) (c1 : Int) (c16 : (Val aj)) (c21 : (Val af)) (v0 : Int) (kn : Int → Option ρ) (k0 : Int → Option ρ) (k1 : Unit → Option ρ) : Option ρ :=
  ifb (ilt v0 c1) (dm c0 v0 fun e71 => PE (k := tI) (v := .bool) e71.1 c16 (fun y72 => ifb y72 (bf (cu c21 e71) fun r73 => ifb (!r73) (k0 v0) (ck (v0 + (1 : Int)) fun n74 => kn n74)) (ck (v0 + (1 : Int)) fun n75 => kn n75)) (ck (v0 + (1 : Int)) fun n76 => kn n76)) (k1 ())
def NC (a0 : Val bg) (a1 : Val bg) (k : Bool → Option ρ) : Option ρ :=
  bw (fun (v231 : (Val (.pair tI aj))) kk234 => rc a0.2.1 (bG a0.2.1) v231.1 v231.2 (fun u232 u233 => kk234 (u232, u233)) (fun z3 => bw (fun (v228 : Int) kk230 => nk a0.2.2.2.2.1 (bG a0.2.2.2.2.1) a1.2.2.2.2.1 v228 (fun u229 => kk230 u229) (fun z44 => k z44) (fun _ => ifb ((fm a0.1.1 a1.1.1) && ((fm a0.1.2 a1.1.2) && true)) (bw (fun (v225 : Int) kk227 => ni a0.2.1 (bG a0.2.1) a1.2.1 v225 (fun u226 => kk227 u226) (fun z49 => ifb (!(ige z49 (0 : Int))) (bw (fun (v146 : Int) kk148 => jh a0.2.2.1 (bG a0.2.2.1) z3 a1.2.2.1 v146 (fun u147 => kk148 u147) (fun z56 => ifb (!(ige z56 (0 : Int))) (bw (fun (v107 : Int) kk109 => kD a1.2.2.1 (bG a1.2.2.1) z3 a0.2.2.1 v107 (fun u108 => kk109 u108) (fun z63 => ifb (!(ige z63 (0 : Int))) (bw (fun (v88 : Int) kk90 => dF a0.2.2.2.1 (bG a0.2.2.2.1) z3 a1.2.2.2.1 v88 (fun u89 => kk90 u89) (fun z70 => ifb (!(ige z70 (0 : Int))) (bw (fun (v79 : Int) kk81 => cG a1.2.2.2.1 (bG a1.2.2.2.1) z3 a0.2.2.2.1 v79 (fun u80 => kk81 u80) (fun z77 => k (!(ige z77 (0 : Int)))) (fun _ => k true)) (0 : Int)) (k false)) (fun _ => bw (fun (v85 : Int) kk87 => cG a1.2.2.2.1 (bG a1.2.2.2.1) z3 a0.2.2.2.1 v85 (fun u86 => kk87 u86) (fun z83 => k (!(ige z83 (0 : Int)))) (fun _ => k true)) (0 : Int))) (0 : Int)) (k false)) (fun _ => bw (fun (v104 : Int) kk106 => dF a0.2.2.2.1 (bG a0.2.2.2.1) z3 a1.2.2.2.1 v104 (fun u105 => kk106 u105) (fun z92 => ifb (!(ige z92 (0 : Int))) (bw (fun (v95 : Int) kk97 => cG a1.2.2.2.1 (bG a1.2.2.2.1) z3 a0.2.2.2.1 v95 (fun u96 => kk97 u96) (fun z93 => k (!(ige z93 (0 : Int)))) (fun _ => k true)) (0 : Int)) (k false)) (fun _ => bw (fun (v101 : Int) kk103 => cG a1.2.2.2.1 (bG a1.2.2.2.1) z3 a0.2.2.2.1 v101 (fun u102 => kk103 u102) (fun z99 => k (!(ige z99 (0 : Int)))) (fun _ => k true)) (0 : Int))) (0 : Int))) (0 : Int)) (k false)) (fun _ => bw (fun (v143 : Int) kk145 => kD a1.2.2.1 (bG a1.2.2.1) z3 a0.2.2.1 v143 (fun u144 => kk145 u144) (fun z111 => ifb (!(ige z111 (0 : Int))) (bw (fun (v124 : Int) kk126 => dF a0.2.2.2.1 (bG a0.2.2.2.1) z3 a1.2.2.2.1 v124 (fun u125 => kk126 u125) (fun z112 => ifb (!(ige z112 (0 : Int))) (bw (fun (v115 : Int) kk117 => cG a1.2.2.2.1 (bG a1.2.2.2.1) z3 a0.2.2.2.1 v115 (fun u116 => kk117 u116) (fun z113 => k (!(ige z113 (0 : Int)))) (fun _ => k true)) (0 : Int)) (k false)) (fun _ => bw (fun (v121 : Int) kk123 => cG a1.2.2.2.1 (bG a1.2.2.2.1) z3 a0.2.2.2.1 v121 (fun u122 => kk123 u122) (fun z119 => k (!(ige z119 (0 : Int)))) (fun _ => k true)) (0 : Int))) (0 : Int)) (k false)) (fun _ => bw (fun (v140 : Int) kk142 => dF a0.2.2.2.1 (bG a0.2.2.2.1) z3 a1.2.2.2.1 v140 (fun u141 => kk142 u141) (fun z128 => ifb (!(ige z128 (0 : Int))) (bw (fun (v131 : Int) kk133 => cG a1.2.2.2.1 (bG a1.2.2.2.1) z3 a0.2.2.2.1 v131 (fun u132 => kk133 u132) (fun z129 => k (!(ige z129 (0 : Int)))) (fun _ => k true)) (0 : Int)) (k false)) (fun _ => bw (fun (v137 : Int) kk139 => cG a1.2.2.2.1 (bG a1.2.2.2.1) z3 a0.2.2.2.1 v137 (fun u138 => kk139 u138) (fun z135 => k (!(ige z135 (0 : Int)))) (fun _ => k true)) (0 : Int))) (0 : Int))) (0 : Int))) (0 : Int)) (k false)) (fun _ => bw (fun (v222 : Int) kk224 => jh a0.2.2.1 (bG a0.2.2.1) z3 a1.2.2.1 v222 (fun u223 => kk224 u223) (fun z150 => ifb (!(ige z150 (0 : Int))) (bw (fun (v183 : Int) kk185 => kD a1.2.2.1 (bG a1.2.2.1) z3 a0.2.2.1 v183 (fun u184 => kk185 u184) (fun z151 => ifb (!(ige z151 (0 : Int))) (bw (fun (v164 : Int) kk166 => dF a0.2.2.2.1 (bG a0.2.2.2.1) z3 a1.2.2.2.1 v164 (fun u165 => kk166 u165) (fun z152 => ifb (!(ige z152 (0 : Int))) (bw (fun (v155 : Int) kk157 => cG a1.2.2.2.1 (bG a1.2.2.2.1) z3 a0.2.2.2.1 v155 (fun u156 => kk157 u156) (fun z153 => k (!(ige z153 (0 : Int)))) (fun _ => k true)) (0 : Int)) (k false)) (fun _ => bw (fun (v161 : Int) kk163 => cG a1.2.2.2.1 (bG a1.2.2.2.1) z3 a0.2.2.2.1 v161 (fun u162 => kk163 u162) (fun z159 => k (!(ige z159 (0 : Int)))) (fun _ => k true)) (0 : Int))) (0 : Int)) (k false)) (fun _ => bw (fun (v180 : Int) kk182 => dF a0.2.2.2.1 (bG a0.2.2.2.1) z3 a1.2.2.2.1 v180 (fun u181 => kk182 u181) (fun z168 => ifb (!(ige z168 (0 : Int))) (bw (fun (v171 : Int) kk173 => cG a1.2.2.2.1 (bG a1.2.2.2.1) z3 a0.2.2.2.1 v171 (fun u172 => kk173 u172) (fun z169 => k (!(ige z169 (0 : Int)))) (fun _ => k true)) (0 : Int)) (k false)) (fun _ => bw (fun (v177 : Int) kk179 => cG a1.2.2.2.1 (bG a1.2.2.2.1) z3 a0.2.2.2.1 v177 (fun u178 => kk179 u178) (fun z175 => k (!(ige z175 (0 : Int)))) (fun _ => k true)) (0 : Int))) (0 : Int))) (0 : Int)) (k false)) (fun _ => bw (fun (v219 : Int) kk221 => kD a1.2.2.1 (bG a1.2.2.1) z3 a0.2.2.1 v219 (fun u220 => kk221 u220) (fun z187 => ifb (!(ige z187 (0 : Int))) (bw (fun (v200 : Int) kk202 => dF a0.2.2.2.1 (bG a0.2.2.2.1) z3 a1.2.2.2.1 v200 (fun u201 => kk202 u201) (fun z188 => ifb (!(ige z188 (0 : Int))) (bw (fun (v191 : Int) kk193 => cG a1.2.2.2.1 (bG a1.2.2.2.1) z3 a0.2.2.2.1 v191 (fun u192 => kk193 u192) (fun z189 => k (!(ige z189 (0 : Int)))) (fun _ => k true)) (0 : Int)) (k false)) (fun _ => bw (fun (v197 : Int) kk199 => cG a1.2.2.2.1 (bG a1.2.2.2.1) z3 a0.2.2.2.1 v197 (fun u198 => kk199 u198) (fun z195 => k (!(ige z195 (0 : Int)))) (fun _ => k true)) (0 : Int))) (0 : Int)) (k false)) (fun _ => bw (fun (v216 : Int) kk218 => dF a0.2.2.2.1 (bG a0.2.2.2.1) z3 a1.2.2.2.1 v216 (fun u217 => kk218 u217) (fun z204 => ifb (!(ige z204 (0 : Int))) (bw (fun (v207 : Int) kk209 => cG a1.2.2.2.1 (bG a1.2.2.2.1) z3 a0.2.2.2.1 v207 (fun u208 => kk209 u208) (fun z205 => k (!(ige z205 (0 : Int)))) (fun _ => k true)) (0 : Int)) (k false)) (fun _ => bw (fun (v213 : Int) kk215 => cG a1.2.2.2.1 (bG a1.2.2.2.1) z3 a0.2.2.2.1 v213 (fun u214 => kk215 u214) (fun z211 => k (!(ige z211 (0 : Int)))) (fun _ => k true)) (0 : Int))) (0 : Int))) (0 : Int))) (0 : Int))) (0 : Int)) (k false))) (0 : Int))) ((0 : Int), [])
def By (a0 : Val bg) (a1 : Val bg) : Option (Bool) := NC a0 a1 some
def Cx (a0 : Val bg) (a1 : Val fX) (k : (Val aE) → Option ρ) : Option ρ :=
  bf (cd a0) fun r1 => ifb (ine r1 (0 : Int)) (k (false, r1)) (ifb ((fm a1.2.1.1 (0 : Int)) && ((fm a1.2.1.2 (0 : Int)) && true)) (bf (ld a1) fun r2 => ifb (ine r2 (0 : Int)) (k (false, r2)) (bf (By a1.1 a0) fun r3 => k (r3, (0 : Int)))) (bf (j1 a1) fun r4 => ifb (ine r4 (0 : Int)) (k (false, r4)) (bf (By a1.1 a0) fun r5 => k (r5, (0 : Int)))))
def wc (a0 : Val bg) (a1 : Val fX) : Option ((Val aE)) := Cx a0 a1 some
def vO (c2 : Int) (v0 : Int) (v1 : (Val ac)) (kn : Int → (Val ac) → Option ρ) (k0 : (Val ac) → Option ρ) : Option ρ :=
  ifb (ilt v0 c2) (b9 ((ile (0 : Int) v0) && (ilt v0 (dj v1))) (gk v1 (Int.toNat v0) fun e1 => ck (v0 + (1 : Int)) fun n2 => kn n2 (List.set v1 (Int.toNat v0) (1152921504606846976 : Int)))) (k0 v1)
def NY (c1 : Int) (v0 : Int) (v1 : (Val ac)) (kn : Int → (Val ac) → Option ρ) (k0 : (Val ac) → Option ρ) : Option ρ :=
  ifb (ilt v0 c1) (b9 ((ile (0 : Int) v0) && (ilt v0 (dj v1))) (gk v1 (Int.toNat v0) fun e7 => ck (v0 + (1 : Int)) fun n8 => kn n8 (List.set v1 (Int.toNat v0) (1152921504606846976 : Int)))) (k0 v1)
def Ax (c0 : (Val ac)) (c1 : (Val ah)) (c2 : Int) (v0 : Int) (v1 : (Val ac)) (kn : Int → (Val ac) → Option ρ) (k0 : (Val ac) → Option ρ) : Option ρ :=
  ifb (ilt v0 c2) (dm c1 v0 fun e10 => dm c0 e10.2.1 fun e11 => ifb (ine e11 (1152921504606846976 : Int)) (b9 ((ile (0 : Int) e10.1) && (ilt e10.1 (dj v1))) (gk v1 (Int.toNat e10.1) fun e12 => dm c0 e10.2.1 fun e13 => ck (e10.2.2 + e13) fun n14 => b9 ((ile (0 : Int) e10.1) && (ilt e10.1 (dj v1))) (gk v1 (Int.toNat e10.1) fun e15 => ck (v0 + (1 : Int)) fun n16 => kn n16 (List.set v1 (Int.toNat e10.1) (SP e12 n14))))) (ck (v0 + (1 : Int)) fun n17 => kn n17 v1)) (k0 v1)
def F3 (c0 : Int) (c1 : Int) (c2 : (Val ah)) (v0 : Int) (v1 : (Val am)) (kn : Int → (Val am) → Option ρ) (k0 : (Val am) → Option ρ) : Option ρ :=
  ifb (ilt v0 c0) (ck ((bG v1) - (1 : Int)) fun n5 => b9 ((ile (0 : Int) n5) && (ilt n5 (dj v1))) (gk v1 (Int.toNat n5) fun e6 => b9 ((ile (0 : Int) c1) && (bZ (Int.toNat c1))) (bw (fun (v24 : (Val ax)) kk27 => NY (bG (List.replicate (Int.toNat c1) (0 : Int))) v24.1 v24.2 (fun u25 u26 => kk27 (u25, u26)) (fun z9 => bw (fun (v20 : (Val ax)) kk23 => Ax e6 c2 (bG c2) v20.1 v20.2 (fun u21 u22 => kk23 (u21, u22)) (fun z18 => b9 (bZ ((List.length v1) + (List.length ([z18])))) (ck (v0 + (1 : Int)) fun n19 => kn n19 (v1 ++ ([z18]))))) ((0 : Int), z9))) ((0 : Int), (List.replicate (Int.toNat c1) (0 : Int)))))) (k0 v1)
def Hv (a0 : Val bo) (a1 : Int) (a2 : Int) (k : (Val am) → Option ρ) : Option ρ :=
  b9 ((ile (0 : Int) a0.1) && (bZ (Int.toNat a0.1))) (bw (fun (v33 : (Val ax)) kk36 => vO (bG (List.replicate (Int.toNat a0.1) (0 : Int))) v33.1 v33.2 (fun u34 u35 => kk36 (u34, u35)) (fun z3 => b9 ((ile (0 : Int) a1) && (ilt a1 (dj z3))) (gk z3 (Int.toNat a1) fun e4 => bw (fun (v29 : (Val (.pair tI am))) kk32 => F3 a2 a0.1 a0.2 v29.1 v29.2 (fun u30 u31 => kk32 (u30, u31)) (fun z28 => k z28)) ((0 : Int), [(List.set z3 (Int.toNat a1) (0 : Int))])))) ((0 : Int), (List.replicate (Int.toNat a0.1) (0 : Int))))
def vk (a0 : Val bo) (a1 : Int) (a2 : Int) : Option ((Val am)) := Hv a0 a1 a2 some
def Eo (c0 : Int) (c1 : Int) (c2 : (Val ah)) (v0 : Int) (v1 : (Val aL)) (kn : Int → (Val aL) → Option ρ) (k0 : (Val aL) → Option ρ) : Option ρ :=
  ifb (ilt v0 c0) (bf (vk (c1, c2) v0 c1) fun r3 => b9 ((ile (0 : Int) v0) && (ilt v0 (dj v1))) (gk v1 (Int.toNat v0) fun e4 => ck (v0 + (1 : Int)) fun n5 => kn n5 (List.set v1 (Int.toNat v0) r3))) (k0 v1)
def Ek (c0 : Int) (c1 : (Val am)) (c2 : (Val ah)) (c3 : Int) (v0 : Int) (v1 : Int) (v2 : Int) (v3 : (Val ac)) (kn : Int → Int → Int → (Val ac) → Option ρ) (k0 : (Val (.pair tI ax)) → Option ρ) : Option ρ :=
  ifb (ilt v2 c3) (dm c2 v2 fun e16 => ifb (ieq e16.1 v0) (ck (c0 - (1 : Int)) fun n17 => dm c1 n17 fun e18 => dm e18 e16.2.1 fun e19 => ifb (ine e19 (1152921504606846976 : Int)) (ck (v1 + e16.2.2) fun n20 => ck (c0 - (1 : Int)) fun n21 => dm c1 n21 fun e22 => dm e22 e16.2.1 fun e23 => ck (n20 + e23) fun n24 => ifb (ilt n24 (0 : Int)) (b9 (bZ ((List.length v3) + (List.length ([v2])))) (ck (v1 + e16.2.2) fun n25 => k0 (e16.2.1, n25, (v3 ++ ([v2]))))) (ck (v2 + (1 : Int)) fun n26 => kn v0 v1 n26 v3)) (ck (v2 + (1 : Int)) fun n27 => kn v0 v1 n27 v3)) (ck (v2 + (1 : Int)) fun n28 => kn v0 v1 n28 v3)) (k0 (v0, v1, v3))
def El (c0 : (Val am)) (c8 : (Val ah)) (v0 : Int) (v1 : Int) (v2 : Int) (v3 : (Val ac)) (kn : Int → Int → Int → (Val ac) → Option ρ) (k0 : (Val ac) → Option ρ) : Option ρ :=
  ifb (igt v1 (0 : Int)) (bw (fun (v31 : (Val aD)) kk36 => Ek v1 c0 c8 (bG c8) v31.1 v31.2.1 v31.2.2.1 v31.2.2.2 (fun u32 u33 u34 u35 => kk36 (u32, u33, u34, u35)) (fun z29 => ck (v1 - (1 : Int)) fun n30 => kn z29.1 n30 z29.2.1 z29.2.2)) (v0, v2, (0 : Int), v3)) (k0 v3)
def Em (c0 : Int) (c1 : (Val ah)) (c2 : Int) (c3 : Int) (c4 : (Val ah)) (c5 : (Val aL)) (v0 : Int) (kn : Int → Option ρ) (k0 : Unit → Option ρ) (k1 : (Val ax) → Option ρ) (k2 : Unit → Option ρ) : Option ρ :=
  ifb (ilt v0 c2) (dm c1 v0 fun e7 => b9 ((ile (0 : Int) e7.1) && (ilt e7.1 (dj c5))) (gk c5 (Int.toNat e7.1) fun e8 => ck (c0 - (1 : Int)) fun n9 => dm e8 n9 fun e10 => dm e10 e7.2.1 fun e11 => ifb (ieq e11 (1152921504606846976 : Int)) (ck (v0 + (1 : Int)) fun n12 => kn n12) (ck (e7.2.2 + e11) fun n13 => ifb (ige n13 (0 : Int)) (ck (v0 + (1 : Int)) fun n14 => kn n14) (ifb (igt c0 c3) (k0 ()) (b9 ((ile (0 : Int) e7.1) && (ilt e7.1 (dj c5))) (gk c5 (Int.toNat e7.1) fun e15 => bw (fun (v38 : (Val aD)) kk43 => El e15 c4 v38.1 v38.2.1 v38.2.2.1 v38.2.2.2 (fun u39 u40 u41 u42 => kk43 (u39, u40, u41, u42)) (fun z37 => k1 ((0 : Int), z37))) (e7.1, c0, (0 : Int), []))))))) (k2 ())
def En (c0 : Int) (c1 : (Val ah)) (c2 : (Val aL)) (v0 : Int) (kn : Int → Option ρ) (k0 : Unit → Option ρ) (k1 : (Val ax) → Option ρ) : Option ρ :=
  bw (fun (v48 : Int) kk50 => Em v0 c1 (bG c1) c0 c1 c2 v48 (fun u49 => kk50 u49) (fun _ => k0 ()) (fun z45 => k1 (z45.1, z45.2)) (fun _ => ck (v0 + (1 : Int)) fun n47 => kn n47)) (0 : Int)
def HM (a0 : Val bo) (k : (Val az) → Option ρ) : Option ρ :=
  bf (j3 a0) fun r1 => ifb (ine r1.1 (0 : Int)) (k ([], r1.1)) (bf (jx a0 ([])) fun r2 => ifb r2.2 (k ([], (5 : Int))) (b9 ((ile (0 : Int) a0.1) && (bZ (Int.toNat a0.1))) (bw (fun (v56 : (Val (.pair tI aL))) kk59 => Eo (bG (List.replicate (Int.toNat a0.1) ([] : (Val am)))) a0.1 a0.2 v56.1 v56.2 (fun u57 u58 => kk59 (u57, u58)) (fun z6 => bw (fun (v53 : Int) kk55 => En a0.1 a0.2 z6 v53 (fun u54 => kk55 u54) (fun _ => k ([], (5 : Int))) (fun z52 => k (z52.2, z52.1))) (1 : Int))) ((0 : Int), (List.replicate (Int.toNat a0.1) ([] : (Val am)))))))
def vl (a0 : Val bo) : Option ((Val az)) := HM a0 some
def kX (c0 : (Val aa)) (c1 : (Val ac)) (c2 : Int) (v0 : Int) (v1 : (Val aa)) (kn : Int → (Val aa) → Option ρ) (k0 : (Val aa) → Option ρ) : Option ρ :=
  ifb (ilt v0 c2) (dm c1 v0 fun e2 => dm c0 e2 fun e3 => b9 (bZ ((List.length v1) + (List.length ([e3])))) (ck (v0 + (1 : Int)) fun n4 => kn n4 (v1 ++ ([e3])))) (k0 v1)
def ye (a0 : Val bg) (a1 : (Val ac)) (k : (Val aa) → Option ρ) : Option ρ :=
  bf (df a0) fun r1 => bw (fun (v6 : (Val aA)) kk9 => kX r1.2.1 a1 (bG a1) v6.1 v6.2 (fun u7 u8 => kk9 (u7, u8)) (fun z5 => k z5)) ((0 : Int), [])
def nA (a0 : Val bg) (a1 : (Val ac)) : Option ((Val aa)) := ye a0 a1 some
def Hq (a0 : Val bg) (k : (Val (.pair fX tI)) → Option ρ) : Option ρ :=
  bf (df a0) fun r1 => ifb (ine r1.2.2 (0 : Int)) (k (((((0 : Int), (0 : Int)), [], [], [], [], []), ((0 : Int), (0 : Int)), false, (0 : Int), []), r1.2.2)) (bf (vl r1.1) fun r2 => ifb (ine r2.2 (0 : Int)) (k (((((0 : Int), (0 : Int)), [], [], [], [], []), ((0 : Int), (0 : Int)), false, (0 : Int), []), r2.2)) (bf (nA a0 r2.1) fun r3 => bf (I4 a0 r3 ([])) fun r4 => bf (df r4) fun r5 => bf (vl r5.1) fun r6 => ifb (ine r6.2 (0 : Int)) (k (((((0 : Int), (0 : Int)), [], [], [], [], []), ((0 : Int), (0 : Int)), false, (0 : Int), []), r6.2)) (k ((r4, ((0 : Int), (0 : Int)), false, (0 : Int), r6.1), (0 : Int)))))
def BD (a0 : Val bg) : Option ((Val (.pair fX tI))) := Hq a0 some
def rh (a0 : Int) (k : Int → Option ρ) : Option ρ :=
  k (PF (-288230376151711744 : Int) (SP a0 (288230376151711744 : Int)))
def jZ (a0 : Int) : Option (Int) := rh a0 some
def re (a0 : Val cA) (a1 : Int) (k : (Val ac) → Option ρ) : Option ρ :=
  ck (a1 - a0.2.1) fun n1 => ck (a0.2.2 - a1) fun n2 => k ([n1, n2])
def gO (a0 : Val cA) (a1 : Int) : Option ((Val ac)) := re a0 a1 some
def o9 (c0 : Int) (c20 : (Val aa)) (v0 : Int) (v1 : Int) (v2 : Int) (v3 : (Val ae)) (v4 : (Val aa)) (v5 : (Val af)) (v6 : (Val ab)) (v7 : (Val aa)) (kn : Int → Int → Int → (Val ae) → (Val aa) → (Val af) → (Val ab) → (Val aa) → Option ρ) (k0 : (Val aC) → Option ρ) (k1 : (Val ai) → Option ρ) : Option ρ :=
  ifb (ilt v0 c0) (b9 ((ile (0 : Int) v0) && (ilt v0 (dj c20))) (gk c20 (Int.toNat v0) fun e2 => bf (dg ((v1, v2), v3, v4, v5, v6, v7) e2) fun r3 => ifb (ieq r3.2 (0 : Int)) (ck (v0 + (1 : Int)) fun n4 => kn n4 v1 v2 v3 v4 v5 v6 v7) (bf (fL ((v1, v2), v3, v4, v5, v6, v7) e2) fun r5 => ifb (ine r5.2 (0 : Int)) (k0 (r5.2, v1, v2, v3, v4, v5, v6, v7)) (ck (v0 + (1 : Int)) fun n6 => kn n6 r5.1.1.1 r5.1.1.2 r5.1.2.1 r5.1.2.2.1 r5.1.2.2.2.1 r5.1.2.2.2.2.1 r5.1.2.2.2.2.2)))) (k1 (v1, v2, v3, v4, v5, v6, v7))
def kY (c0 : (Val ac)) (c1 : Int) (c11 : Int) (c12 : Int) (c31 : Int) (c32 : Int) (c33 : Int) (c34 : Int) (c35 : Int) (c36 : Int) (c37 : Int) (c38 : Int) (v0 : Int) (kn : Int → Option ρ) (k0 : Int → Option ρ) (k1 : Unit → Option ρ) : Option ρ :=
  ifb (ilt v0 c1) (dm c0 v0 fun e26 => bf (dV ((c31, c32), (c33, c34, c35), c36, c37, c38) e26) fun r27 => bf (nz r27 (c11, c12)) fun r28 => ifb (ieq r28 (3 : Int)) (k0 v0) (ck (v0 + (1 : Int)) fun n29 => kn n29)) (k1 ())
def yk (a0 : Val bg) (a1 : Val bc) (a2 : Val bc) (a3 : Val bq) (k : (Val aE) → Option ρ) : Option ρ :=
  bf (cd a0) fun r1 => ifb (ine r1 (0 : Int)) (ifb (ine r1 (0 : Int)) (k (false, r1)) (b9 (igt a2.1 a2.2) (k (false, (1 : Int))))) (bw (fun (v35 : (Val aC)) kk44 => o9 (bG ([a1])) ([a1]) v35.1 v35.2.1 v35.2.2.1 v35.2.2.2.1 v35.2.2.2.2.1 v35.2.2.2.2.2.1 v35.2.2.2.2.2.2.1 v35.2.2.2.2.2.2.2 (fun u36 u37 u38 u39 u40 u41 u42 u43 => kk44 (u36, u37, u38, u39, u40, u41, u42, u43)) (fun z7 => ifb (ine z7.1 (0 : Int)) (k (false, z7.1)) (b9 (igt a2.1 a2.2) (k (false, (1 : Int))))) (fun z8 => bf (df ((z8.1, z8.2.1), z8.2.2)) fun r9 => ifb (ine r9.2.2 (0 : Int)) (ifb (ine r9.2.2 (0 : Int)) (k (false, r9.2.2)) (b9 (igt a2.1 a2.2) (k (false, (1 : Int))))) (bf (dc r9.1) fun r10 => ifb (!r10.1) (k (false, (9 : Int))) (ifb (igt a2.1 a2.2) (k (false, (1 : Int))) (bf (qx (((z8.1, z8.2.1), z8.2.2), r9.1) a1 a3) fun r11 => ifb (ine r11.2 (0 : Int)) (k (false, r11.2)) (bf (gN r11.1.2.1) fun r12 => bf (gN r11.1.2.2) fun r13 => bf (bS ([r12, r13])) fun r14 => bf (jZ a2.1) fun r15 => bf (jZ a2.2) fun r16 => bf (gO r11.1.2.1 r15) fun r17 => ck (0 - r15) fun n18 => bf (gO r11.1.2.2 n18) fun r19 => bf (bS ([r14, r17, r19])) fun r20 => bf (gO r11.1.2.1 r16) fun r21 => ck (0 - r16) fun n22 => bf (gO r11.1.2.2 n22) fun r23 => bf (bS ([r20, r21, r23])) fun r24 => bf (iZ r11.1 r24) fun r25 => bw (fun (v32 : Int) kk34 => kY r25 (bG r25) r15 r16 r11.1.1.1 r11.1.1.2 r11.1.2.1.1 r11.1.2.1.2.1 r11.1.2.1.2.2 r11.1.2.2.1 r11.1.2.2.2.1 r11.1.2.2.2.2 v32 (fun u33 => kk34 u33) (fun z30 => k ((!(ige z30 (0 : Int))), (0 : Int))) (fun _ => k (true, (0 : Int)))) (0 : Int))))))) ((0 : Int), a0.1.1, a0.1.2, a0.2.1, a0.2.2.1, a0.2.2.2.1, a0.2.2.2.2.1, a0.2.2.2.2.2))
def nB (a0 : Val bg) (a1 : Val bc) (a2 : Val bc) (a3 : Val bq) : Option ((Val aE)) := yk a0 a1 a2 a3 some
def tT (k : Val bg → Option ρ) : Option ρ :=
  k (((0 : Int), (2 : Int)), [((1 : Int), (0 : Int), (1000 : Int), ((-5 : Int), (5 : Int)), ((1 : Int), (10 : Int)), (1 : Int)), ((2 : Int), (0 : Int), (1000 : Int), ((-50 : Int), (50 : Int)), ((1 : Int), (4 : Int)), (0 : Int))], [((1 : Int), (10 : Int))], [((1 : Int), ((20 : Int), (29 : Int)), (3 : Int))], [((7 : Int), (10 : Int), [(1 : Int)], [(2 : Int)], (-20 : Int), (1 : Int), (100 : Int), (200 : Int))], [])
def vi : Option (Val bg) := tT some
def oA (c0 : (Val am)) (c1 : Int) (c4 : Int) (c5 : Int) (v0 : Int) (kn : Int → Option ρ) (k0 : Int → Option ρ) (k1 : Unit → Option ρ) : Option ρ :=
  ifb (ilt v0 c1) (dm c0 v0 fun e3 => dm e3 c4 fun e4 => ifb (ieq e4 c5) (k0 v0) (ck (v0 + (1 : Int)) fun n5 => kn n5)) (k1 ())
def Ep (c0 : Int) (c1 : (Val am)) (c2 : (Val ah)) (c3 : Int) (c7 : Int) (v0 : Int) (v1 : Int) (v2 : Int) (v3 : (Val ac)) (kn : Int → Int → Int → (Val ac) → Option ρ) (k0 : (Val (.pair tI ax)) → Option ρ) : Option ρ :=
  ifb (ilt v2 c3) (dm c2 v2 fun e7 => ifb (ieq e7.1 v0) (ck (c0 - (1 : Int)) fun n8 => dm c1 n8 fun e9 => dm e9 e7.2.1 fun e10 => ifb (ine e10 (1152921504606846976 : Int)) (ck (v1 + e7.2.2) fun n11 => ck (c0 - (1 : Int)) fun n12 => dm c1 n12 fun e13 => dm e13 e7.2.1 fun e14 => ck (n11 + e14) fun n15 => ifb (ieq n15 c7) (b9 (bZ ((List.length v3) + (List.length ([v2])))) (ck (v1 + e7.2.2) fun n16 => k0 (e7.2.1, n16, (v3 ++ ([v2]))))) (ck (v2 + (1 : Int)) fun n17 => kn v0 v1 n17 v3)) (ck (v2 + (1 : Int)) fun n18 => kn v0 v1 n18 v3)) (ck (v2 + (1 : Int)) fun n19 => kn v0 v1 n19 v3)) (k0 (v0, v1, v3))
def oz (c0 : (Val am)) (c4 : Int) (c6 : (Val ah)) (v0 : Int) (v1 : Int) (v2 : Int) (v3 : (Val ac)) (kn : Int → Int → Int → (Val ac) → Option ρ) (k0 : (Val ac) → Option ρ) : Option ρ :=
  ifb (igt v1 (0 : Int)) (bw (fun (v22 : (Val aD)) kk27 => Ep v1 c0 c6 (bG c6) c4 v22.1 v22.2.1 v22.2.2.1 v22.2.2.2 (fun u23 u24 u25 u26 => kk27 (u23, u24, u25, u26)) (fun z20 => ck (v1 - (1 : Int)) fun n21 => kn z20.1 n21 z20.2.1 z20.2.2)) (v0, v2, (0 : Int), v3)) (k0 v3)
def HT (a0 : Val bo) (a1 : Int) (a2 : Int) (k : (Val az) → Option ρ) : Option ρ :=
  bf (nE a0 a1 a2) fun r1 => ifb (ine r1.2 (0 : Int)) (k ([], r1.2)) (bf (vk a0 a2 a0.1) fun r2 => bw (fun (v43 : Int) kk45 => oA r2 (bG r2) a1 r1.1 v43 (fun u44 => kk45 u44) (fun z6 => bw (fun (v29 : (Val aD)) kk34 => oz r2 r1.1 a0.2 v29.1 v29.2.1 v29.2.2.1 v29.2.2.2 (fun u30 u31 u32 u33 => kk34 (u30, u31, u32, u33)) (fun z28 => k (z28, (0 : Int)))) (a1, z6, (0 : Int), [])) (fun _ => bw (fun (v37 : (Val aD)) kk42 => oz r2 r1.1 a0.2 v37.1 v37.2.1 v37.2.2.1 v37.2.2.2 (fun u38 u39 u40 u41 => kk42 (u38, u39, u40, u41)) (fun z36 => k (z36, (0 : Int)))) (a1, (-1 : Int), (0 : Int), []))) (0 : Int))
def vm (a0 : Val bo) (a1 : Int) (a2 : Int) : Option ((Val az)) := HT a0 a1 a2 some
def rl (a0 : (Val au)) (a1 : (Val aQ)) (a2 : (Val (.ptr .bool))) (k : (Val ac) → Option ρ) : Option ρ :=
  bf (fV a0 a1) fun r1 => ifb a2 (bf (vm a0.2 (0 : Int) r1) fun r2 => k r2.1) (bf (vm a0.2 r1 (0 : Int)) fun r3 => k r3.1)
def j2 (a0 : (Val au)) (a1 : (Val aQ)) (a2 : (Val (.ptr .bool))) : Option ((Val ac)) := rl a0 a1 a2 some
def ph (c0 : Int) (c14 : (Val aa)) (v0 : Int) (v1 : Int) (v2 : Int) (v3 : (Val ae)) (v4 : (Val aa)) (v5 : (Val af)) (v6 : (Val ab)) (v7 : (Val aa)) (kn : Int → Int → Int → (Val ae) → (Val aa) → (Val af) → (Val ab) → (Val aa) → Option ρ) (k0 : (Val aC) → Option ρ) (k1 : (Val ai) → Option ρ) : Option ρ :=
  ifb (ilt v0 c0) (b9 ((ile (0 : Int) v0) && (ilt v0 (dj c14))) (gk c14 (Int.toNat v0) fun e2 => bf (dg ((v1, v2), v3, v4, v5, v6, v7) e2) fun r3 => ifb (ieq r3.2 (0 : Int)) (ck (v0 + (1 : Int)) fun n4 => kn n4 v1 v2 v3 v4 v5 v6 v7) (bf (fL ((v1, v2), v3, v4, v5, v6, v7) e2) fun r5 => ifb (ine r5.2 (0 : Int)) (k0 (r5.2, v1, v2, v3, v4, v5, v6, v7)) (ck (v0 + (1 : Int)) fun n6 => kn n6 r5.1.1.1 r5.1.1.2 r5.1.2.1 r5.1.2.2.1 r5.1.2.2.2.1 r5.1.2.2.2.2.1 r5.1.2.2.2.2.2)))) (k1 (v1, v2, v3, v4, v5, v6, v7))
def pf (c0 : Int) (v0 : Int) (kn : Int → Option ρ) (k0 : Unit → Option ρ) : Option ρ :=
  ifb (ilt v0 c0) (none) (k0 ())
def ym (a0 : Val bg) (a1 : Val bc) (a2 : Bool) (k : (Val (.pair fX tI)) → Option ρ) : Option ρ :=
  bf (cd a0) fun r1 => ifb (ine r1 (0 : Int)) (b9 (ine r1 (0 : Int)) (k (((((0 : Int), (0 : Int)), [], [], [], [], []), ((0 : Int), (0 : Int)), false, (0 : Int), []), r1))) (bw (fun (v26 : (Val aC)) kk35 => ph (bG ([a1])) ([a1]) v26.1 v26.2.1 v26.2.2.1 v26.2.2.2.1 v26.2.2.2.2.1 v26.2.2.2.2.2.1 v26.2.2.2.2.2.2.1 v26.2.2.2.2.2.2.2 (fun u27 u28 u29 u30 u31 u32 u33 u34 => kk35 (u27, u28, u29, u30, u31, u32, u33, u34)) (fun z7 => b9 (ine z7.1 (0 : Int)) (k (((((0 : Int), (0 : Int)), [], [], [], [], []), ((0 : Int), (0 : Int)), false, (0 : Int), []), z7.1))) (fun z8 => bf (df ((z8.1, z8.2.1), z8.2.2)) fun r9 => ifb (ine r9.2.2 (0 : Int)) (b9 (ine r9.2.2 (0 : Int)) (k (((((0 : Int), (0 : Int)), [], [], [], [], []), ((0 : Int), (0 : Int)), false, (0 : Int), []), r9.2.2))) (bf (dc r9.1) fun r10 => ifb (!r10.1) (k (((((0 : Int), (0 : Int)), [], [], [], [], []), ((0 : Int), (0 : Int)), false, (0 : Int), []), (9 : Int))) (bf (j2 (((z8.1, z8.2.1), z8.2.2), r9.1) a1 a2) fun r11 => bf (nA ((z8.1, z8.2.1), z8.2.2) r11) fun r12 => bf (I4 ((z8.1, z8.2.1), z8.2.2) r12 ([a1])) fun r13 => bf (cd r13) fun r14 => ifb (ine r14 (0 : Int)) (ifb (ine r14 (0 : Int)) (k (((((0 : Int), (0 : Int)), [], [], [], [], []), ((0 : Int), (0 : Int)), false, (0 : Int), []), r14)) (bf (fU (((z8.1, z8.2.1), z8.2.2), r9.1) a1) fun r15 => none)) (bw (fun (v23 : Int) kk25 => pf (0 : Int) v23 (fun u24 => kk25 u24) (fun _ => bf (df r13) fun r17 => ifb (ine r17.2.2 (0 : Int)) (ifb (ine r17.2.2 (0 : Int)) (k (((((0 : Int), (0 : Int)), [], [], [], [], []), ((0 : Int), (0 : Int)), false, (0 : Int), []), r17.2.2)) (bf (fU (((z8.1, z8.2.1), z8.2.2), r9.1) a1) fun r18 => none)) (bf (dc r17.1) fun r19 => ifb (!r19.1) (k (((((0 : Int), (0 : Int)), [], [], [], [], []), ((0 : Int), (0 : Int)), false, (0 : Int), []), (9 : Int))) (bf (fU (((z8.1, z8.2.1), z8.2.2), r9.1) a1) fun r20 => bf (j2 (r13, r17.1) a1 a2) fun r21 => ifb a2 (bf (gw (((z8.1, z8.2.1), z8.2.2), r9.1) a1) fun r22 => k ((r13, a1, a2, r22, r21), (0 : Int))) (k ((r13, a1, a2, r20, r21), (0 : Int))))))) (0 : Int)))))) ((0 : Int), a0.1.1, a0.1.2, a0.2.1, a0.2.2.1, a0.2.2.2.1, a0.2.2.2.2.1, a0.2.2.2.2.2))
def sd (a0 : Val bg) (a1 : Val bc) (a2 : Bool) : Option ((Val (.pair fX tI))) := ym a0 a1 a2 some
def xZ (k : Bool → Option ρ) : Option ρ :=
  bf vi fun r1 => bf (lP r1 ((2 : Int), (10 : Int))) fun r2 => bf (lP r1 ((1 : Int), (30 : Int))) fun r3 => bf (se r1 ((1 : Int), (10 : Int)) ((2 : Int), (10 : Int))) fun r4 => bf (BB r1 (10 : Int) ([(1 : Int), (2 : Int)])) fun r5 => bf (BC r1 ((2 : Int), (0 : Int)) ((990 : Int), (1010 : Int))) fun r6 => bf (sd r1 ((2 : Int), (10 : Int)) true) fun r7 => ifb (ine r2.2 (0 : Int)) (k false) (ifb (ine r3.2 (0 : Int)) (k false) (ifb (ine r4.2 (0 : Int)) (k false) (ifb (ine r5.2 (0 : Int)) (k false) (ifb (ine r6.2 (0 : Int)) (k false) (ifb (ine r7.2 (0 : Int)) (k false) (ifb (!((fm r2.1.1 (984 : Int)) && ((fm r2.1.2 (1011 : Int)) && true))) (k false) (ifb (!((fm r3.1.1 (964 : Int)) && ((fm r3.1.2 (1005 : Int)) && true))) (k false) (ifb (!((fm r4.1.1 (-6 : Int)) && ((fm r4.1.2 (11 : Int)) && true))) (k false) (ifb (!((fm r5.1.1 (1979 : Int)) && ((fm r5.1.2 (2018 : Int)) && true))) (k false) (ifb (ine r6.1 (3 : Int)) (k false) (ifb (ine r7.1.2.2.2.1 (1011 : Int)) (k false) (bf (vj r1 ((2 : Int), (10 : Int)) ((8 : Int), (10 : Int), [(1 : Int)], [(2 : Int)], (0 : Int), (0 : Int), (0 : Int), (0 : Int))) fun r8 => bf (nB r1 ((2 : Int), (10 : Int)) ((900 : Int), (1100 : Int)) ((8 : Int), (10 : Int), [(1 : Int)], [(2 : Int)], (0 : Int), (0 : Int), (0 : Int), (0 : Int))) fun r9 => bf (wc r1 r7.1) fun r10 => bf (BD r1) fun r11 => ifb (ieq r8.2 (0 : Int)) (ifb (ieq r9.2 (0 : Int)) (ifb (ieq r10.2 (0 : Int)) (ifb (ieq r11.2 (5 : Int)) (ifb (ieq r8.1 (10 : Int)) (ifb r9.1 (ifb r10.1 (bf (j1 r7.1) fun r12 => k (ieq r12 (0 : Int))) (k false)) (k false)) (k false)) (k false)) (k false)) (k false)) (k false)))))))))))))
def jn : Option (Bool) := xZ some
def ln (c0 : (Val aa)) (v0 : Int) (v1 : Int) (v2 : Int) (v3 : (Val ae)) (v4 : (Val aa)) (v5 : (Val af)) (v6 : (Val ab)) (v7 : (Val aa)) (v8 : Int) (v9 : Int) (v10 : (Val ae)) (v11 : (Val aa)) (v12 : (Val af)) (v13 : (Val ab)) (v14 : (Val aa)) (kn : Int → Int → Int → (Val ae) → (Val aa) → (Val af) → (Val ab) → (Val aa) → Int → Int → (Val ae) → (Val aa) → (Val af) → (Val ab) → (Val aa) → Option ρ) (k0 : (Val (.pair .bool ay)) → Option ρ) (k1 : (Val ay) → Option ρ) : Option ρ :=
  ifb (ilt v0 (bG c0)) (dm c0 v0 fun e1 => bf (dg ((v1, v2), v3, v4, v5, v6, v7) e1) fun r2 => ifb (ieq r2.2 (0 : Int)) (ck (v0 + (1 : Int)) fun n3 => kn n3 v1 v2 v3 v4 v5 v6 v7 v8 v9 v10 v11 v12 v13 v14) (dm c0 v0 fun e4 => bf (fL ((v1, v2), v3, v4, v5, v6, v7) e4) fun r5 => ifb (ine r5.2 (0 : Int)) (k0 (false, v1, v2, v3, v4, v5, v6, v7, v1, v2, v3, v4, v5, v6, v7)) (ck (v0 + (1 : Int)) fun n6 => kn n6 r5.1.1.1 r5.1.1.2 r5.1.2.1 r5.1.2.2.1 r5.1.2.2.2.1 r5.1.2.2.2.2.1 r5.1.2.2.2.2.2 v8 v9 v10 v11 v12 v13 v14))) (k1 (v1, v2, v3, v4, v5, v6, v7, v8, v9, v10, v11, v12, v13, v14))
def zF (a0 : Val bg) (a1 : (Val aa)) (k : (Val (.pair bg .bool)) → Option ρ) : Option ρ :=
  bw (fun (v9 : (Val (.pair tI ay))) kk25 => ln a1 v9.1 v9.2.1 v9.2.2.1 v9.2.2.2.1 v9.2.2.2.2.1 v9.2.2.2.2.2.1 v9.2.2.2.2.2.2.1 v9.2.2.2.2.2.2.2.1 v9.2.2.2.2.2.2.2.2.1 v9.2.2.2.2.2.2.2.2.2.1 v9.2.2.2.2.2.2.2.2.2.2.1 v9.2.2.2.2.2.2.2.2.2.2.2.1 v9.2.2.2.2.2.2.2.2.2.2.2.2.1 v9.2.2.2.2.2.2.2.2.2.2.2.2.2.1 v9.2.2.2.2.2.2.2.2.2.2.2.2.2.2 (fun u10 u11 u12 u13 u14 u15 u16 u17 u18 u19 u20 u21 u22 u23 u24 => kk25 (u10, u11, u12, u13, u14, u15, u16, u17, u18, u19, u20, u21, u22, u23, u24)) (fun z7 => k (((z7.2.2.2.2.2.2.2.2.1, z7.2.2.2.2.2.2.2.2.2.1), z7.2.2.2.2.2.2.2.2.2.2), z7.1)) (fun z8 => k (((z8.1, z8.2.1), z8.2.2.1, z8.2.2.2.1, z8.2.2.2.2.1, z8.2.2.2.2.2.1, z8.2.2.2.2.2.2.1), true))) ((0 : Int), a0.1.1, a0.1.2, a0.2.1, a0.2.2.1, a0.2.2.2.1, a0.2.2.2.2.1, a0.2.2.2.2.2, (0 : Int), (0 : Int), [], [], [], [], [])
def ny (a0 : Val bg) (a1 : (Val aa)) : Option ((Val (.pair bg .bool))) := zF a0 a1 some
def uH (a0 : Val bo) (k : (Val az) → Option ρ) : Option ρ :=
  bf (qz a0 ([])) fun r1 => ifb (ine r1 (0 : Int)) (k ([], r1)) (bf (kQ a0 ([]) (0 : Int)) fun r2 => bf (cn r2 (1152921504606846976 : Int)) fun r3 => ifb r3 (k ([], (5 : Int))) (k (r2, (0 : Int))))
def oO (a0 : Val bo) : Option ((Val az)) := uH a0 some
def ou (c1 : Int) (c4 : Int) (c5 : (Val ah)) (v0 : Int) (v1 : (Val ac)) (kn : Int → (Val ac) → Option ρ) (k0 : (Val ac) → Option ρ) : Option ρ :=
  ifb (ilt v0 c1) (bf (kQ (c4, c5) ([]) v0) fun r3 => dm r3 (0 : Int) fun e4 => b9 ((ile (0 : Int) v0) && (ilt v0 (dj v1))) (gk v1 (Int.toNat v0) fun e5 => ck (v0 + (1 : Int)) fun n6 => kn n6 (List.set v1 (Int.toNat v0) e4))) (k0 v1)
def ot (c0 : Int) (v0 : Int) (v1 : (Val ac)) (kn : Int → (Val ac) → Option ρ) (k0 : (Val ac) → Option ρ) : Option ρ :=
  ifb (ilt v0 c0) (b9 ((ile (0 : Int) v0) && (ilt v0 (dj v1))) (gk v1 (Int.toNat v0) fun e9 => ck (0 - e9) fun n10 => b9 ((ile (0 : Int) v0) && (ilt v0 (dj v1))) (gk v1 (Int.toNat v0) fun e11 => ck (v0 + (1 : Int)) fun n12 => kn n12 (List.set v1 (Int.toNat v0) n10)))) (k0 v1)
def HF (a0 : Val bo) (k : (Val az) → Option ρ) : Option ρ :=
  bf (qz a0 ([])) fun r1 => ifb (ine r1 (0 : Int)) (k ([], r1)) (bf (kQ a0 ([]) (0 : Int)) fun r2 => b9 ((ile (0 : Int) a0.1) && (bZ (Int.toNat a0.1))) (bw (fun (v18 : (Val ax)) kk21 => ou (bG (List.replicate (Int.toNat a0.1) (0 : Int))) a0.1 a0.2 v18.1 v18.2 (fun u19 u20 => kk21 (u19, u20)) (fun z7 => bf (cn z7 (1152921504606846976 : Int)) fun r8 => ifb r8 (k ([], (5 : Int))) (bw (fun (v14 : (Val ax)) kk17 => ot (bG z7) v14.1 v14.2 (fun u15 u16 => kk17 (u15, u16)) (fun z13 => k (z13, (0 : Int)))) ((0 : Int), z7)))) ((0 : Int), (List.replicate (Int.toNat a0.1) (0 : Int)))))
def BG (a0 : Val bo) : Option ((Val az)) := HF a0 some
def gg (c0 : (Val ac)) (c1 : Int) (v0 : Int) (kn : Int → Option ρ) (k0 : Int → Option ρ) (k1 : Unit → Option ρ) : Option ρ :=
  ifb (ilt v0 c1) (dm c0 v0 fun e1 => bf (cF e1 (-4503599627370496 : Int) (4503599627370496 : Int)) fun r2 => ifb (!r2) (k0 v0) (ck (v0 + (1 : Int)) fun n3 => kn n3)) (k1 ())
def kH (a0 : (Val aB)) (a1 : (Val ac)) (k : Int → Option ρ) : Option ρ :=
  ifb (ine (bG a1) (bG a0.2.1)) (k (1 : Int)) (bw (fun (v6 : Int) kk8 => gg a1 (bG a1) v6 (fun u7 => kk8 u7) (fun z4 => ifb (ige z4 (0 : Int)) (k (1 : Int)) (k (0 : Int))) (fun _ => k (0 : Int))) (0 : Int))
def iJ (a0 : (Val aB)) (a1 : (Val ac)) : Option (Int) := kH a0 a1 some
def rB (c0 : (Val ac)) (c1 : Int) (v0 : Int) (kn : Int → Option ρ) (k0 : Int → Option ρ) (k1 : Unit → Option ρ) : Option ρ :=
  ifb (ilt v0 c1) (dm c0 v0 fun e2 => ifb (ilt e2 (-1152921504606846976 : Int)) (k0 v0) (ifb (igt e2 (1152921504606846976 : Int)) (k0 v0) (ck (v0 + (1 : Int)) fun n3 => kn n3))) (k1 ())
def kG (c0 : (Val ac)) (c1 : (Val ah)) (c2 : Int) (v0 : Int) (kn : Int → Option ρ) (k0 : (Val aE) → Option ρ) (k1 : Unit → Option ρ) : Option ρ :=
  ifb (ilt v0 c2) (dm c1 v0 fun e5 => dm c0 e5.2.1 fun e6 => dm c0 e5.1 fun e7 => ck (e7 + e5.2.2) fun n8 => ifb (igt e6 n8) (k0 (false, (0 : Int))) (ck (v0 + (1 : Int)) fun n9 => kn n9)) (k1 ())
def N4 (a0 : Val bo) (a1 : (Val ac)) (k : (Val aE) → Option ρ) : Option ρ :=
  bf (j3 a0) fun r1 => ifb (ine r1.1 (0 : Int)) (k (false, r1.1)) (ifb (ine (bG a1) a0.1) (k (false, (1 : Int))) (bw (fun (v23 : Int) kk25 => rB a1 (bG a1) v23 (fun u24 => kk25 u24) (fun z4 => ifb (ige z4 (0 : Int)) (k (false, (1 : Int))) (bw (fun (v13 : Int) kk15 => kG a1 a0.2 (bG a0.2) v13 (fun u14 => kk15 u14) (fun z10 => k (z10.1, z10.2)) (fun _ => dm a1 (0 : Int) fun e12 => k (ieq e12 (0 : Int), (0 : Int)))) (0 : Int))) (fun _ => bw (fun (v20 : Int) kk22 => kG a1 a0.2 (bG a0.2) v20 (fun u21 => kk22 u21) (fun z17 => k (z17.1, z17.2)) (fun _ => dm a1 (0 : Int) fun e19 => k (ieq e19 (0 : Int), (0 : Int)))) (0 : Int))) (0 : Int)))
def Gd (a0 : Val bo) (a1 : (Val ac)) : Option ((Val aE)) := N4 a0 a1 some
def pp (a0 : (Val aB)) (a1 : (Val ac)) (k : Bool → Option ρ) : Option ρ :=
  b9 (bZ ((List.length ([(0 : Int)])) + (List.length a1))) (bf (Gd a0.2.2.1 (([(0 : Int)]) ++ a1)) fun r1 => k r1.1)
def lg (a0 : (Val aB)) (a1 : (Val ac)) : Option (Bool) := pp a0 a1 some
def OV (a0 : Val bg) (a1 : (Val ac)) (k : (Val aE) → Option ρ) : Option ρ :=
  bf (cd a0) fun r1 => ifb (ine r1 (0 : Int)) (k (false, r1)) (bf (wd a0) fun r2 => bf (iJ r2 a1) fun r3 => ifb (ine r3 (0 : Int)) (k (false, r3)) (bf (lg r2 a1) fun r4 => k (r4, (0 : Int))))
def BJ (a0 : Val bg) (a1 : (Val ac)) : Option ((Val aE)) := OV a0 a1 some
def Ck (a0 : Val bg) (a1 : Val bc) (k : Int → Option ρ) : Option ρ :=
  bf (dg a0 a1) fun r1 => ifb (ine r1.2 (0 : Int)) (k (-1 : Int)) (ck (r1.1 - (1 : Int)) fun n2 => k n2)
def mR (a0 : Val bg) (a1 : Val bc) : Option (Int) := Ck a0 a1 some
def iD (c0 : (Val aa)) (c1 : (Val ac)) (c2 : Int) (c3 : Int) (c4 : (Val ae)) (c5 : (Val aa)) (c6 : (Val af)) (c7 : (Val ab)) (c8 : (Val aa)) (v0 : Int) (v1 : Int) (kn : Int → Int → Option ρ) (k0 : (Val aV) → Option ρ) (k1 : Int → Option ρ) : Option ρ :=
  ifb (ilt v1 (bG c0)) (dm c0 v1 fun e3 => bf (mR ((c2, c3), c4, c5, c6, c7, c8) e3) fun r4 => ifb (ilt r4 (0 : Int)) (k0 ((0 : Int), false)) (ifb (ige r4 (bG c1)) (k0 ((0 : Int), false)) (dm c1 r4 fun e5 => ck (v0 + e5) fun n6 => ck (v1 + (1 : Int)) fun n7 => kn n6 n7))) (k1 v0)
def Cj (a0 : Val bg) (a1 : (Val aa)) (a2 : (Val ac)) (a3 : Bool) (k : (Val aV) → Option ρ) : Option ρ :=
  ifb a3 (ck ((bG a1) - (1 : Int)) fun n1 => ck ((PF (0 : Int) n1) * a0.1.2) fun n2 => bw (fun (v10 : Val bc) kk13 => iD a1 a2 a0.1.1 a0.1.2 a0.2.1 a0.2.2.1 a0.2.2.2.1 a0.2.2.2.2.1 a0.2.2.2.2.2 v10.1 v10.2 (fun u11 u12 => kk13 (u11, u12)) (fun z8 => k (z8.1, z8.2)) (fun z9 => k (z9, true))) (n2, (0 : Int))) (ck ((bG a1) - (1 : Int)) fun n14 => ck ((PF (0 : Int) n14) * a0.1.1) fun n15 => bw (fun (v18 : Val bc) kk21 => iD a1 a2 a0.1.1 a0.1.2 a0.2.1 a0.2.2.1 a0.2.2.2.1 a0.2.2.2.2.1 a0.2.2.2.2.2 v18.1 v18.2 (fun u19 u20 => kk21 (u19, u20)) (fun z16 => k (z16.1, z16.2)) (fun z17 => k (z17, true))) (n15, (0 : Int)))
def qw (a0 : Val bg) (a1 : (Val aa)) (a2 : (Val ac)) (a3 : Bool) : Option ((Val aV)) := Cj a0 a1 a2 a3 some
def dE (c0 : Int) (c1 : (Val ac)) (v0 : Int) (v1 : (Val aa)) (kn : Int → (Val aa) → Option ρ) (k0 : (Val aa) → Option ρ) : Option ρ :=
  ifb (ilt v0 (bG c1)) (dm c1 v0 fun e6 => b9 (bZ ((List.length v1) + (List.length ([(e6, c0)])))) (ck (v0 + (1 : Int)) fun n7 => kn n7 (v1 ++ ([(e6, c0)])))) (k0 v1)
def iP (a0 : Val bg) (a1 : Int) (a2 : (Val ac)) (k : Bool → Option ρ) : Option ρ :=
  bf (Gb a0) fun r1 => ifb (!r1) (bf jn fun r2 => k r2) (ifb (igt (bG a2) (6 : Int)) (bf jn fun r3 => k r3) (bf (BB a0 a1 a2) fun r4 => ifb (ine r4.2 (0 : Int)) (bf jn fun r5 => k r5) (bw (fun (v18 : (Val aA)) kk21 => dE a1 a2 v18.1 v18.2 (fun u19 u20 => kk21 (u19, u20)) (fun z8 => bf (ny a0 z8) fun r9 => bf (df r9.1) fun r10 => bf (oO r10.1) fun r11 => bf (BG r10.1) fun r12 => ifb (!r9.2) (k false) (ifb (ine r10.2.2 (0 : Int)) (k false) (ifb (ine r11.2 (0 : Int)) (k false) (ifb (ine r12.2 (0 : Int)) (k false) (ifb (ilt (bG r11.1) (1 : Int)) (k false) (ifb (ilt (bG r12.1) (1 : Int)) (k false) (b9 (ile (1 : Int) (dj r11.1)) (bf (BJ r9.1 (List.drop 1 r11.1)) fun r13 => b9 (ile (1 : Int) (dj r12.1)) (bf (BJ r9.1 (List.drop 1 r12.1)) fun r14 => b9 (ile (1 : Int) (dj r11.1)) (bf (qw r9.1 z8 (List.drop 1 r11.1) true) fun r15 => b9 (ile (1 : Int) (dj r12.1)) (bf (qw r9.1 z8 (List.drop 1 r12.1) false) fun r16 => bf jn fun r17 => ifb r17 (ifb (ieq r13.2 (0 : Int)) (ifb (ieq r14.2 (0 : Int)) (ifb r13.1 (ifb r14.1 (ifb r15.2 (ifb r16.2 (ifb (ieq r15.1 r4.1.2) (k (ieq r16.1 r4.1.1)) (k false)) (k false)) (k false)) (k false)) (k false)) (k false)) (k false)) (k false))))))))))))) ((0 : Int), []))))
def iR (a0 : Val bg) (a1 : Int) (a2 : (Val ac)) : Option (Bool) := iP a0 a1 a2 some
end Go.Proofs.ZzM
end
