/- lemmas -/
import Derived.Test.YtdmegkgjpgcfgaaGreatMdMA
set_option linter.all false
set_option linter.unusedSectionVars false
set_option linter.unusedVariables false
set_option linter.unusedSimpArgs false
noncomputable section
variable {ρ:Type}
set_option maxRecDepth 100000
namespace Go.Proofs.ZzM
open Go Go.Am
def Je:(yD ρ).Ok (jq ρ):=⟨by kernel_rfl,fun p v kn kx=>by kernel_rfl⟩
def Jd:(yB ρ).Ok (jq ρ):=⟨by kernel_rfl,fun p v kn kx=>by kernel_rfl⟩
def Jc:(yz ρ).Ok (jq ρ):=⟨by kernel_rfl,fun p v kn kx=>by kernel_rfl⟩
def Ja:(yw ρ).Ok (jq ρ):=⟨by kernel_rfl,fun p v kn kx=>by kernel_rfl⟩
def Jb:(yy ρ).Ok (jq ρ):=⟨by kernel_rfl,fun p v kn kx=>by kernel_rfl⟩
def Oz (x:Val (.pair Î (.pair ao tI))) (k:(Val aa)→Option ρ) :
    ŝ (jq ρ) 134 [Î,ao,tI] [aa] x k=GF x.1 x.2.1 x.2.2 k:=by kernel_rfl
def LD:(Bf ρ).Ok (vM ρ):=⟨by kernel_rfl,fun p v kn kx=>by kernel_rfl⟩
def LC:(Be ρ).Ok (vM ρ):=⟨by kernel_rfl,fun p v kn kx=>by kernel_rfl⟩
def R0 (x:Val Î) (k:(Val aW)→Option ρ) :
    ŝ (vM ρ) 185 [Î] [ab,tI] x k=LF x k:=by kernel_rfl
def N7 (x:Val aM) (k:Val tp→Option ρ) :
    ŝ (HY ρ) 106 [É,Ã] [Ã,tI] x k=Gj x.1 x.2 k:=by kernel_rfl
def I3:(yn ρ).Ok (rS ρ):=⟨by kernel_rfl,fun p v kn kx=>by kernel_rfl⟩
def I2:(yl ρ).Ok (rS ρ):=⟨by kernel_rfl,fun p v kn kx=>by kernel_rfl⟩
def Oo (x:Val (.pair Â Ã)) (k:(Val (.pair ak tI))→Option ρ) :
    ŝ (rS ρ) 42 [Â,tI,tI] [ak,tI] x k=Gu x.1 x.2.1 x.2.2 k:=by kernel_rfl
def IM:(((ħ (Χ ρ).P 298).elim [] (Ý 0)).filter fun y=>Nat.beq y.1 0).length=1:=by kernel_rfl
def KX:QR (mj (ħ (Χ ρ).P 298) 0)=true:=by kernel_rfl
def KV (p:Val ah) (v v':Val aa):(ü jZ [tI,tI,ae,ab,af,ac,ab,ai] [aa] p v').t=(ü jZ [tI,tI,ae,ab,af,ac,ab,ai] [aa] p v).t:=by kernel_rfl
def KW (p:Val ah) (v:Val aa):(ü jZ [tI,tI,ae,ab,af,ac,ab,ai] [aa] p v).t.all (st3 3)=true:=by kernel_rfl
def IP (p:Val ah) (v:Val aa) (y:Int) (kn:Val ah→Val aa→Option ρ):AI (Χ ρ) (ŵ (Χ ρ) (10-6 / 2)) 298 [7,8,1,1,1,1] 3 0 (mj (ħ (Χ ρ).P 298) 0) (ü jZ [tI,tI,ae,ab,af,ac,ab,ai] [aa] p v) (enc tI y) ((nh ρ).back kn)=(nh ρ).bF p v y (kn p):=by kernel_rfl
def KY (hit:kj Tryz.prog ER):(nh ρ).Ok (Χ ρ):=⟨IM,hit,KV,KW,IP⟩
def KZ:(AY ρ).Ok (Χ ρ):=⟨by kernel_rfl,fun p v kn kx=>by kernel_rfl⟩
def Ry (x:Val aI) (k:Bool→Option ρ) :
    ŝ (Χ ρ) 154 [Â,ag] [.bool] x k=K3 x.1 x.2 k:=by kernel_rfl
def RE (x:Val aI) (k:Int→Option ρ) :
    ŝ (Lf ρ) 78 [Â,ag] [tI] x k=Lg x.1 x.2 k:=by kernel_rfl
def Ys (x:Val bg) (k:Val Ã→Option ρ) :
    ŝ (Vx ρ) 49 [Â,ag,tI,tI] [tI,tI] x k=Yt x.1 x.2.1 x.2.2.1 x.2.2.2 k:=by kernel_rfl
def YE:(P6 ρ).Ok (GD ρ):=⟨by kernel_rfl,fun p v kn kx=>by kernel_rfl⟩
def YC:(P3 ρ).Ok (GD ρ):=⟨by kernel_rfl,fun p v kn kx=>by kernel_rfl⟩
def YB:(P1 ρ).Ok (GD ρ):=⟨by kernel_rfl,fun p v kn kx=>by kernel_rfl⟩
def YD:(P5 ρ).Ok (GD ρ):=⟨by kernel_rfl,fun p v kn kx=>by kernel_rfl⟩
def aem (x:Val (.pair Î Ã)) (k:(Val ag)→Option ρ) :
    ŝ (GD ρ) 128 [Î,tI,tI] [ag] x k=Ly x.1 x.2.1 x.2.2 k:=by kernel_rfl
def LL:(Bo ρ).Ok (kI ρ):=⟨by kernel_rfl,fun p v kn kx=>by kernel_rfl⟩
def LG:(Bg ρ).Ok (kI ρ):=⟨by kernel_rfl,fun p v kn kx=>by kernel_rfl⟩
def LH:(Bi ρ).Ok (kI ρ):=⟨by kernel_rfl,fun p v kn kx=>by kernel_rfl⟩
def LJ:(Bk ρ).Ok (kI ρ):=⟨by kernel_rfl,fun p v kn kx=>by kernel_rfl⟩
def LK:(Bm ρ).Ok (kI ρ):=⟨by kernel_rfl,fun p v kn kx=>by kernel_rfl⟩
def Sd (x:Val Î) (k:(Val ax)→Option ρ) :
    ŝ (kI ρ) 64 [Î] [aa,tI] x k=Ee x k:=by kernel_rfl
def Li:(A8 ρ).Ok (Cj ρ):=⟨by kernel_rfl,fun p v kn kx=>by kernel_rfl⟩
def RH (x:Val Â) (k:(Val (.pair ag tI))→Option ρ) :
    ŝ (Cj ρ) 59 [Â] [ag,tI] x k=Lj x k:=by kernel_rfl
def GC:(wO ρ).Ok (vI ρ):=⟨by kernel_rfl,fun p v kn kx=>by kernel_rfl⟩
def Lx (x:Val aX) (k:Int→Option ρ) :
    ŝ (vI ρ) 188 [Î,aa] [tI] x k=Cl x.1 x.2 k:=by kernel_rfl
def Ow:(D0 ρ).Ok (Gz ρ):=⟨by kernel_rfl,fun p v kn kx=>by kernel_rfl⟩
def VH (x:Val (.pair Î ŋ)) (k:(Val (.pair tI (.pair tI .bool)))→Option ρ) :
    ŝ (Gz ρ) 189 [Î,tI,aa] [tI,tI,.bool] x k=RT x.1 x.2.1 x.2.2 k:=by kernel_rfl
def Eg (x:Val aX) (k:Int→Option ρ) :
    ŝ (wQ ρ) 122 [Î,aa] [tI] x k=sX x.1 x.2 k:=by kernel_rfl
def As:(qe ρ).Ok (oC ρ):=⟨by kernel_rfl,fun p v kn kx=>by kernel_rfl⟩
def DX (x:Val aI) (k:Int→Option ρ) :
    ŝ (oC ρ) 60 [Â,ag] [tI] x k=sP x.1 x.2 k:=by kernel_rfl
def IG (x:Val ac) (k:Val Â→Option ρ) :
    ŝ (AU ρ) 77 [ac] [Â] x k=HU x k:=by kernel_rfl
def KL (x:Unit) (k:Bool→Option ρ) :
    ŝ (Dr ρ) 17 [] [.bool] x k=BT k:=by kernel_rfl
def I1 (x:Val aI) (k:(Val aG)→Option ρ) :
    ŝ (A9 ρ) 18 [Â,ag] [.bool,tI] x k=yk x.1 x.2 k:=by kernel_rfl
def Gt (x:Val aI) (k:(Val aU)→Option ρ) :
    ŝ (yi ρ) 41 [Â,ag] [É,tI] x k=vz x.1 x.2 k:=by kernel_rfl
def S8 (x:Val É) (k:(Val aW)→Option ρ) :
    ŝ (Ms ρ) 71 [É] [ab,tI] x k=Mu x k:=by kernel_rfl
def Sz (x:Val aU) (k:(Val (.pair Ù tI))→Option ρ) :
    ŝ (L2 ρ) 145 [É,tI] [Ù,tI] x k=L3 x.1 x.2 k:=by kernel_rfl
def vT:(mi ρ).Ok (kJ ρ):=⟨by kernel_rfl,fun p v kn kx=>by kernel_rfl⟩
def yL (x:Val (.pair aD aa)) (k:Int→Option ρ) :
    ŝ (kJ ρ) 146 [aD,aa] [tI] x k=mQ x.1 x.2 k:=by kernel_rfl
def SD (x:Val (.pair É (.pair Ù Ã))) (k:Val tp→Option ρ) :
    ŝ (L4 ρ) 149 [É,Ù,Ã] [Ã,tI] x k=L5 x.1 x.2.1 x.2.2 k:=by kernel_rfl
def S6 (x:Val (.pair É ŋ)) (k:Val tp→Option ρ) :
    ŝ (Mq ρ) 73 [É,tI,aa] [Ã,tI] x k=Mr x.1 x.2.1 x.2.2 k:=by kernel_rfl
def G4:(wZ ρ).Ok (lM ρ):=⟨by kernel_rfl,fun p v kn kx=>by kernel_rfl⟩
def G3:(wX ρ).Ok (lM ρ):=⟨by kernel_rfl,fun p v kn kx=>by kernel_rfl⟩
def G0:(wV ρ).Ok (lM ρ):=⟨by kernel_rfl,fun p v kn kx=>by kernel_rfl⟩
def Mp (x:Val (.pair É aa)) (k:(Val aU)→Option ρ) :
    ŝ (lM ρ) 74 [É,aa] [É,tI] x k=CD x.1 x.2 k:=by kernel_rfl
def NV:(Ds ρ).Ok (Gc ρ):=⟨by kernel_rfl,fun p v kn kx=>by kernel_rfl⟩
def Vn (x:Val É) (k:(Val aa)→Option ρ) :
    ŝ (Gc ρ) 75 [É] [aa] x k=Rp x k:=by kernel_rfl
def OE:(Eb ρ).Ok (zD ρ):=⟨by kernel_rfl,fun p v kn kx=>by kernel_rfl⟩
def OD:(D9 ρ).Ok (zD ρ):=⟨by kernel_rfl,fun p v kn kx=>by kernel_rfl⟩
def VN (x:Val aX) (k:(Val aG)→Option ρ) :
    ŝ (zD ρ) 219 [Î,aa] [.bool,tI] x k=Sb x.1 x.2 k:=by kernel_rfl
def Ep (x:Val (.pair aD aa)) (k:Bool→Option ρ) :
    ŝ (wU ρ) 153 [aD,aa] [.bool] x k=s7 x.1 x.2 k:=by kernel_rfl
def Wz (x:Val (.pair É aa)) (k:(Val aG)→Option ρ) :
    ŝ (Qb ρ) 76 [É,aa] [.bool,tI] x k=Tc x.1 x.2 k:=by kernel_rfl
def BZ:(rt ρ).Ok (ψ ρ):=⟨by kernel_rfl,fun p v kn kx=>by kernel_rfl⟩
def BX:(rq ρ).Ok (ψ ρ):=⟨by kernel_rfl,fun p v kn kx=>by kernel_rfl⟩
def BV:(rj ρ).Ok (ψ ρ):=⟨by kernel_rfl,fun p v kn kx=>by kernel_rfl⟩
def BW:(rl ρ).Ok (ψ ρ):=⟨by kernel_rfl,fun p v kn kx=>by kernel_rfl⟩
def Ge (x:Val (.pair Â (.pair tI (.pair aa Ã)))) (k:Bool→Option ρ) :
    ŝ (ψ ρ) 14 [Â,tI,aa,tI,tI] [.bool] x k=vt x.1 x.2.1 x.2.2.1 x.2.2.2.1 x.2.2.2.2 k:=by kernel_rfl
end Go.Proofs.ZzM
end
