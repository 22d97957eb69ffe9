/- lemmas -/
import Derived.Test.YtiochmbenflhhaaGreatMdMA
set_option linter.all false
set_option linter.unusedSectionVars false
set_option linter.unusedVariables false
set_option linter.unusedSimpArgs false
noncomputable section
variable {ρ:Type}
set_option maxRecDepth 100000
namespace Go.Proofs.ZzM
open Go Go.Am
def Na (x:Val (.pair tI (.pair tI (.pair az (.pair (.ptr tI) (.pair aY (.ptr tI))))))) (k:Val Ĉ→Option ρ) :
    Ă (CH ρ) 170 [tI,tI,az,(.ptr tI),aY,(.ptr tI)] [Ĉ] x k=zo x.1 x.2.1 x.2.2.1 x.2.2.2.1 x.2.2.2.2.1 x.2.2.2.2.2 k:=by kernel_rfl
def M8:(zm ρ).Ok (rS ρ):=⟨by kernel_rfl,fun p v kn kx=>by kernel_rfl⟩
def U5 (x:Val (.pair az bc)) (k:(Val (.pair ũ tI))→Option ρ) :
    Ă (rS ρ) 98 [az,Â,È] [ũ,tI] x k=JV x.1 x.2.1 x.2.2 k:=by kernel_rfl
def JX (x:Val Ĉ) (k:(Val ae)→Option ρ) :
    Ă (zq ρ) 101 [Ĉ] [ae] x k=vO x k:=by kernel_rfl
def U7 (x:Val (.pair Ĉ tI)) (k:Int→Option ρ) :
    Ă (LL ρ) 172 [Ĉ,tI] [tI] x k=J0 x.1 x.2 k:=by kernel_rfl
def FZ (x:Val (.pair ũ tI)) (k:Val Â→Option ρ) :
    Ă (xq ρ) 105 [ũ,tI] [Â] x k=sS x.1 x.2 k:=by kernel_rfl
def BM:(qi ρ).Ok (kF ρ):=⟨by kernel_rfl,fun p v kn kx=>by kernel_rfl⟩
def BN:(qk ρ).Ok (kF ρ):=⟨by kernel_rfl,fun p v kn kx=>by kernel_rfl⟩
def F1 (x:Val (.pair ũ ae)) (k:(Val ae)→Option ρ) :
    Ă (kF ρ) 106 [ũ,ae] [ae] x k=sT x.1 x.2 k:=by kernel_rfl
def zi:(oG ρ).Ok (mV ρ):=⟨by kernel_rfl,fun p v kn kx=>by kernel_rfl⟩
def D5 (x:Val ũ) (k:Int→Option ρ) :
    Ă (mV ρ) 99 [ũ] [tI] x k=qg x k:=by kernel_rfl
def QR:(CL ρ).Ok (Ec ρ):=⟨by kernel_rfl,fun p v kn kx=>by kernel_rfl⟩
def ZU (x:Val (.pair Ã bc)) (k:Val Â→Option ρ) :
    Ă (Ec ρ) 37 [Ã,Â,È] [tI,tI] x k=QS x.1 x.2.1 x.2.2 k:=by kernel_rfl
def J6 (x:Val tI) (k:Int→Option ρ) :
    Ă (zw ρ) 102 [tI] [tI] x k=vS x k:=by kernel_rfl
def JZ (x:Val (.pair Ĉ tI)) (k:(Val ae)→Option ρ) :
    Ă (zr ρ) 103 [Ĉ,tI] [ae] x k=vP x.1 x.2 k:=by kernel_rfl
def Gx:(((sH (đ ρ).P 41).elim [] (î 0)).filter fun y=>Nat.beq y.1 0).length=1:=by kernel_rfl
def Gy (p:Val ax) (v:Val aF) (kn:Val ax→Val aF→Option ρ) (kx:(i:Nat)→Val ax→Val (tyL (Γ.zs i))→Option ρ) :
    goC (đ ρ) (ks (đ ρ) (10-2 / 2)) 41 [1,3] 5 0 (L3 (sH (đ ρ).P 41) 0) (jp Γ.head Γ.cs Γ.vs p v) (ab8 Γ kn kx)=(oA ρ).bF p v (kn p) (fun i=>kx i p):=by kernel_rfl
def J4:(oA ρ).Ok (đ ρ):=⟨Gx,Gy⟩
def Gv:(((sH (đ ρ).P 115).elim [] (î 0)).filter fun y=>Nat.beq y.1 0).length=1:=by kernel_rfl
def Gw (p:Val ao) (v:Val tI) (kn:Val ao→Val tI→Option ρ) (kx:(i:Nat)→Val ao→Val (tyL (Β.zs i))→Option ρ) :
    goC (đ ρ) (ks (đ ρ) (10-4 / 2)) 115 [18,4,1,2] 12 0 (L3 (sH (đ ρ).P 115) 0) (jp Β.head Β.cs Β.vs p v) (ab8 Β kn kx)=(oz ρ).bF p v (kn p) (fun i=>kx i p):=by kernel_rfl
def J3:(oz ρ).Ok (đ ρ):=⟨Gv,Gw⟩
def QT (x:Val (.pair Ã (.pair Â bc))) (k:(Val aQ)→Option ρ) :
    Ă (vR ρ) 38 [Ã,Â,Â,È] [.bool,tI] x k=Ed x.1 x.2.1 x.2.2.1 x.2.2.2 k:=by kernel_rfl
def Kh:(xC ρ).Ok (vZ ρ):=⟨by kernel_rfl,fun p v kn kx=>by kernel_rfl⟩
def Q3 (x:Val aU) (k:Int→Option ρ) :
    Ă (vZ ρ) 155 [É,ae] [tI] x k=Eh x.1 x.2 k:=by kernel_rfl
def Vh:(GH ρ).Ok (Kf ρ):=⟨by kernel_rfl,fun p v kn kx=>by kernel_rfl⟩
def aeg (x:Val (.pair É aw)) (k:(Val aR)→Option ρ) :
    Ă (Kf ρ) 156 [É,tI,ae] [tI,tI,.bool] x k=Z2 x.1 x.2.1 x.2.2 k:=by kernel_rfl
def GV (x:Val aU) (k:Int→Option ρ) :
    Ă (xE ρ) 81 [É,ae] [tI] x k=tc x.1 x.2 k:=by kernel_rfl
def GG (x:Val ü) (k:Int→Option ρ) :
    Ă (xv ρ) 25 [ü] [tI] x k=sZ x k:=by kernel_rfl
def GX (x:Val (.pair É (.pair tI aw))) (k:Val Â→Option ρ) :
    Ă (xF ρ) 107 [É,tI,tI,ae] [tI,tI] x k=td x.1 x.2.1 x.2.2.1 x.2.2.2 k:=by kernel_rfl
def J9 (x:Val ü) (k:Int→Option ρ) :
    Ă (zA ρ) 40 [ü] [tI] x k=vV x k:=by kernel_rfl
def kS:(Ÿ ρ).Ok (ņ ρ):=⟨by kernel_rfl,fun p v kn kx=>by kernel_rfl⟩
def lL (x:Val (.pair ac Ï)) (k:Int→Option ρ) :
    Ă (ņ ρ) 233 [ac,Ï] [tI] x k=Ř x.1 x.2 k:=by kernel_rfl
def kf (x:Val (.pair ac Ï)) (k:Bool→Option ρ) :
    Ă (ź ρ) 190 [ac,Ï] [.bool] x k=Ł x.1 x.2 k:=by kernel_rfl
def mN:(iz ρ).Ok (ŭ ρ):=⟨by kernel_rfl,fun p v kn kx=>by kernel_rfl⟩
def ov (x:Val bg) (k:Int→Option ρ) :
    Ă (ŭ ρ) 235 [aa,Â] [tI] x k=Υ x.1 x.2 k:=by kernel_rfl
def mz (x:Val bg) (k:Bool→Option ρ) :
    Ă (iA ρ) 193 [aa,Â] [.bool] x k=Ş x.1 x.2 k:=by kernel_rfl
def lJ:(ο ρ).Ok (ŗ ρ):=⟨by kernel_rfl,fun p v kn kx=>by kernel_rfl⟩
def mR (x:Val (.pair af Ń)) (k:Int→Option ρ) :
    Ă (ŗ ρ) 237 [af,Ń] [tI] x k=ů x.1 x.2 k:=by kernel_rfl
def lC (x:Val (.pair af Ń)) (k:Bool→Option ρ) :
    Ă (ς ρ) 196 [af,Ń] [.bool] x k=Ŏ x.1 x.2 k:=by kernel_rfl
def U3:(Gr ρ).Ok (Α ρ):=⟨by kernel_rfl,fun p v kn kx=>by kernel_rfl⟩
def U0:(Gk ρ).Ok (Α ρ):=⟨by kernel_rfl,fun p v kn kx=>by kernel_rfl⟩
def UZ:(Gi ρ).Ok (Α ρ):=⟨by kernel_rfl,fun p v kn kx=>by kernel_rfl⟩
def U1:(Gm ρ).Ok (Α ρ):=⟨by kernel_rfl,fun p v kn kx=>by kernel_rfl⟩
def U2:(Gp ρ).Ok (Α ρ):=⟨by kernel_rfl,fun p v kn kx=>by kernel_rfl⟩
def UY:(Gg ρ).Ok (Α ρ):=⟨by kernel_rfl,fun p v kn kx=>by kernel_rfl⟩
def UX:(Ge ρ).Ok (Α ρ):=⟨by kernel_rfl,fun p v kn kx=>by kernel_rfl⟩
def UW:(Gc ρ).Ok (Α ρ):=⟨by kernel_rfl,fun p v kn kx=>by kernel_rfl⟩
def UV:(Ga ρ).Ok (Α ρ):=⟨by kernel_rfl,fun p v kn kx=>by kernel_rfl⟩
def UU:(F8 ρ).Ok (Α ρ):=⟨by kernel_rfl,fun p v kn kx=>by kernel_rfl⟩
def ad0 (x:Val aW) (k:Bool→Option ρ) :
    Ă (Α ρ) 55 [Ã,Ã] [.bool] x k=ZF x.1 x.2 k:=by kernel_rfl
def Vc (x:Val (.pair Ã ü)) (k:(Val aQ)→Option ρ) :
    Ă (LQ ρ) 39 [Ã,ü] [.bool,tI] x k=J2 x.1 x.2 k:=by kernel_rfl
def Ph (x:Unit) (k:Bool→Option ρ) :
    Ă (FB ρ) 8 [] [.bool] x k=DE k:=by kernel_rfl
def My (x:Val å) (k:Bool→Option ρ) :
    Ă (Cm ρ) 56 [Â,tI,tI] [.bool] x k=yD x.1 x.2.1 x.2.2 k:=by kernel_rfl
def agK (x:Val Ĉ) (k:Bool→Option ρ) :
    Ă (ady ρ) 132 [tI,tI,tI] [.bool] x k=agL x.1 x.2.1 x.2.2 k:=by kernel_rfl
def adD (x:Val tI) (k:Bool→Option ρ) :
    Ă (WH ρ) 62 [tI] [.bool] x k=Zg x k:=by kernel_rfl
def UO:(FW ρ).Ok (JO ρ):=⟨by kernel_rfl,fun p v kn kx=>by kernel_rfl⟩
def adR (x:Val Â) (k:Int→Option ρ) :
    Ă (JO ρ) 197 [tI,tI] [tI] x k=Zy x.1 x.2 k:=by kernel_rfl
def adW (x:Val tI) (k:Int→Option ρ) :
    Ă (WN ρ) 198 [tI] [tI] x k=ZD x k:=by kernel_rfl
def UL (x:Val Â) (k:Bool→Option ρ) :
    Ă (LI ρ) 131 [Â] [.bool] x k=JM x k:=by kernel_rfl
def T9 (x:Val Ï) (k:Bool→Option ρ) :
    Ă (LF ρ) 57 [Ï] [.bool] x k=Jm x k:=by kernel_rfl
def Qa:(Cz ρ).Ok (DZ ρ):=⟨by kernel_rfl,fun p v kn kx=>by kernel_rfl⟩
def Ze (x:Val aJ) (k:Int→Option ρ) :
    Ă (DZ ρ) 134 [Ã,tI] [tI] x k=Qb x.1 x.2 k:=by kernel_rfl
def Ui (x:Val aG) (k:Int→Option ρ) :
    Ă (LG ρ) 63 [Ã,tI,tI] [tI] x k=Jp x.1 x.2.1 x.2.2 k:=by kernel_rfl
def PA:(Cl ρ).Ok (DJ ρ):=⟨by kernel_rfl,fun p v kn kx=>by kernel_rfl⟩
def YH (x:Val Ã) (k:Int→Option ρ) :
    Ă (DJ ρ) 58 [Ã] [tI] x k=PB x k:=by kernel_rfl
def MA:(yF ρ).Ok (nJ ρ):=⟨by kernel_rfl,fun p v kn kx=>by kernel_rfl⟩
def Mz:(yE ρ).Ok (nJ ρ):=⟨by kernel_rfl,fun p v kn kx=>by kernel_rfl⟩
def MB:(yG ρ).Ok (nJ ρ):=⟨by kernel_rfl,fun p v kn kx=>by kernel_rfl⟩
def T5 (x:Val Ã) (k:Int→Option ρ) :
    Ă (nJ ρ) 59 [Ã] [tI] x k=Jk x k:=by kernel_rfl
def PU:(Cu ρ).Ok (DT ρ):=⟨by kernel_rfl,fun p v kn kx=>by kernel_rfl⟩
def Y0 (x:Val ae) (k:Bool→Option ρ) :
    Ă (DT ρ) 133 [ae] [.bool] x k=PV x k:=by kernel_rfl
def T3 (x:Val È) (k:Bool→Option ρ) :
    Ă (LC ρ) 60 [È] [.bool] x k=Jj x k:=by kernel_rfl
def P3:(Cx ρ).Ok (DW ρ):=⟨by kernel_rfl,fun p v kn kx=>by kernel_rfl⟩
def Y7 (x:Val aG) (k:(Val bj)→Option ρ) :
    Ă (DW ρ) 135 [Ã,tI,tI] [Ń,.bool] x k=P4 x.1 x.2.1 x.2.2 k:=by kernel_rfl
def Uu:(FP ρ).Ok (Jv ρ):=⟨by kernel_rfl,fun p v kn kx=>by kernel_rfl⟩
def adA (x:Val aL) (k:Bool→Option ρ) :
    Ă (Jv ρ) 199 [ae,tI] [.bool] x k=Zc x.1 x.2 k:=by kernel_rfl
def P5:(Cy ρ).Ok (DX ρ):=⟨by kernel_rfl,fun p v kn kx=>by kernel_rfl⟩
def Y9 (x:Val aO) (k:(Val ae)→Option ρ) :
    Ă (DX ρ) 136 [ae,ae] [ae] x k=P6 x.1 x.2 k:=by kernel_rfl
def DM:(rz ρ).Ok (ju ρ):=⟨by kernel_rfl,fun p v kn kx=>by kernel_rfl⟩
def DL:(ru ρ).Ok (ju ρ):=⟨by kernel_rfl,fun p v kn kx=>by kernel_rfl⟩
def DK:(rt ρ).Ok (ju ρ):=⟨by kernel_rfl,fun p v kn kx=>by kernel_rfl⟩
def Jo (x:Val aE) (k:Int→Option ρ) :
    Ă (ju ρ) 61 [Ã,È] [tI] x k=vB x.1 x.2 k:=by kernel_rfl
def adm (x:Val aO) (k:Int→Option ρ) :
    Ă (WG ρ) 139 [ae,ae] [tI] x k=YJ x.1 x.2 k:=by kernel_rfl
def PH:(Co ρ).Ok (vC ρ):=⟨by kernel_rfl,fun p v kn kx=>by kernel_rfl⟩
def PG:(Cn ρ).Ok (vC ρ):=⟨by kernel_rfl,fun p v kn kx=>by kernel_rfl⟩
def YO (x:Val (.pair Ã (.pair Ï tI))) (k:Bool→Option ρ) :
    Ă (vC ρ) 137 [Ã,Ï,tI] [.bool] x k=PI x.1 x.2.1 x.2.2 k:=by kernel_rfl
def MJ:(yP ρ).Ok (iB ρ):=⟨by kernel_rfl,fun p v kn kx=>by kernel_rfl⟩
def MI:(yO ρ).Ok (iB ρ):=⟨by kernel_rfl,fun p v kn kx=>by kernel_rfl⟩
def MH:(yN ρ).Ok (iB ρ):=⟨by kernel_rfl,fun p v kn kx=>by kernel_rfl⟩
def ME:(yH ρ).Ok (iB ρ):=⟨by kernel_rfl,fun p v kn kx=>by kernel_rfl⟩
def MF:(yJ ρ).Ok (iB ρ):=⟨by kernel_rfl,fun p v kn kx=>by kernel_rfl⟩
def MG:(yL ρ).Ok (iB ρ):=⟨by kernel_rfl,fun p v kn kx=>by kernel_rfl⟩
def Up (x:Val Ã) (k:(Val aa)→Option ρ) :
    Ă (iB ρ) 64 [Ã] [aa] x k=Jt x k:=by kernel_rfl
def MK:(yQ ρ).Ok (yR ρ):=⟨by kernel_rfl,fun p v kn kx=>by kernel_rfl⟩
def Ut (x:Val aG) (k:Int→Option ρ) :
    Ă (yR ρ) 85 [Ã,Â] [tI] x k=Ju x.1 x.2 k:=by kernel_rfl
def PJ:(Cp ρ).Ok (DN ρ):=⟨by kernel_rfl,fun p v kn kx=>by kernel_rfl⟩
def YQ (x:Val aG) (k:Bool→Option ρ) :
    Ă (DN ρ) 200 [Ã,tI,tI] [.bool] x k=PK x.1 x.2.1 x.2.2 k:=by kernel_rfl
def PZ:(Cv ρ).Ok (DU ρ):=⟨by kernel_rfl,fun p v kn kx=>by kernel_rfl⟩
def Y3 (x:Val (.pair Ã Ĉ)) (k:Int→Option ρ) :
    Ă (DU ρ) 138 [Ã,tI,tI,tI] [tI] x k=P0 x.1 x.2.1 x.2.2.1 x.2.2.2 k:=by kernel_rfl
def Qw (x:Val Â) (k:Val ķ→Option ρ) :
    Ă (FV ρ) 274 [tI,tI] [ķ] x k=D3 x.1 x.2 k:=by kernel_rfl
def adU (x:Val å) (k:Val ķ→Option ρ) :
    Ă (WM ρ) 254 [Â,Â] [ķ] x k=ZC x.1 x.2 k:=by kernel_rfl
def adN (x:Val Â) (k:Val Â→Option ρ) :
    Ă (WK ρ) 255 [Â] [Â] x k=Zv x k:=by kernel_rfl
def adL (x:Val å) (k:Val ķ→Option ρ) :
    Ă (WJ ρ) 238 [Â,Â] [ķ] x k=Zt x.1 x.2 k:=by kernel_rfl
def T7 (x:Val aJ) (k:Val Â→Option ρ) :
    Ă (LD ρ) 239 [Ã,tI] [Â] x k=Jl x.1 x.2 k:=by kernel_rfl
def Zr (x:Val (.pair ķ ķ)) (k:Val tG→Option ρ) :
    Ă (Qz ρ) 256 [ķ,ķ] [tG] x k=QA x.1 x.2 k:=by kernel_rfl
def adP (x:Val å) (k:Val ķ→Option ρ) :
    Ă (WL ρ) 257 [Â,Â] [ķ] x k=Zw x.1 x.2 k:=by kernel_rfl
def UN (x:Val (.pair å Â)) (k:Val tG→Option ρ) :
    Ă (LJ ρ) 240 [å,Â] [tG] x k=JN x.1 x.2 k:=by kernel_rfl
def P9 (x:Val aE) (k:Val å→Option ρ) :
    Ă (FQ ρ) 201 [Ã,È] [å] x k=DY x.1 x.2 k:=by kernel_rfl
def Uy (x:Val aE) (k:Val Â→Option ρ) :
    Ă (LH ρ) 202 [Ã,È] [Â] x k=Jw x.1 x.2 k:=by kernel_rfl
def Zp (x:Val Â) (k:Int→Option ρ) :
    Ă (Qx ρ) 241 [tI,tI] [tI] x k=Qy x.1 x.2 k:=by kernel_rfl
end Go.Proofs.ZzM
end
