/- lemmas -/
import Derived.Test.YtmadligicacpkaaGreatMdMA
set_option linter.all false
set_option linter.unusedSectionVars false
set_option linter.unusedVariables false
set_option linter.unusedSimpArgs false
noncomputable section
variable {ρ:Type}
set_option maxRecDepth 100000
namespace Go.Proofs.ZzM
open Go Go.Am
def V2 (x:Val Â) (k:Int→Option ρ) :
    Ĉ (Ow ρ) 207 (ÿ [Â] x) (fun h v=>Ã (ą [tI] h v) k)=Ox x k:=by kernel_rfl
def VS (x:Val Â) (k:Int→Option ρ) :
    Ĉ (Oq ρ) 246 (ÿ [tI,tI] x) (fun h v=>Ã (ą [tI] h v) k)=Ot x.1 x.2 k:=by kernel_rfl
def RE (x:Val Â) (k:Int→Option ρ) :
    Ĉ (J3 ρ) 208 (ÿ [Â] x) (fun h v=>Ã (ą [tI] h v) k)=H9 x k:=by kernel_rfl
def VC (x:Val aB) (k:Val Â→Option ρ) :
    Ĉ (NR ρ) 171 (ÿ [Ä,Ì] x) (fun h v=>Ã (ą [Â] h v) k)=NS x.1 x.2 k:=by kernel_rfl
def Rk:(El ρ).Ok (sg ρ):=⟨by kernel_rfl,fun p v kn kx=>by kernel_rfl⟩
def Rl:(Em ρ).Ok (sg ρ):=⟨by kernel_rfl,fun p v kn kx=>by kernel_rfl⟩
def Rj:(Ek ρ).Ok (sg ρ):=⟨by kernel_rfl,fun p v kn kx=>by kernel_rfl⟩
def Zr (x:Val Ä) (k:Val vI→Option ρ) :
    Ĉ (sg ρ) 103 (ÿ [Ä] x) (fun h v=>Ã (ą [vI] h v) k)=VA x k:=by kernel_rfl
def Lt:(xx ρ).Ok (j4 ρ):=⟨by kernel_rfl,fun p v kn kx=>by kernel_rfl⟩
def Lr:(xv ρ).Ok (j4 ρ):=⟨by kernel_rfl,fun p v kn kx=>by kernel_rfl⟩
def Ls:(xw ρ).Ok (j4 ρ):=⟨by kernel_rfl,fun p v kn kx=>by kernel_rfl⟩
def Lq:(xu ρ).Ok (j4 ρ):=⟨by kernel_rfl,fun p v kn kx=>by kernel_rfl⟩
def Rx (x:Val Ä) (k:Int→Option ρ) :
    Ĉ (j4 ρ) 41 (ÿ [Ä] x) (fun h v=>Ã (ą [tI] h v) k)=HZ x k:=by kernel_rfl
def NQ (x:Val Ä) (k:Val Í→Option ρ) :
    Ĉ (En ρ) 43 (ÿ [Ä] x) (fun h v=>Ã (ą [Í] h v) k)=Cz x k:=by kernel_rfl
def VG (x:Val aD) (k:(Val aG)→Option ρ) :
    Ĉ (N0 ρ) 53 (ÿ [Ä,Â] x) (fun h v=>Ã (ą [Ä,tI] h v) k)=N1 x.1 x.2 k:=by kernel_rfl
def Lz:(xE ρ).Ok (Μ ρ):=⟨by kernel_rfl,fun p v kn kx=>by kernel_rfl⟩
def LA:(xG ρ).Ok (Μ ρ):=⟨by kernel_rfl,fun p v kn kx=>by kernel_rfl⟩
def Ly:(xD ρ).Ok (Μ ρ):=⟨by kernel_rfl,fun p v kn kx=>by kernel_rfl⟩
def Lv:(xA ρ).Ok (Μ ρ):=⟨by kernel_rfl,fun p v kn kx=>by kernel_rfl⟩
def Lw:(xB ρ).Ok (Μ ρ):=⟨by kernel_rfl,fun p v kn kx=>by kernel_rfl⟩
def Lu:(xy ρ).Ok (Μ ρ):=⟨by kernel_rfl,fun p v kn kx=>by kernel_rfl⟩
def Lx:(xC ρ).Ok (Μ ρ):=⟨by kernel_rfl,fun p v kn kx=>by kernel_rfl⟩
def Ry (x:Val Í) (k:(Val (.pair am .bool))→Option ρ) :
    Ĉ (Μ ρ) 54 (ÿ [Í] x) (fun h v=>Ã (ą [am,.bool] h v) k)=H4 x k:=by kernel_rfl
def NC:(AO ρ).Ok (Ct ρ):=⟨by kernel_rfl,fun p v kn kx=>by kernel_rfl⟩
def Vo (x:Val (.pair Ä aa)) (k:Val ŭ→Option ρ) :
    Ĉ (Ct ρ) 15 (ÿ [Ä,aa] x) (fun h v=>Ã (ą [ŭ] h v) k)=ND x.1 x.2 k:=by kernel_rfl
def tS (x:Val (.pair ŭ tI)) (k:Val Â→Option ρ) :
    Ĉ (mE ρ) 16 (ÿ [ŭ,tI] x) (fun h v=>Ã (ą [Â] h v) k)=jP x.1 x.2 k:=by kernel_rfl
def HN (x:Val (.pair ŭ Â)) (k:Int→Option ρ) :
    Ĉ (xa ρ) 17 (ÿ [ŭ,Â] x) (fun h v=>Ã (ą [tI] h v) k)=tT x.1 x.2 k:=by kernel_rfl
def Wv (x:Val aP) (k:(Val aE)→Option ρ) :
    Ĉ (O2 ρ) 55 (ÿ [Í,tI,tI] x) (fun h v=>Ã (ą [ae,tI] h v) k)=O3 x.1 x.2.1 x.2.2 k:=by kernel_rfl
def Iq:(vV ρ).Ok (ur ρ):=⟨by kernel_rfl,fun p v kn kx=>by kernel_rfl⟩
def OS (x:Val aM) (k:(Val aE)→Option ρ) :
    Ĉ (ur ρ) 19 (ÿ [Ä,Â,.bool] x) (fun h v=>Ã (ą [ae,tI] h v) k)=CW x.1 x.2.1 x.2.2 k:=by kernel_rfl
def H5:(vN ρ).Ok (tZ ρ):=⟨by kernel_rfl,fun p v kn kx=>by kernel_rfl⟩
def Om (x:Val aV) (k:Bool→Option ρ) :
    Ĉ (tZ ρ) 56 (ÿ [Í,ae] x) (fun h v=>Ã (ą [.bool] h v) k)=CG x.1 x.2 k:=by kernel_rfl
def Cs (x:Val (.pair ŭ ae)) (k:Bool→Option ρ) :
    Ĉ (sd ρ) 20 (ÿ [ŭ,ae] x) (fun h v=>Ã (ą [.bool] h v) k)=oQ x.1 x.2 k:=by kernel_rfl
def w7 (x:Val aM) (k:Bool→Option ρ) :
    Ĉ (oO ρ) 4 (ÿ [Ä,Â,.bool] x) (fun h v=>Ã (ą [.bool] h v) k)=lH x.1 x.2.1 x.2.2 k:=by kernel_rfl
end Go.Proofs.ZzM
end
