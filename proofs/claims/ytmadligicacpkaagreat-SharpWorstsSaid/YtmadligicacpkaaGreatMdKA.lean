/- lemmas -/
import Derived.Test.YtmadligicacpkaaGreatMdMA
set_option linter.all false
set_option linter.unusedSectionVars false
set_option linter.unusedVariables false
set_option linter.unusedSimpArgs false
noncomputable section
variable {ρ:Type}
set_option maxRecDepth 100000
namespace Go.Proofs.ZzM
open Go Go.Am
def Yp (x:Val Ä) (k:Int→Option ρ) :
    ċ (QA ρ) 207 (ą [Ä] x) (fun h v=>Ã (Ċ [tI] h v) k)=QB x k:=by kernel_rfl
def Yf (x:Val Ä) (k:Int→Option ρ) :
    ċ (Qw ρ) 246 (ą [tI,tI] x) (fun h v=>Ã (Ċ [tI] h v) k)=Qx x.1 x.2 k:=by kernel_rfl
def T8 (x:Val Ä) (k:Int→Option ρ) :
    ċ (L3 ρ) 208 (ą [Ä] x) (fun h v=>Ã (Ċ [tI] h v) k)=JZ x k:=by kernel_rfl
def XZ (x:Val aB) (k:Val Ä→Option ρ) :
    ċ (PX ρ) 171 (ą [Å,Ê] x) (fun h v=>Ã (Ċ [Ä] h v) k)=F9 x.1 x.2 k:=by kernel_rfl
def TL:(F5 ρ).Ok (uh ρ):=⟨by kernel_rfl,fun p v kn kx=>by kernel_rfl⟩
def TM:(F6 ρ).Ok (uh ρ):=⟨by kernel_rfl,fun p v kn kx=>by kernel_rfl⟩
def TK:(F4 ρ).Ok (uh ρ):=⟨by kernel_rfl,fun p v kn kx=>by kernel_rfl⟩
def abH (x:Val Å) (k:Val xl→Option ρ) :
    ċ (uh ρ) 103 (ą [Å] x) (fun h v=>Ã (Ċ [xl] h v) k)=Ot x k:=by kernel_rfl
def Nt:(za ρ).Ok (kX ρ):=⟨by kernel_rfl,fun p v kn kx=>by kernel_rfl⟩
def Nr:(yZ ρ).Ok (kX ρ):=⟨by kernel_rfl,fun p v kn kx=>by kernel_rfl⟩
def Ns:(y0 ρ).Ok (kX ρ):=⟨by kernel_rfl,fun p v kn kx=>by kernel_rfl⟩
def Nq:(yY ρ).Ok (kX ρ):=⟨by kernel_rfl,fun p v kn kx=>by kernel_rfl⟩
def T1 (x:Val Å) (k:Int→Option ρ) :
    ċ (kX ρ) 41 (ą [Å] x) (fun h v=>Ã (Ċ [tI] h v) k)=JR x k:=by kernel_rfl
def PW (x:Val Å) (k:Val Ñ→Option ρ) :
    ċ (F7 ρ) 43 (ą [Å] x) (fun h v=>Ã (Ċ [Ñ] h v) k)=vQ x k:=by kernel_rfl
def X4 (x:Val aE) (k:(Val aH)→Option ρ) :
    ċ (P9 ρ) 53 (ą [Å,Ä] x) (fun h v=>Ã (Ċ [Å,tI] h v) k)=Qa x.1 x.2 k:=by kernel_rfl
def NC:(zj ρ).Ok (θ ρ):=⟨by kernel_rfl,fun p v kn kx=>by kernel_rfl⟩
def ND:(zl ρ).Ok (θ ρ):=⟨by kernel_rfl,fun p v kn kx=>by kernel_rfl⟩
def NB:(zi ρ).Ok (θ ρ):=⟨by kernel_rfl,fun p v kn kx=>by kernel_rfl⟩
def Ny:(ze ρ).Ok (θ ρ):=⟨by kernel_rfl,fun p v kn kx=>by kernel_rfl⟩
def Nz:(zf ρ).Ok (θ ρ):=⟨by kernel_rfl,fun p v kn kx=>by kernel_rfl⟩
def Nx:(zc ρ).Ok (θ ρ):=⟨by kernel_rfl,fun p v kn kx=>by kernel_rfl⟩
def NA:(zh ρ).Ok (θ ρ):=⟨by kernel_rfl,fun p v kn kx=>by kernel_rfl⟩
def T3 (x:Val Ñ) (k:(Val (.pair am .bool))→Option ρ) :
    ċ (θ ρ) 54 (ą [Ñ] x) (fun h v=>Ã (Ċ [am,.bool] h v) k)=JV x k:=by kernel_rfl
def PF:(Ck ρ).Ok (D4 ρ):=⟨by kernel_rfl,fun p v kn kx=>by kernel_rfl⟩
def XJ (x:Val (.pair Å aa)) (k:Val qk→Option ρ) :
    ċ (D4 ρ) 15 (ą [Å,aa] x) (fun h v=>Ã (Ċ [qk] h v) k)=PG x.1 x.2 k:=by kernel_rfl
def Uz:(He ρ).Ok (uF ρ):=⟨by kernel_rfl,fun p v kn kx=>by kernel_rfl⟩
def Uy:(Hb ρ).Ok (uF ρ):=⟨by kernel_rfl,fun p v kn kx=>by kernel_rfl⟩
def Ux:(Ha ρ).Ok (uF ρ):=⟨by kernel_rfl,fun p v kn kx=>by kernel_rfl⟩
def acj (x:Val (.pair Å (.pair Ä ab))) (k:Val Ä→Option ρ) :
    ċ (uF ρ) 32 (ą [Å,Ä,ab] x) (fun h v=>Ã (Ċ [tI,tI] h v) k)=A9 x.1 x.2.1 x.2.2 k:=by kernel_rfl
def XN (x:Val aB) (k:Val Å→Option ρ) :
    ċ (PL ρ) 156 (ą [Å,Ê] x) (fun h v=>Ã (Ċ [Å] h v) k)=FX x.1 x.2 k:=by kernel_rfl
def XS (x:Val aB) (k:(Val aH)→Option ρ) :
    ċ (PS ρ) 89 (ą [Å,Ê] x) (fun h v=>Ã (Ċ [Å,tI] h v) k)=PT x.1 x.2 k:=by kernel_rfl
def P1:(Cz ρ).Ok (vR ρ):=⟨by kernel_rfl,fun p v kn kx=>by kernel_rfl⟩
def P2:(CA ρ).Ok (vR ρ):=⟨by kernel_rfl,fun p v kn kx=>by kernel_rfl⟩
def X1 (x:Val Ñ) (k:Bool→Option ρ) :
    ċ (vR ρ) 157 (ą [Ñ] x) (fun h v=>Ã (Ċ [.bool] h v) k)=P3 x k:=by kernel_rfl
def TP (x:Val (.pair Å (.pair Ê tI))) (k:Val Ä→Option ρ) :
    ċ (LR ρ) 159 (ą [Å,Ê,tI] x) (fun h v=>Ã (Ċ [Ä] h v) k)=JM x.1 x.2.1 x.2.2 k:=by kernel_rfl
def JU:(xw ρ).Ok (lO ρ):=⟨by kernel_rfl,fun p v kn kx=>by kernel_rfl⟩
def JS:(xu ρ).Ok (lO ρ):=⟨by kernel_rfl,fun p v kn kx=>by kernel_rfl⟩
def JT:(xv ρ).Ok (lO ρ):=⟨by kernel_rfl,fun p v kn kx=>by kernel_rfl⟩
def Qo (x:Val (.pair Ñ tI)) (k:(Val ae)→Option ρ) :
    ċ (lO ρ) 160 (ą [Ñ,tI] x) (fun h v=>Ã (Ċ [ae] h v) k)=Eg x.1 x.2 k:=by kernel_rfl
def Nh (x:Val aB) (k:Val Ļ→Option ρ) :
    ċ (Cx ρ) 90 (ą [Å,Ê] x) (fun h v=>Ã (Ċ [Ä,tI] h v) k)=yL x.1 x.2 k:=by kernel_rfl
def M9 (x:Val (.pair qk aJ)) (k:Val Ŧ→Option ρ) :
    ċ (Cl ρ) 36 (ą [qk,Ä,Ê] x) (fun h v=>Ã (Ċ [Ŧ] h v) k)=yF x.1 x.2.1 x.2.2 k:=by kernel_rfl
def TA (x:Val (.pair Å aJ)) (k:Val Ŧ→Option ρ) :
    ċ (LJ ρ) 33 (ą [Å,Ä,Ê] x) (fun h v=>Ã (Ċ [Ŧ] h v) k)=JF x.1 x.2.1 x.2.2 k:=by kernel_rfl
def BT (x:Val Ŧ) (k:Val Ä→Option ρ) :
    ċ (rH ρ) 152 (ą [ŧ,tI] x) (fun h v=>Ã (Ċ [Ä] h v) k)=oK x.1 x.2 k:=by kernel_rfl
def yE (x:Val Ŧ) (k:Int→Option ρ) :
    ċ (qv ρ) 80 (ą [ŧ,tI] x) (fun h v=>Ã (Ċ [tI] h v) k)=mN x.1 x.2 k:=by kernel_rfl
def vN:(mw ρ).Ok (kK ρ):=⟨by kernel_rfl,fun p v kn kx=>by kernel_rfl⟩
def yD (x:Val ŧ) (k:Int→Option ρ) :
    ċ (kK ρ) 34 (ą [ŧ] x) (fun h v=>Ã (Ċ [tI] h v) k)=mM x k:=by kernel_rfl
def xY:(nJ ρ).Ok (jl ρ):=⟨by kernel_rfl,fun p v kn kx=>by kernel_rfl⟩
def xX:(nH ρ).Ok (jl ρ):=⟨by kernel_rfl,fun p v kn kx=>by kernel_rfl⟩
def BO (x:Val (.pair Å (.pair Ä (.pair Ê ab)))) (k:Bool→Option ρ) :
    ċ (jl ρ) 7 (ą [Å,Ä,Ê,ab] x) (fun h v=>Ã (Ċ [.bool] h v) k)=oI x.1 x.2.1 x.2.2.1 x.2.2.2 k:=by kernel_rfl
end Go.Proofs.ZzM
end
