/- lemmas -/
import Derived.Test.YtmadligicacpkaaGreatMdMB
set_option linter.all false
set_option linter.unusedSectionVars false
set_option linter.unusedVariables false
set_option linter.unusedSimpArgs false
noncomputable section
variable {ρ:Type}
set_option maxRecDepth 100000
namespace Go.Proofs.ZzM
open Go Go.Am
def Zc (x:Val Â) (k:Int→Option ρ) :
    Ć (Q5 ρ) 207 (ā [Â] x) (fun h v=>Ã (ă [tI] h v) k)=Q6 x k:=by kernel_rfl
def Y2 (x:Val Â) (k:Int→Option ρ) :
    Ć (Q1 ρ) 246 (ā [tI,tI] x) (fun h v=>Ã (ă [tI] h v) k)=Q2 x.1 x.2 k:=by kernel_rfl
def UT (x:Val Â) (k:Int→Option ρ) :
    Ć (Mo ρ) 208 (ā [Â] x) (fun h v=>Ã (ă [tI] h v) k)=Kt x k:=by kernel_rfl
def YK (x:Val aC) (k:Val Â→Option ρ) :
    Ć (Qr ρ) 171 (ā [Ä,Ê] x) (fun h v=>Ã (ă [Â] h v) k)=Qs x.1 x.2 k:=by kernel_rfl
def Uv:(Gm ρ).Ok (t7 ρ):=⟨by kernel_rfl,fun p v kn kx=>by kernel_rfl⟩
def Uw:(Gp ρ).Ok (t7 ρ):=⟨by kernel_rfl,fun p v kn kx=>by kernel_rfl⟩
def Uu:(Gl ρ).Ok (t7 ρ):=⟨by kernel_rfl,fun p v kn kx=>by kernel_rfl⟩
def acN (x:Val Ä) (k:Val xi→Option ρ) :
    Ć (t7 ρ) 103 (ā [Ä] x) (fun h v=>Ã (ă [xi] h v) k)=YI x k:=by kernel_rfl
def NT:(zb ρ).Ok (kT ρ):=⟨by kernel_rfl,fun p v kn kx=>by kernel_rfl⟩
def NR:(y0 ρ).Ok (kT ρ):=⟨by kernel_rfl,fun p v kn kx=>by kernel_rfl⟩
def NS:(za ρ).Ok (kT ρ):=⟨by kernel_rfl,fun p v kn kx=>by kernel_rfl⟩
def NQ:(yZ ρ).Ok (kT ρ):=⟨by kernel_rfl,fun p v kn kx=>by kernel_rfl⟩
def UM (x:Val Ä) (k:Int→Option ρ) :
    Ć (kT ρ) 41 (ā [Ä] x) (fun h v=>Ã (ă [tI] h v) k)=Kl x k:=by kernel_rfl
def Qq (x:Val Ä) (k:Val Ï→Option ρ) :
    Ć (Gq ρ) 43 (ā [Ä] x) (fun h v=>Ã (ă [Ï] h v) k)=Ek x k:=by kernel_rfl
def YP (x:Val aE) (k:(Val aG)→Option ρ) :
    Ć (QF ρ) 53 (ā [Ä,Â] x) (fun h v=>Ã (ă [Ä,tI] h v) k)=QG x.1 x.2 k:=by kernel_rfl
def NZ:(zj ρ).Ok (Τ ρ):=⟨by kernel_rfl,fun p v kn kx=>by kernel_rfl⟩
def N0:(zl ρ).Ok (Τ ρ):=⟨by kernel_rfl,fun p v kn kx=>by kernel_rfl⟩
def NY:(zi ρ).Ok (Τ ρ):=⟨by kernel_rfl,fun p v kn kx=>by kernel_rfl⟩
def NV:(ze ρ).Ok (Τ ρ):=⟨by kernel_rfl,fun p v kn kx=>by kernel_rfl⟩
def NW:(zf ρ).Ok (Τ ρ):=⟨by kernel_rfl,fun p v kn kx=>by kernel_rfl⟩
def NU:(zc ρ).Ok (Τ ρ):=⟨by kernel_rfl,fun p v kn kx=>by kernel_rfl⟩
def NX:(zh ρ).Ok (Τ ρ):=⟨by kernel_rfl,fun p v kn kx=>by kernel_rfl⟩
def UN (x:Val Ï) (k:(Val (.pair am .bool))→Option ρ) :
    Ć (Τ ρ) 54 (ā [Ï] x) (fun h v=>Ã (ă [am,.bool] h v) k)=Km x k:=by kernel_rfl
def Qd:(Ct ρ).Ok (Ee ρ):=⟨by kernel_rfl,fun p v kn kx=>by kernel_rfl⟩
def Yw (x:Val (.pair Ä aa)) (k:Val jk→Option ρ) :
    Ć (Ee ρ) 15 (ā [Ä,aa] x) (fun h v=>Ã (ă [jk] h v) k)=Qe x.1 x.2 k:=by kernel_rfl
def vK (x:Val (.pair jk tI)) (k:Val Â→Option ρ) :
    Ć (nu ρ) 16 (ā [jk,tI] x) (fun h v=>Ã (ă [Â] h v) k)=kH x.1 x.2 k:=by kernel_rfl
def J6 (x:Val (.pair jk Â)) (k:Int→Option ρ) :
    Ć (yH ρ) 17 (ā [jk,Â] x) (fun h v=>Ã (ă [tI] h v) k)=vL x.1 x.2 k:=by kernel_rfl
def UO:(GD ρ).Ok (Kn ρ):=⟨by kernel_rfl,fun p v kn kx=>by kernel_rfl⟩
def acZ (x:Val (.pair Ï au)) (k:(Val aO)→Option ρ) :
    Ć (Kn ρ) 142 (ā [Ï,tI,af] x) (fun h v=>Ã (ă [tI,tI,.bool] h v) k)=Y1 x.1 x.2.1 x.2.2 k:=by kernel_rfl
def Ul (x:Val ö) (k:Bool→Option ρ) :
    Ć (L6 ρ) 70 (ā [ö] x) (fun h v=>Ã (ă [.bool] h v) k)=J8 x k:=by kernel_rfl
def Ge (x:Val ö) (k:Int→Option ρ) :
    Ć (xp ρ) 26 (ā [ö] x) (fun h v=>Ã (ă [tI] h v) k)=sO x k:=by kernel_rfl
def Em:(rC ρ).Ok (pQ ρ):=⟨by kernel_rfl,fun p v kn kx=>by kernel_rfl⟩
def Kg (x:Val aJ) (k:Bool→Option ρ) :
    Ć (pQ ρ) 197 (ā [af,af] x) (fun h v=>Ã (ă [.bool] h v) k)=vQ x.1 x.2 k:=by kernel_rfl
def BT (x:Val (.pair Ê Ê)) (k:Bool→Option ρ) :
    Ć (rD ρ) 143 (ā [Ê,Ê] x) (fun h v=>Ã (ă [.bool] h v) k)=oj x.1 x.2 k:=by kernel_rfl
def BS:(pP ρ).Ok (oi ρ):=⟨by kernel_rfl,fun p v kn kx=>by kernel_rfl⟩
def Gt (x:Val (.pair aa aa)) (k:Bool→Option ρ) :
    Ć (oi ρ) 144 (ā [aa,aa] x) (fun h v=>Ã (ă [.bool] h v) k)=sP x.1 x.2 k:=by kernel_rfl
def Qw:(CJ ρ).Ok (mD ρ):=⟨by kernel_rfl,fun p v kn kx=>by kernel_rfl⟩
def Qv:(CH ρ).Ok (mD ρ):=⟨by kernel_rfl,fun p v kn kx=>by kernel_rfl⟩
def Qu:(CG ρ).Ok (mD ρ):=⟨by kernel_rfl,fun p v kn kx=>by kernel_rfl⟩
def Qt:(CF ρ).Ok (mD ρ):=⟨by kernel_rfl,fun p v kn kx=>by kernel_rfl⟩
def YL (x:Val aU) (k:Bool→Option ρ) :
    Ć (mD ρ) 71 (ā [Ä,Ä] x) (fun h v=>Ã (ă [.bool] h v) k)=Qx x.1 x.2 k:=by kernel_rfl
def Ew:(rK ρ).Ok (pR ρ):=⟨by kernel_rfl,fun p v kn kx=>by kernel_rfl⟩
def Ko (x:Val aJ) (k:Bool→Option ρ) :
    Ć (pR ρ) 72 (ā [af,af] x) (fun h v=>Ã (ă [.bool] h v) k)=vT x.1 x.2 k:=by kernel_rfl
def J5 (x:Val (.pair ö ö)) (k:Bool→Option ρ) :
    Ć (yG ρ) 27 (ā [ö,ö] x) (fun h v=>Ã (ă [.bool] h v) k)=vJ x.1 x.2 k:=by kernel_rfl
def Nz:(yE ρ).Ok (yF ρ):=⟨by kernel_rfl,fun p v kn kx=>by kernel_rfl⟩
def Ug (x:Val (.pair Ä Ð)) (k:Bool→Option ρ) :
    Ć (yF ρ) 73 (ā [Ä,Ð] x) (fun h v=>Ã (ă [.bool] h v) k)=J4 x.1 x.2 k:=by kernel_rfl
def BQ (x:Val (.pair Ê Ê)) (k:Bool→Option ρ) :
    Ć (re ρ) 74 (ā [Ê,Ê] x) (fun h v=>Ã (ă [.bool] h v) k)=oh x.1 x.2 k:=by kernel_rfl
def Ny:(yC ρ).Ok (yD ρ):=⟨by kernel_rfl,fun p v kn kx=>by kernel_rfl⟩
def Uf (x:Val aG) (k:Bool→Option ρ) :
    Ć (yD ρ) 145 (ā [Ä,tI] x) (fun h v=>Ã (ă [.bool] h v) k)=J3 x.1 x.2 k:=by kernel_rfl
def P4:(Cm ρ).Ok (mC ρ):=⟨by kernel_rfl,fun p v kn kx=>by kernel_rfl⟩
def P5:(Cn ρ).Ok (mC ρ):=⟨by kernel_rfl,fun p v kn kx=>by kernel_rfl⟩
def P2:(Ck ρ).Ok (mC ρ):=⟨by kernel_rfl,fun p v kn kx=>by kernel_rfl⟩
def P3:(Cl ρ).Ok (mC ρ):=⟨by kernel_rfl,fun p v kn kx=>by kernel_rfl⟩
def Ys (x:Val (.pair Ä aU)) (k:Bool→Option ρ) :
    Ć (mC ρ) 75 (ā [Ä,Ä,Ä] x) (fun h v=>Ã (ă [.bool] h v) k)=P6 x.1 x.2.1 x.2.2 k:=by kernel_rfl
def Qb:(Cs ρ).Ok (pN ρ):=⟨by kernel_rfl,fun p v kn kx=>by kernel_rfl⟩
def P9:(Cq ρ).Ok (pN ρ):=⟨by kernel_rfl,fun p v kn kx=>by kernel_rfl⟩
def Qa:(Cr ρ).Ok (pN ρ):=⟨by kernel_rfl,fun p v kn kx=>by kernel_rfl⟩
def Yv (x:Val aU) (k:Bool→Option ρ) :
    Ć (pN ρ) 28 (ā [Ä,Ä] x) (fun h v=>Ã (ă [.bool] h v) k)=Qc x.1 x.2 k:=by kernel_rfl
def Yr (x:Val bg) (k:Val ö→Option ρ) :
    Ć (P0 ρ) 29 (ā [ö,(.int .u8),tI] x) (fun h v=>Ã (ă [ö] h v) k)=P1 x.1 x.2.1 x.2.2 k:=by kernel_rfl
def Ec (x:Val (.pair Ä (.pair Â (.pair .bool bg)))) (k:Bool→Option ρ) :
    Ć (tT ρ) 6 (ā [Ä,Â,.bool,ö,(.int .u8),tI] x) (fun h v=>Ã (ă [.bool] h v) k)=pM x.1 x.2.1 x.2.2.1 x.2.2.2.1 x.2.2.2.2.1 x.2.2.2.2.2 k:=by kernel_rfl
end Go.Proofs.ZzM
end
