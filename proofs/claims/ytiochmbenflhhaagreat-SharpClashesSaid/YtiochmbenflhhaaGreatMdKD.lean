/- lemmas -/
import Derived.Test.YtiochmbenflhhaaGreatMdMA
set_option linter.all false
set_option linter.unusedSectionVars false
set_option linter.unusedVariables false
set_option linter.unusedSimpArgs false
noncomputable section
variable {ρ:Type}
set_option maxRecDepth 100000
namespace Go.Proofs.ZzM
open Go Go.Am
def VH (x:Val å) (k:Bool→Option ρ) :
    Ă (LY ρ) 109 [Â,tI,tI] [.bool] x k=Kx x.1 x.2.1 x.2.2 k:=by kernel_rfl
def Vs (x:Val Ĉ) (k:Bool→Option ρ) :
    Ă (LX ρ) 144 [tI,tI,tI] [.bool] x k=Ko x.1 x.2.1 x.2.2 k:=by kernel_rfl
def aaH (x:Val tI) (k:Bool→Option ρ) :
    Ă (RL ρ) 176 [tI] [.bool] x k=RM x k:=by kernel_rfl
def aeq (x:Val tI) (k:Int→Option ρ) :
    Ă (WX ρ) 249 [tI] [(.int .u64)] x k=aai x k:=by kernel_rfl
def aaj:(LU ρ).Ok (Rp ρ):=⟨by kernel_rfl,fun p v kn kx=>by kernel_rfl⟩
def ahc (x:Val bn) (k:Int→Option ρ) :
    Ă (Rp ρ) 250 [(.int .u64),(.int .u64)] [(.int .u64)] x k=ahd x.1 x.2 k:=by kernel_rfl
def aan (x:Val Â) (k:Bool→Option ρ) :
    Ă (Rr ρ) 218 [Â] [.bool] x k=Rs x k:=by kernel_rfl
def RK (x:Val Ï) (k:Bool→Option ρ) :
    Ă (Hk ρ) 174 [Ï] [.bool] x k=Er x k:=by kernel_rfl
def zV:(oI ρ).Ok (m6 ρ):=⟨by kernel_rfl,fun p v kn kx=>by kernel_rfl⟩
def Ew (x:Val Ã) (k:Int→Option ρ) :
    Ă (m6 ρ) 110 [Ã] [tI] x k=qu x k:=by kernel_rfl
def Kq:(xH ρ).Ok (wg ρ):=⟨by kernel_rfl,fun p v kn kx=>by kernel_rfl⟩
def RB (x:Val Ã) (k:(Val au)→Option ρ) :
    Ă (wg ρ) 111 [Ã] [au] x k=En x k:=by kernel_rfl
def vx:(mC ρ).Ok (kR ρ):=⟨by kernel_rfl,fun p v kn kx=>by kernel_rfl⟩
def yw (x:Val aL) (k:Int→Option ρ) :
    Ă (kR ρ) 116 [ae,tI] [tI] x k=mM x.1 x.2 k:=by kernel_rfl
def tY (x:Val aL) (k:Bool→Option ρ) :
    Ă (mD ρ) 49 [ae,tI] [.bool] x k=j4 x.1 x.2 k:=by kernel_rfl
def VL:(Hn ρ).Ok (A1 ρ):=⟨by kernel_rfl,fun p v kn kx=>by kernel_rfl⟩
def VK:(Hl ρ).Ok (A1 ρ):=⟨by kernel_rfl,fun p v kn kx=>by kernel_rfl⟩
def aeP (x:Val (.pair Ã Ï)) (k:(Val ae)→Option ρ) :
    Ă (A1 ρ) 181 [Ã,Ï] [ae] x k=aaM x.1 x.2 k:=by kernel_rfl
def RE:(C8 ρ).Ok (wj ρ):=⟨by kernel_rfl,fun p v kn kx=>by kernel_rfl⟩
def RF:(Da ρ).Ok (wj ρ):=⟨by kernel_rfl,fun p v kn kx=>by kernel_rfl⟩
def aaz (x:Val Ã) (k:(Val aa)→Option ρ) :
    Ă (wj ρ) 113 [Ã] [aa] x k=RG x k:=by kernel_rfl
def G3 (x:Val (.pair au Â)) (k:Int→Option ρ) :
    Ă (xI ρ) 177 [au,tI,tI] [tI] x k=tg x.1 x.2.1 x.2.2 k:=by kernel_rfl
def RD (x:Val (.pair tI (.pair tI (.ptr au)))) (k:Int→Option ρ) :
    Ă (G4 ρ) 175 [tI,tI,(.ptr au)] [tI] x k=Ep x.1 x.2.1 x.2.2 k:=by kernel_rfl
def Et:(sl ρ).Ok (l6 ρ):=⟨by kernel_rfl,fun p v kn kx=>by kernel_rfl⟩
def Es:(sj ρ).Ok (l6 ρ):=⟨by kernel_rfl,fun p v kn kx=>by kernel_rfl⟩
def KA (x:Val bo) (k:Int→Option ρ) :
    Ă (l6 ρ) 179 [Ã,au,tI] [tI] x k=wx x.1 x.2.1 x.2.2 k:=by kernel_rfl
def t7:(lO ρ).Ok (ψ ρ):=⟨by kernel_rfl,fun p v kn kx=>by kernel_rfl⟩
def tZ:(lN ρ).Ok (ψ ρ):=⟨by kernel_rfl,fun p v kn kx=>by kernel_rfl⟩
def xO (x:Val ak) (k:(Val ae)→Option ρ) :
    Ă (ψ ρ) 100 [ak] [ae] x k=jl x k:=by kernel_rfl
def NA:(zT ρ).Ok (zU ρ):=⟨by kernel_rfl,fun p v kn kx=>by kernel_rfl⟩
def VE (x:Val ae) (k:Bool→Option ρ) :
    Ă (zU ρ) 182 [ae] [.bool] x k=Kw x k:=by kernel_rfl
def VC:(Hj ρ).Ok (A0 ρ):=⟨by kernel_rfl,fun p v kn kx=>by kernel_rfl⟩
def VB:(Hg ρ).Ok (A0 ρ):=⟨by kernel_rfl,fun p v kn kx=>by kernel_rfl⟩
def aeL (x:Val aO) (k:(Val ae)→Option ρ) :
    Ă (A0 ρ) 183 [ae,ae] [ae] x k=aaE x.1 x.2 k:=by kernel_rfl
def VM:(Hq ρ).Ok (KB ρ):=⟨by kernel_rfl,fun p v kn kx=>by kernel_rfl⟩
def aeR (x:Val aG) (k:(Val bj)→Option ρ) :
    Ă (KB ρ) 222 [Ã,tI,tI] [Ń,.bool] x k=aaN x.1 x.2.1 x.2.2 k:=by kernel_rfl
def xS:(nY ρ).Ok (Ŕ ρ):=⟨by kernel_rfl,fun p v kn kx=>by kernel_rfl⟩
def xQ:(nT ρ).Ok (Ŕ ρ):=⟨by kernel_rfl,fun p v kn kx=>by kernel_rfl⟩
def xR:(nW ρ).Ok (Ŕ ρ):=⟨by kernel_rfl,fun p v kn kx=>by kernel_rfl⟩
def xP:(nR ρ).Ok (Ŕ ρ):=⟨by kernel_rfl,fun p v kn kx=>by kernel_rfl⟩
def BV (x:Val bo) (k:Int→Option ρ) :
    Ă (Ŕ ρ) 180 [Ã,au,tI] [tI] x k=oC x.1 x.2.1 x.2.2 k:=by kernel_rfl
def ZR:(LO ρ).Ok (Ű ρ):=⟨by kernel_rfl,fun p v kn kx=>by kernel_rfl⟩
def ZS:(LP ρ).Ok (Ű ρ):=⟨by kernel_rfl,fun p v kn kx=>by kernel_rfl⟩
def ZQ:(LN ρ).Ok (Ű ρ):=⟨by kernel_rfl,fun p v kn kx=>by kernel_rfl⟩
def ZO:(rY ρ).Ok (Ű ρ):=⟨by kernel_rfl,fun p v kn kx=>by kernel_rfl⟩
def ZN:(rX ρ).Ok (Ű ρ):=⟨by kernel_rfl,fun p v kn kx=>by kernel_rfl⟩
def ZM:(rW ρ).Ok (Ű ρ):=⟨by kernel_rfl,fun p v kn kx=>by kernel_rfl⟩
def ag1 (x:Val (.pair Ã (.pair aa aa))) (kA:Val aX→Val aj→Option ρ):goC (Ű ρ) (ks (Ű ρ) 10) 79 [] 0 0 (preC 7 Ğ) {t:=aft [Ã,aa,aa] x++List.replicate 127 .any,h:=[]} (matK uf 0 jc m5 kA)=Gu x.1 x.2.1 x.2.2 kA:=by kernel_rfl
def akx (p:Val aX) (v:Val aj) (x:Val Ï) (kk:Val aX→Val (.pair tI (.pair tI (.pair ac (.pair aa (.pair af (.pair ab (.pair aa (.pair tI (.pair tI (.pair ac (.pair aa (.pair af (.pair ab (.pair aa (.pair tI (.pair tI (.pair ac (.pair aa (.pair af (.pair ab (.pair aa (.pair am (.pair am (.pair ac ar))))))))))))))))))))))))→Option ρ):goC (ę ρ) (ks (ę ρ) 10) 79 [] 9 4 (rfA (rfC 7 Ğ)) {t:=upd (jp uf jc m5 p v).t 60 (.agg (flat Ï x)),h:=(jp uf jc m5 p v).h} (matK QQ 9 jc AR kk)=kk p (Eb v x):=by kernel_rfl
def akw (p:Val aX) (v:Val aj) (x:Val Ï) (kk:Val aX→Val aj→Option ρ):goC (ę ρ) (ks (ę ρ) 10) 79 [] 9 4 (rfB (rfC 7 Ğ)) (jp QQ jc AR p (Eb v x)) (matK uf 9 jc m5 kk)=è (ã ((List.length (vQ v))+(List.length [x]))) (kk p (ĝ v (vQ v++[x]))):=by kernel_rfl
def ad3 (p:Val aX) (v:Val aj) (k:Val ai→Option ρ):goC (ę ρ) (ks (ę ρ) 10) 79 [] 0 0 (postC 7 Ğ) (jp uf jc m5 p v) (matR qq 0 jO k)=nO p v (fun y=>k (lp y)):=by kernel_rfl
def ag0 (y:Val Ã):pQ Tryz.prog Tryz.f79 (jp qq [] jO () (lp y))=some (enc Ã y):=by kernel_rfl
def akv:rfC 7 Ğ=Code.block 4 (Code.rangeFunc (.tmp 59) #[60] (rfA (rfC 7 Ğ)) (rfB (rfC 7 Ğ))):=by kernel_rfl
def Gt:XR 7 Ğ=true:=by kernel_rfl
def rV:Tryz.f79.body=some Ğ:=by kernel_rfl
def Va:(rY ρ).Ok (ę ρ):=⟨by kernel_rfl,fun p v kn kx=>by kernel_rfl⟩
def U9:(rX ρ).Ok (ę ρ):=⟨by kernel_rfl,fun p v kn kx=>by kernel_rfl⟩
def U8:(rW ρ).Ok (ę ρ):=⟨by kernel_rfl,fun p v kn kx=>by kernel_rfl⟩
end Go.Proofs.ZzM
end
