/- lemmas -/
import Derived.Test.YthpkdfdacidamaaGreatMdMA
set_option linter.all false
set_option linter.unusedSectionVars false
set_option linter.unusedVariables false
set_option linter.unusedSimpArgs false
noncomputable section
variable {ρ:Type}
set_option maxRecDepth 100000
namespace Go.Proofs.ZzM
open Go Go.Am
def uT:(mK ρ).Ok (ii ρ):=⟨by kernel_rfl,fun p v kn kx=>by kernel_rfl⟩
def uU:(mM ρ).Ok (ii ρ):=⟨by kernel_rfl,fun p v kn kx=>by kernel_rfl⟩
def xv (x:Val (.pair Â (.pair ah aD))) (k:(Val ab)→Option ρ) :
    Ű (ii ρ) 28 [Â,ah,ab,tI] [ab] x k=ml x.1 x.2.1 x.2.2.1 x.2.2.2 k:=by kernel_rfl
def rH:(kM ρ).Ok (œ ρ):=⟨by kernel_rfl,fun p v kn kx=>by kernel_rfl⟩
def rG:(kK ρ).Ok (œ ρ):=⟨by kernel_rfl,fun p v kn kx=>by kernel_rfl⟩
def rE:(kI ρ).Ok (œ ρ):=⟨by kernel_rfl,fun p v kn kx=>by kernel_rfl⟩
def uK (x:Val aJ) (k:Val Ê→Option ρ) :
    Ű (œ ρ) 8 [Â,ah] [Ê] x k=jP x.1 x.2 k:=by kernel_rfl
def sH:(lG ρ).Ok (jD ρ):=⟨by kernel_rfl,fun p v kn kx=>by kernel_rfl⟩
def vQ (x:Val Ê) (k:Bool→Option ρ) :
    Ű (jD ρ) 9 [Ê] [.bool] x k=lh x k:=by kernel_rfl
def V4 (x:Val (.pair Ê Ĥ)) (k:Val Ã→Option ρ) :
    Ű (Qq ρ) 62 [Ê,tI,tI,tI] [tI,tI] x k=Ta x.1 x.2.1 x.2.2.1 x.2.2.2 k:=by kernel_rfl
def uQ:(mH ρ).Ok (ic ρ):=⟨by kernel_rfl,fun p v kn kx=>by kernel_rfl⟩
def uR:(mJ ρ).Ok (ic ρ):=⟨by kernel_rfl,fun p v kn kx=>by kernel_rfl⟩
def xq (x:Val Â) (k:Bool→Option ρ) :
    Ű (ic ρ) 29 [Ê,ai] [.bool] x k=mj x.1 x.2 k:=by kernel_rfl
def vS:(ng ρ).Ok (lm ρ):=⟨by kernel_rfl,fun p v kn kx=>by kernel_rfl⟩
def yU (x:Val (.pair Ê tI)) (k:Int→Option ρ) :
    Ű (lm ρ) 17 [Ê,tI] [tI] x k=nh x.1 x.2 k:=by kernel_rfl
def qu:(jS ρ).Ok (iL ρ):=⟨by kernel_rfl,fun p v kn kx=>by kernel_rfl⟩
def sJ (x:Val (.pair Ù (.pair Ŋ tI))) (k:Int→Option ρ) :
    Ű (iL ρ) 19 [Ù,Ŋ,tI] [tI] x k=jE x.1 x.2.1 x.2.2 k:=by kernel_rfl
def sF:(lD ρ).Ok (jB ρ):=⟨by kernel_rfl,fun p v kn kx=>by kernel_rfl⟩
def vL (x:Val (.pair Ê (.pair ai aD))) (k:(Val (.pair tI (.pair tI .bool)))→Option ρ) :
    Ű (jB ρ) 63 [Ê,ai,ab,tI] [tI,tI,.bool] x k=lf x.1 x.2.1 x.2.2.1 x.2.2.2 k:=by kernel_rfl
def uO (x:Val (.pair Ê (.pair ai (.pair Þ Ĥ)))) (k:Bool→Option ρ) :
    Ű (nf ρ) 30 [Ê,ai,Þ,Ĥ] [.bool] x k=jR x.1 x.2.1 x.2.2.1 x.2.2.2 k:=by kernel_rfl
def uL:(mF ρ).Ok (jQ ρ):=⟨by kernel_rfl,fun p v kn kx=>by kernel_rfl⟩
def xh (x:Val (.pair Ê (.pair ai ak))) (k:Bool→Option ρ) :
    Ű (jQ ρ) 10 [Ê,ai,ak] [.bool] x k=mh x.1 x.2.1 x.2.2 k:=by kernel_rfl
def JV (x:Val aJ) (k:(Val aK)→Option ρ) :
    Ű (CM ρ) 11 [Â,ah] [.bool,tI] x k=zW x.1 x.2 k:=by kernel_rfl
def OB:(Fh ρ).Ok (Bq ρ):=⟨by kernel_rfl,fun p v kn kx=>by kernel_rfl⟩
def OA:(Ff ρ).Ok (Bq ρ):=⟨by kernel_rfl,fun p v kn kx=>by kernel_rfl⟩
def Vb (x:Val (.pair Â ab)) (k:Val Â→Option ρ) :
    Ű (Bq ρ) 33 [Â,ab] [Â] x k=RF x.1 x.2 k:=by kernel_rfl
def HP (x:Val (.pair Â ab)) (k:(Val aK)→Option ρ) :
    Ű (zX ρ) 12 [Â,ab] [.bool,tI] x k=xE x.1 x.2 k:=by kernel_rfl
def PE (x:Val (.pair ab ab)) (k:(Val (.pair ab aD))→Option ρ) :
    Ű (Js ρ) 37 [ab,ab] [ab,ab,tI] x k=Ij x.1 x.2 k:=by kernel_rfl
def DP:(tM ρ).Ok (np ρ):=⟨by kernel_rfl,fun p v kn kx=>by kernel_rfl⟩
def DN:(tJ ρ).Ok (np ρ):=⟨by kernel_rfl,fun p v kn kx=>by kernel_rfl⟩
def HM (x:Val (.pair Â tI)) (k:(Val aK)→Option ρ) :
    Ű (np ρ) 13 [Â,tI] [.bool,tI] x k=xB x.1 x.2 k:=by kernel_rfl
def O0:(Fz ρ).Ok (Bs ρ):=⟨by kernel_rfl,fun p v kn kx=>by kernel_rfl⟩
def OZ:(Fy ρ).Ok (Bs ρ):=⟨by kernel_rfl,fun p v kn kx=>by kernel_rfl⟩
def Vm (x:Val Â) (k:(Val aD)→Option ρ) :
    Ű (Bs ρ) 14 [Â] [ab,tI] x k=R0 x k:=by kernel_rfl
def Yh:(Ql ρ).Ok (HW ρ):=⟨by kernel_rfl,fun p v kn kx=>by kernel_rfl⟩
def Yf:(Qi ρ).Ok (HW ρ):=⟨by kernel_rfl,fun p v kn kx=>by kernel_rfl⟩
def Ye:(Qg ρ).Ok (HW ρ):=⟨by kernel_rfl,fun p v kn kx=>by kernel_rfl⟩
def Yg:(Qk ρ).Ok (HW ρ):=⟨by kernel_rfl,fun p v kn kx=>by kernel_rfl⟩
def adG (x:Val (.pair Ö Ã)) (k:(Val ah)→Option ρ) :
    Ű (HW ρ) 88 [Ö,tI,tI] [ah] x k=Mn x.1 x.2.1 x.2.2 k:=by kernel_rfl
def MA:(C1 ρ).Ok (mr ρ):=⟨by kernel_rfl,fun p v kn kx=>by kernel_rfl⟩
def Mv:(CT ρ).Ok (mr ρ):=⟨by kernel_rfl,fun p v kn kx=>by kernel_rfl⟩
def Mw:(CV ρ).Ok (mr ρ):=⟨by kernel_rfl,fun p v kn kx=>by kernel_rfl⟩
def My:(CX ρ).Ok (mr ρ):=⟨by kernel_rfl,fun p v kn kx=>by kernel_rfl⟩
def Mz:(CZ ρ).Ok (mr ρ):=⟨by kernel_rfl,fun p v kn kx=>by kernel_rfl⟩
def Sl (x:Val Ö) (k:(Val aD)→Option ρ) :
    Ű (mr ρ) 43 [Ö] [ab,tI] x k=FQ x k:=by kernel_rfl
def Mb:(CL ρ).Ok (DQ ρ):=⟨by kernel_rfl,fun p v kn kx=>by kernel_rfl⟩
def RU (x:Val Â) (k:(Val bj)→Option ρ) :
    Ű (DQ ρ) 15 [Â] [ah,tI] x k=Mc x k:=by kernel_rfl
def Ss (x:Val (.pair Ö Ã)) (k:Val Ã→Option ρ) :
    Ű (MD ρ) 172 [Ö,tI,tI] [tI,tI] x k=ME x.1 x.2.1 x.2.2 k:=by kernel_rfl
def FE (x:Val aV) (k:Int→Option ρ) :
    Ű (yF ρ) 136 [aE,tI,tI] [tI] x k=vc x.1 x.2.1 x.2.2 k:=by kernel_rfl
def Mk (x:Val aV) (k:Int→Option ρ) :
    Ű (FF ρ) 137 [aE,Ã] [tI] x k=DR x.1 x.2 k:=by kernel_rfl
def FC (x:Val aV) (k:Int→Option ρ) :
    Ű (yE ρ) 97 [aE,Ã] [tI] x k=uZ x.1 x.2 k:=by kernel_rfl
def Ah (x:Val aV) (k:Int→Option ρ) :
    Ű (rY ρ) 98 [aE,Ã] [tI] x k=oI x.1 x.2 k:=by kernel_rfl
def Af (x:Val aV) (k:Val Ã→Option ρ) :
    Ű (mq ρ) 50 [aE,Ã] [Ã] x k=oH x.1 x.2 k:=by kernel_rfl
def FG:(wn ρ).Ok (vd ρ):=⟨by kernel_rfl,fun p v kn kx=>by kernel_rfl⟩
def J0 (x:Val aM) (k:(Val aL)→Option ρ) :
    Ű (vd ρ) 21 [Ê,Ã] [Ã,tI] x k=Ai x.1 x.2 k:=by kernel_rfl
def iN:(Ŏ ρ).Ok (ê ρ):=⟨by kernel_rfl,fun p v kn kx=>by kernel_rfl⟩
def iM:(Ō ρ).Ok (ê ρ):=⟨by kernel_rfl,fun p v kn kx=>by kernel_rfl⟩
def jc (x:Val (.pair Â (.pair ah (.pair ai (.pair ak (.pair tI Ŋ)))))) (k:Bool→Option ρ) :
    Ű (ê ρ) 3 [Â,ah,ai,ak,tI,tI,ab] [.bool] x k=ħ x.1 x.2.1 x.2.2.1 x.2.2.2.1 x.2.2.2.2.1 x.2.2.2.2.2.1 x.2.2.2.2.2.2 k:=by kernel_rfl
end Go.Proofs.ZzM
end
