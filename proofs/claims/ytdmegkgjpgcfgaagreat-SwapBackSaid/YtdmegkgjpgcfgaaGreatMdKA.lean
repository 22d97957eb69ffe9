/- lemmas -/
import Derived.Test.YtdmegkgjpgcfgaaGreatMdMA
set_option linter.all false
set_option linter.unusedSectionVars false
set_option linter.unusedVariables false
set_option linter.unusedSimpArgs false
noncomputable section
variable {ρ:Type}
set_option maxRecDepth 100000
namespace Go.Proofs.ZzM
open Go Go.Am
def HX:(xu ρ).Ok (iM ρ):=⟨by kernel_rfl,fun p v kn kx=>by kernel_rfl⟩
def HW:(xq ρ).Ok (iM ρ):=⟨by kernel_rfl,fun p v kn kx=>by kernel_rfl⟩
def HV:(xo ρ).Ok (iM ρ):=⟨by kernel_rfl,fun p v kn kx=>by kernel_rfl⟩
def HT:(xl ρ).Ok (iM ρ):=⟨by kernel_rfl,fun p v kn kx=>by kernel_rfl⟩
def HU:(xn ρ).Ok (iM ρ):=⟨by kernel_rfl,fun p v kn kx=>by kernel_rfl⟩
def Ni (x:Val (.pair Í (.pair ao tI))) (k:(Val ab)→Option ρ) :
    ŗ (iM ρ) 134 [Í,ao,tI] [ab] x k=FF x.1 x.2.1 x.2.2 k:=by kernel_rfl
def Kn:(Ag ρ).Ok (uE ρ):=⟨by kernel_rfl,fun p v kn kx=>by kernel_rfl⟩
def Km:(Af ρ).Ok (uE ρ):=⟨by kernel_rfl,fun p v kn kx=>by kernel_rfl⟩
def QF (x:Val Í) (k:(Val bg)→Option ρ) :
    ŗ (uE ρ) 185 [Í] [aa,tI] x k=Ko x k:=by kernel_rfl
def ML (x:Val aK) (k:Val B7→Option ρ) :
    ŗ (GP ρ) 106 [É,Ä] [Ä,tI] x k=Fg x.1 x.2 k:=by kernel_rfl
def HL:(xd ρ).Ok (qK ρ):=⟨by kernel_rfl,fun p v kn kx=>by kernel_rfl⟩
def HK:(xb ρ).Ok (qK ρ):=⟨by kernel_rfl,fun p v kn kx=>by kernel_rfl⟩
def M5 (x:Val aZ) (k:(Val (.pair ak tI))→Option ρ) :
    ŗ (qK ρ) 42 [Â,tI,tI] [ak,tI] x k=Fu x.1 x.2.1 x.2.2 k:=by kernel_rfl
def HA:(((ġ (Ζ ρ).P 298).elim [] (Ü 0)).filter fun y=>Nat.beq y.1 0).length=1:=by kernel_rfl
def JF:Pz (lC (ġ (Ζ ρ).P 298) 0)=true:=by kernel_rfl
def JD (p:Val ah) (v v':Val ab):(ô jp [tI,tI,ae,aa,af,ac,aa,ai] [ab] p v').t=(ô jp [tI,tI,ae,aa,af,ac,aa,ai] [ab] p v).t:=by kernel_rfl
def JE (p:Val ah) (v:Val ab):(ô jp [tI,tI,ae,aa,af,ac,aa,ai] [ab] p v).t.all (st3 3)=true:=by kernel_rfl
def HB (p:Val ah) (v:Val ab) (y:Int) (kn:Val ah→Val ab→Option ρ):zA (Ζ ρ) (ŧ (Ζ ρ) (10-6 / 2)) 298 [7,8,1,1,1,1] 3 0 (lC (ġ (Ζ ρ).P 298) 0) (ô jp [tI,tI,ae,aa,af,ac,aa,ai] [ab] p v) (enc tI y) ((mn ρ).back kn)=(mn ρ).bF p v y (kn p):=by kernel_rfl
def JG (hit:jB Tryz.prog DW):(mn ρ).Ok (Ζ ρ):=⟨HA,hit,JD,JE,HB⟩
def JH:(zM ρ).Ok (Ζ ρ):=⟨by kernel_rfl,fun p v kn kx=>by kernel_rfl⟩
def P8 (x:Val aG) (k:Bool→Option ρ) :
    ŗ (Ζ ρ) 154 [Â,ag] [.bool] x k=JI x.1 x.2 k:=by kernel_rfl
def Qg (x:Val aG) (k:Int→Option ρ) :
    ŗ (JW ρ) 78 [Â,ag] [tI] x k=JX x.1 x.2 k:=by kernel_rfl
def Wx (x:Val aP) (k:Val Ä→Option ρ) :
    ŗ (TR ρ) 49 [Â,ag,tI,tI] [tI,tI] x k=Wy x.1 x.2.1 x.2.2.1 x.2.2.2 k:=by kernel_rfl
def WL:(OO ρ).Ok (FE ρ):=⟨by kernel_rfl,fun p v kn kx=>by kernel_rfl⟩
def WJ:(OJ ρ).Ok (FE ρ):=⟨by kernel_rfl,fun p v kn kx=>by kernel_rfl⟩
def WI:(OH ρ).Ok (FE ρ):=⟨by kernel_rfl,fun p v kn kx=>by kernel_rfl⟩
def WK:(OM ρ).Ok (FE ρ):=⟨by kernel_rfl,fun p v kn kx=>by kernel_rfl⟩
def aca (x:Val (.pair Í Ä)) (k:(Val ag)→Option ρ) :
    ŗ (FE ρ) 128 [Í,tI,tI] [ag] x k=Ki x.1 x.2.1 x.2.2 k:=by kernel_rfl
def Ku:(Ar ρ).Ok (jR ρ):=⟨by kernel_rfl,fun p v kn kx=>by kernel_rfl⟩
def Kq:(Ah ρ).Ok (jR ρ):=⟨by kernel_rfl,fun p v kn kx=>by kernel_rfl⟩
def Kr:(Aj ρ).Ok (jR ρ):=⟨by kernel_rfl,fun p v kn kx=>by kernel_rfl⟩
def Ks:(Al ρ).Ok (jR ρ):=⟨by kernel_rfl,fun p v kn kx=>by kernel_rfl⟩
def Kt:(Ap ρ).Ok (jR ρ):=⟨by kernel_rfl,fun p v kn kx=>by kernel_rfl⟩
def QH (x:Val Í) (k:(Val ay)→Option ρ) :
    ŗ (jR ρ) 64 [Í] [ab,tI] x k=Di x k:=by kernel_rfl
def JZ:(zX ρ).Ok (Bn ρ):=⟨by kernel_rfl,fun p v kn kx=>by kernel_rfl⟩
def Qk (x:Val Â) (k:(Val bc)→Option ρ) :
    ŗ (Bn ρ) 59 [Â] [ag,tI] x k=J0 x k:=by kernel_rfl
def FD:(vE ρ).Ok (uA ρ):=⟨by kernel_rfl,fun p v kn kx=>by kernel_rfl⟩
def Kh (x:Val bm) (k:Int→Option ρ) :
    ŗ (uA ρ) 188 [Í,ab] [tI] x k=Br x.1 x.2 k:=by kernel_rfl
def Nf:(C7 ρ).Ok (FA ρ):=⟨by kernel_rfl,fun p v kn kx=>by kernel_rfl⟩
def T3 (x:Val (.pair Í ŋ)) (k:(Val (.pair tI (.pair tI .bool)))→Option ρ) :
    ŗ (FA ρ) 189 [Í,tI,ab] [tI,tI,.bool] x k=Qy x.1 x.2.1 x.2.2 k:=by kernel_rfl
def Dk (x:Val bm) (k:Int→Option ρ) :
    ŗ (vG ρ) 122 [Í,ab] [tI] x k=rR x.1 x.2 k:=by kernel_rfl
def zh:(pe ρ).Ok (nu ρ):=⟨by kernel_rfl,fun p v kn kx=>by kernel_rfl⟩
def C2 (x:Val aG) (k:Int→Option ρ) :
    ŗ (nu ρ) 60 [Â,ag] [tI] x k=rL x.1 x.2 k:=by kernel_rfl
def Hu (x:Val ac) (k:Val Â→Option ρ) :
    ŗ (zJ ρ) 77 [ac] [Â] x k=GK x k:=by kernel_rfl
def Js (x:Unit) (k:Bool→Option ρ) :
    ŗ (Cw ρ) 17 [] [.bool] x k=A3 k:=by kernel_rfl
def Ft (x:Val aG) (k:(Val (.pair É tI))→Option ρ) :
    ŗ (wZ ρ) 41 [Â,ag] [É,tI] x k=uh x.1 x.2 k:=by kernel_rfl
def MZ (x:Val aG) (k:Val Ä→Option ρ) :
    ŗ (GS ρ) 48 [Â,ag] [tI,tI] x k=Fq x.1 x.2 k:=by kernel_rfl
def JU:(zV ρ).Ok (Bk ρ):=⟨by kernel_rfl,fun p v kn kx=>by kernel_rfl⟩
def Qe (x:Val (.pair Â bc)) (k:(Val aI)→Option ρ) :
    ŗ (Bk ρ) 117 [Â,ag,tI] [aI] x k=JV x.1 x.2.1 x.2.2 k:=by kernel_rfl
def Qo (x:Val aP) (k:Val Ä→Option ρ) :
    ŗ (J3 ρ) 50 [Â,ag,tI,tI] [tI,tI] x k=J4 x.1 x.2.1 x.2.2.1 x.2.2.2 k:=by kernel_rfl
def zl (x:Val (.pair Ö Ö)) (k:Bool→Option ρ) :
    ŗ (qR ρ) 118 [Ö,Ö] [.bool] x k=nE x.1 x.2 k:=by kernel_rfl
def zj:(pu ρ).Ok (nD ρ):=⟨by kernel_rfl,fun p v kn kx=>by kernel_rfl⟩
def C5 (x:Val (.pair aa aa)) (k:Bool→Option ρ) :
    ŗ (nD ρ) 119 [aa,aa] [.bool] x k=rP x.1 x.2 k:=by kernel_rfl
def Kc:(Ad ρ).Ok (lW ρ):=⟨by kernel_rfl,fun p v kn kx=>by kernel_rfl⟩
def Kb:(Ac ρ).Ok (lW ρ):=⟨by kernel_rfl,fun p v kn kx=>by kernel_rfl⟩
def Ka:(Ab ρ).Ok (lW ρ):=⟨by kernel_rfl,fun p v kn kx=>by kernel_rfl⟩
def J9:(Aa ρ).Ok (lW ρ):=⟨by kernel_rfl,fun p v kn kx=>by kernel_rfl⟩
def Qw (x:Val (.pair É É)) (k:Bool→Option ρ) :
    ŗ (lW ρ) 51 [É,É] [.bool] x k=Kd x.1 x.2 k:=by kernel_rfl
def A4:(qp ρ).Ok (oY ρ):=⟨by kernel_rfl,fun p v kn kx=>by kernel_rfl⟩
def E9 (x:Val aZ) (k:Bool→Option ρ) :
    ŗ (oY ρ) 9 [Â,tI,tI] [.bool] x k=tZ x.1 x.2.1 x.2.2 k:=by kernel_rfl
end Go.Proofs.ZzM
end
