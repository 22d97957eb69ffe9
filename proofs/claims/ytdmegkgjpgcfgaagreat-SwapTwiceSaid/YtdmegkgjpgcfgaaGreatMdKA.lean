/- lemmas -/
import Derived.Test.YtdmegkgjpgcfgaaGreatMdMA
set_option linter.all false
set_option linter.unusedSectionVars false
set_option linter.unusedVariables false
set_option linter.unusedSimpArgs false
noncomputable section
variable {ρ:Type}
set_option maxRecDepth 100000
namespace Go.Proofs.ZzM
open Go Go.Am
def HV:(xJ ρ).Ok (iZ ρ):=⟨by kernel_rfl,fun p v kn kx=>by kernel_rfl⟩
def HU:(xH ρ).Ok (iZ ρ):=⟨by kernel_rfl,fun p v kn kx=>by kernel_rfl⟩
def HT:(xF ρ).Ok (iZ ρ):=⟨by kernel_rfl,fun p v kn kx=>by kernel_rfl⟩
def HQ:(xC ρ).Ok (iZ ρ):=⟨by kernel_rfl,fun p v kn kx=>by kernel_rfl⟩
def HS:(xE ρ).Ok (iZ ρ):=⟨by kernel_rfl,fun p v kn kx=>by kernel_rfl⟩
def M8 (x:Val (.pair Ì (.pair ao tI))) (k:(Val ab)→Option ρ) :
    ŭ (iZ ρ) 134 [Ì,ao,tI] [ab] x k=FB x.1 x.2.1 x.2.2 k:=by kernel_rfl
def Ke:(Ar ρ).Ok (uS ρ):=⟨by kernel_rfl,fun p v kn kx=>by kernel_rfl⟩
def Kd:(Aq ρ).Ok (uS ρ):=⟨by kernel_rfl,fun p v kn kx=>by kernel_rfl⟩
def Qs (x:Val Ì) (k:(Val bh)→Option ρ) :
    ŭ (uS ρ) 185 [Ì] [aa,tI] x k=Kg x k:=by kernel_rfl
def MF (x:Val aK) (k:Val Ch→Option ρ) :
    ŭ (GP ρ) 106 [É,Ã] [Ã,tI] x k=Fe x.1 x.2 k:=by kernel_rfl
def HJ:(xv ρ).Ok (qU ρ):=⟨by kernel_rfl,fun p v kn kx=>by kernel_rfl⟩
def HI:(xr ρ).Ok (qU ρ):=⟨by kernel_rfl,fun p v kn kx=>by kernel_rfl⟩
def MX (x:Val ba) (k:(Val (.pair ak tI))→Option ρ) :
    ŭ (qU ρ) 42 [Â,tI,tI] [ak,tI] x k=Fq x.1 x.2.1 x.2.2 k:=by kernel_rfl
def Hz:(((ĥ (Ο ρ).P 298).elim [] (Ü 0)).filter fun y=>Nat.beq y.1 0).length=1:=by kernel_rfl
def JG:Pq (lU (ĥ (Ο ρ).P 298) 0)=true:=by kernel_rfl
def JE (p:Val ah) (v v':Val ab):(õ jH [tI,tI,ae,aa,af,ac,aa,ai] [ab] p v').t=(õ jH [tI,tI,ae,aa,af,ac,aa,ai] [ab] p v).t:=by kernel_rfl
def JF (p:Val ah) (v:Val ab):(õ jH [tI,tI,ae,aa,af,ac,aa,ai] [ab] p v).t.all (st3 3)=true:=by kernel_rfl
def HA (p:Val ah) (v:Val ab) (y:Int) (kn:Val ah→Val ab→Option ρ):zR (Ο ρ) (Ű (Ο ρ) (10-6 / 2)) 298 [7,8,1,1,1,1] 3 0 (lU (ĥ (Ο ρ).P 298) 0) (õ jH [tI,tI,ae,aa,af,ac,aa,ai] [ab] p v) (enc tI y) ((mL ρ).back kn)=(mL ρ).bF p v y (kn p):=by kernel_rfl
def JH (hit:jR Tryz.prog D3):(mL ρ).Ok (Ο ρ):=⟨Hz,hit,JE,JF,HA⟩
def JI:(Ab ρ).Ok (Ο ρ):=⟨by kernel_rfl,fun p v kn kx=>by kernel_rfl⟩
def PZ (x:Val aJ) (k:Bool→Option ρ) :
    ŭ (Ο ρ) 154 [Â,aj] [.bool] x k=JJ x.1 x.2 k:=by kernel_rfl
def P6 (x:Val aJ) (k:Int→Option ρ) :
    ŭ (JV ρ) 78 [Â,aj] [tI] x k=JW x.1 x.2 k:=by kernel_rfl
def We (x:Val bf) (k:Val Ã→Option ρ) :
    ŭ (TD ρ) 49 [Â,aj,tI,tI] [tI,tI] x k=Wf x.1 x.2.1 x.2.2.1 x.2.2.2 k:=by kernel_rfl
def Ws:(OC ρ).Ok (FA ρ):=⟨by kernel_rfl,fun p v kn kx=>by kernel_rfl⟩
def Wq:(Oz ρ).Ok (FA ρ):=⟨by kernel_rfl,fun p v kn kx=>by kernel_rfl⟩
def Wp:(Ox ρ).Ok (FA ρ):=⟨by kernel_rfl,fun p v kn kx=>by kernel_rfl⟩
def Wr:(OB ρ).Ok (FA ρ):=⟨by kernel_rfl,fun p v kn kx=>by kernel_rfl⟩
def ab9 (x:Val (.pair Ì Ã)) (k:(Val aj)→Option ρ) :
    ŭ (FA ρ) 128 [Ì,tI,tI] [aj] x k=J9 x.1 x.2.1 x.2.2 k:=by kernel_rfl
def Kl:(AC ρ).Ok (ke ρ):=⟨by kernel_rfl,fun p v kn kx=>by kernel_rfl⟩
def Kh:(As ρ).Ok (ke ρ):=⟨by kernel_rfl,fun p v kn kx=>by kernel_rfl⟩
def Ki:(Aw ρ).Ok (ke ρ):=⟨by kernel_rfl,fun p v kn kx=>by kernel_rfl⟩
def Kj:(Ay ρ).Ok (ke ρ):=⟨by kernel_rfl,fun p v kn kx=>by kernel_rfl⟩
def Kk:(AA ρ).Ok (ke ρ):=⟨by kernel_rfl,fun p v kn kx=>by kernel_rfl⟩
def Qu (x:Val Ì) (k:(Val ay)→Option ρ) :
    ŭ (ke ρ) 64 [Ì] [ab,tI] x k=Dr x k:=by kernel_rfl
def JY:(Ak ρ).Ok (By ρ):=⟨by kernel_rfl,fun p v kn kx=>by kernel_rfl⟩
def Qb (x:Val Â) (k:(Val (.pair aj tI))→Option ρ) :
    ŭ (By ρ) 59 [Â] [aj,tI] x k=JZ x k:=by kernel_rfl
def Fz:(vQ ρ).Ok (uO ρ):=⟨by kernel_rfl,fun p v kn kx=>by kernel_rfl⟩
def J8 (x:Val bm) (k:Int→Option ρ) :
    ŭ (uO ρ) 188 [Ì,ab] [tI] x k=BA x.1 x.2 k:=by kernel_rfl
def M5:(Dg ρ).Ok (Fw ρ):=⟨by kernel_rfl,fun p v kn kx=>by kernel_rfl⟩
def TN (x:Val (.pair Ì Ī)) (k:(Val (.pair tI (.pair tI .bool)))→Option ρ) :
    ŭ (Fw ρ) 189 [Ì,tI,ab] [tI,tI,.bool] x k=Ql x.1 x.2.1 x.2.2 k:=by kernel_rfl
def Dt (x:Val bm) (k:Int→Option ρ) :
    ŭ (vS ρ) 122 [Ì,ab] [tI] x k=sc x.1 x.2 k:=by kernel_rfl
def zE:(pz ρ).Ok (nV ρ):=⟨by kernel_rfl,fun p v kn kx=>by kernel_rfl⟩
def Dc (x:Val aJ) (k:Int→Option ρ) :
    ŭ (nV ρ) 60 [Â,aj] [tI] x k=rW x.1 x.2 k:=by kernel_rfl
def Hu (x:Val ac) (k:Val Â→Option ρ) :
    ŭ (zY ρ) 77 [ac] [Â] x k=GK x k:=by kernel_rfl
def Jt (x:Unit) (k:Bool→Option ρ) :
    ŭ (CE ρ) 17 [] [.bool] x k=Bb k:=by kernel_rfl
def FU:(wd ρ).Ok (lh ρ):=⟨by kernel_rfl,fun p v kn kx=>by kernel_rfl⟩
def FT:(vY ρ).Ok (lh ρ):=⟨by kernel_rfl,fun p v kn kx=>by kernel_rfl⟩
def FS:(vW ρ).Ok (lh ρ):=⟨by kernel_rfl,fun p v kn kx=>by kernel_rfl⟩
def KV (x:Val (.pair É ab)) (k:(Val (.pair É tI))→Option ρ) :
    ŭ (lh ρ) 74 [É,ab] [É,tI] x k=BU x.1 x.2 k:=by kernel_rfl
def MR (x:Val É) (k:Val É→Option ρ) :
    ŭ (GS ρ) 113 [É] [É] x k=Fh x k:=by kernel_rfl
def MU:(C0 ρ).Ok (Fp ρ):=⟨by kernel_rfl,fun p v kn kx=>by kernel_rfl⟩
def TC (x:Val (.pair Â Ī)) (k:(Val (.pair Â tI))→Option ρ) :
    ŭ (Fp ρ) 47 [Â,Ī] [Â,tI] x k=P8 x.1 x.2 k:=by kernel_rfl
def zr:(pp ρ).Ok (Ŝ ρ):=⟨by kernel_rfl,fun p v kn kx=>by kernel_rfl⟩
def zq:(po ρ).Ok (Ŝ ρ):=⟨by kernel_rfl,fun p v kn kx=>by kernel_rfl⟩
def zp:(pn ρ).Ok (Ŝ ρ):=⟨by kernel_rfl,fun p v kn kx=>by kernel_rfl⟩
def zo:(pm ρ).Ok (Ŝ ρ):=⟨by kernel_rfl,fun p v kn kx=>by kernel_rfl⟩
def zn:(pl ρ).Ok (Ŝ ρ):=⟨by kernel_rfl,fun p v kn kx=>by kernel_rfl⟩
def CG (x:Val ba) (k:Bool→Option ρ) :
    ŭ (Ŝ ρ) 7 [Â,tI,tI] [.bool] x k=rU x.1 x.2.1 x.2.2 k:=by kernel_rfl
end Go.Proofs.ZzM
end
