/- lemmas -/
import Derived.Test.YtdmegkgjpgcfgaaGreatMdMA
set_option linter.all false
set_option linter.unusedSectionVars false
set_option linter.unusedVariables false
set_option linter.unusedSimpArgs false
noncomputable section
variable {ρ:Type}
set_option maxRecDepth 100000
namespace Go.Proofs.ZzM
open Go Go.Am
def Ha:(wU ρ).Ok (iI ρ):=⟨by kernel_rfl,fun p v kn kx=>by kernel_rfl⟩
def G9:(wS ρ).Ok (iI ρ):=⟨by kernel_rfl,fun p v kn kx=>by kernel_rfl⟩
def G8:(wQ ρ).Ok (iI ρ):=⟨by kernel_rfl,fun p v kn kx=>by kernel_rfl⟩
def G6:(wN ρ).Ok (iI ρ):=⟨by kernel_rfl,fun p v kn kx=>by kernel_rfl⟩
def G7:(wP ρ).Ok (iI ρ):=⟨by kernel_rfl,fun p v kn kx=>by kernel_rfl⟩
def Me (x:Val (.pair Ì (.pair ao tI))) (k:(Val aa)→Option ρ) :
    ŧ (iI ρ) 134 [Ì,ao,tI] [aa] x k=EL x.1 x.2.1 x.2.2 k:=by kernel_rfl
def Js:(zB ρ).Ok (uh ρ):=⟨by kernel_rfl,fun p v kn kx=>by kernel_rfl⟩
def Jr:(zA ρ).Ok (uh ρ):=⟨by kernel_rfl,fun p v kn kx=>by kernel_rfl⟩
def PC (x:Val Ì) (k:(Val bc)→Option ρ) :
    ŧ (uh ρ) 185 [Ì] [ab,tI] x k=Jt x k:=by kernel_rfl
def LP (x:Val aJ) (k:Val Bs→Option ρ) :
    ŧ (FZ ρ) 106 [É,Ã] [Ã,tI] x k=Er x.1 x.2 k:=by kernel_rfl
def GW:(wG ρ).Ok (qw ρ):=⟨by kernel_rfl,fun p v kn kx=>by kernel_rfl⟩
def GV:(wE ρ).Ok (qw ρ):=⟨by kernel_rfl,fun p v kn kx=>by kernel_rfl⟩
def L6 (x:Val (.pair Â Ã)) (k:(Val (.pair ak tI))→Option ρ) :
    ŧ (qw ρ) 42 [Â,tI,tI] [ak,tI] x k=EB x.1 x.2.1 x.2.2 k:=by kernel_rfl
def GH:(((Ġ (Ε ρ).P 298).elim [] (Û 0)).filter fun y=>Nat.beq y.1 0).length=1:=by kernel_rfl
def IR:Ox (lq (Ġ (Ε ρ).P 298) 0)=true:=by kernel_rfl
def IP (p:Val ae) (v v':Val aa):(ô jo [tI,tI,ag,ab,ah,ac,ab,ai] [aa] p v').t=(ô jo [tI,tI,ag,ab,ah,ac,ab,ai] [aa] p v).t:=by kernel_rfl
def IQ (p:Val ae) (v:Val aa):(ô jo [tI,tI,ag,ab,ah,ac,ab,ai] [aa] p v).t.all (st3 3)=true:=by kernel_rfl
def GI (p:Val ae) (v:Val aa) (y:Int) (kn:Val ae→Val aa→Option ρ):yY (Ε ρ) (Ŧ (Ε ρ) (10-6 / 2)) 298 [7,8,1,1,1,1] 3 0 (lq (Ġ (Ε ρ).P 298) 0) (ô jo [tI,tI,ag,ab,ah,ac,ab,ai] [aa] p v) (enc tI y) ((mf ρ).back kn)=(mf ρ).bF p v y (kn p):=by kernel_rfl
def IU (hit:jz Tryz.prog Dj):(mf ρ).Ok (Ε ρ):=⟨GH,hit,IP,IQ,GI⟩
def IV:(zj ρ).Ok (Ε ρ):=⟨by kernel_rfl,fun p v kn kx=>by kernel_rfl⟩
def Pa (x:Val aG) (k:Bool→Option ρ) :
    ŧ (Ε ρ) 154 [Â,aj] [.bool] x k=IW x.1 x.2 k:=by kernel_rfl
def Pg (x:Val aG) (k:Int→Option ρ) :
    ŧ (I8 ρ) 78 [Â,aj] [tI] x k=I9 x.1 x.2 k:=by kernel_rfl
def Vg (x:Val aZ) (k:Val Ã→Option ρ) :
    ŧ (SH ρ) 49 [Â,aj,tI,tI] [tI,tI] x k=Vh x.1 x.2.1 x.2.2.1 x.2.2.2 k:=by kernel_rfl
def Vs:(NK ρ).Ok (EK ρ):=⟨by kernel_rfl,fun p v kn kx=>by kernel_rfl⟩
def Vq:(NH ρ).Ok (EK ρ):=⟨by kernel_rfl,fun p v kn kx=>by kernel_rfl⟩
def Vp:(NF ρ).Ok (EK ρ):=⟨by kernel_rfl,fun p v kn kx=>by kernel_rfl⟩
def Vr:(NJ ρ).Ok (EK ρ):=⟨by kernel_rfl,fun p v kn kx=>by kernel_rfl⟩
def aa0 (x:Val (.pair Ì Ã)) (k:(Val aj)→Option ρ) :
    ŧ (EK ρ) 128 [Ì,tI,tI] [aj] x k=Jn x.1 x.2.1 x.2.2 k:=by kernel_rfl
def Jz:(zL ρ).Ok (jO ρ):=⟨by kernel_rfl,fun p v kn kx=>by kernel_rfl⟩
def Ju:(zD ρ).Ok (jO ρ):=⟨by kernel_rfl,fun p v kn kx=>by kernel_rfl⟩
def Jv:(zF ρ).Ok (jO ρ):=⟨by kernel_rfl,fun p v kn kx=>by kernel_rfl⟩
def Jw:(zH ρ).Ok (jO ρ):=⟨by kernel_rfl,fun p v kn kx=>by kernel_rfl⟩
def Jy:(zJ ρ).Ok (jO ρ):=⟨by kernel_rfl,fun p v kn kx=>by kernel_rfl⟩
def PE (x:Val Ì) (k:(Val ay)→Option ρ) :
    ŧ (jO ρ) 64 [Ì] [aa,tI] x k=CH x k:=by kernel_rfl
def Jb:(zu ρ).Ok (AJ ρ):=⟨by kernel_rfl,fun p v kn kx=>by kernel_rfl⟩
def Pk (x:Val Â) (k:(Val (.pair aj tI))→Option ρ) :
    ŧ (AJ ρ) 59 [Â] [aj,tI] x k=Jc x k:=by kernel_rfl
def EJ:(vh ρ).Ok (t8 ρ):=⟨by kernel_rfl,fun p v kn kx=>by kernel_rfl⟩
def Jm (x:Val bi) (k:Int→Option ρ) :
    ŧ (t8 ρ) 188 [Ì,aa] [tI] x k=AM x.1 x.2 k:=by kernel_rfl
def Mb:(Cx ρ).Ok (EG ρ):=⟨by kernel_rfl,fun p v kn kx=>by kernel_rfl⟩
def SS (x:Val (.pair Ì ŋ)) (k:(Val (.pair tI (.pair tI .bool)))→Option ρ) :
    ŧ (EG ρ) 189 [Ì,tI,aa] [tI,tI,.bool] x k=Pv x.1 x.2.1 x.2.2 k:=by kernel_rfl
def CJ (x:Val bi) (k:Int→Option ρ) :
    ŧ (vl ρ) 122 [Ì,aa] [tI] x k=rz x.1 x.2 k:=by kernel_rfl
def yK:(oU ρ).Ok (nq ρ):=⟨by kernel_rfl,fun p v kn kx=>by kernel_rfl⟩
def Cu (x:Val aG) (k:Int→Option ρ) :
    ŧ (nq ρ) 60 [Â,aj] [tI] x k=ro x.1 x.2 k:=by kernel_rfl
def GB (x:Val ac) (k:Val Â→Option ρ) :
    ŧ (ze ρ) 77 [ac] [Â] x k=FV x k:=by kernel_rfl
def IC (x:Unit) (k:Bool→Option ρ) :
    ŧ (BV ρ) 17 [] [.bool] x k=Ap k:=by kernel_rfl
def GU (x:Val aG) (k:(Val aH)→Option ρ) :
    ŧ (zw ρ) 18 [Â,aj] [.bool,tI] x k=wD x.1 x.2 k:=by kernel_rfl
def EA (x:Val aG) (k:(Val (.pair É tI))→Option ρ) :
    ŧ (wB ρ) 41 [Â,aj] [É,tI] x k=tS x.1 x.2 k:=by kernel_rfl
def yB:(oN ρ).Ok (jA ρ):=⟨by kernel_rfl,fun p v kn kx=>by kernel_rfl⟩
def yA:(oM ρ).Ok (jA ρ):=⟨by kernel_rfl,fun p v kn kx=>by kernel_rfl⟩
def BX (x:Val (.pair Â tI)) (k:Bool→Option ρ) :
    ŧ (jA ρ) 5 [Â,tI] [.bool] x k=rk x.1 x.2 k:=by kernel_rfl
end Go.Proofs.ZzM
end
