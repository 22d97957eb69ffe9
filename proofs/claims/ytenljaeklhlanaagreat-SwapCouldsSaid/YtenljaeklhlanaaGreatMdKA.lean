/- lemmas -/
import Derived.Test.YtenljaeklhlanaaGreatMdMA
set_option linter.all false
noncomputable section
variable {ρ:Type}
set_option maxRecDepth 100000
namespace Go.Proofs.ZzM
open Go Go.Am
def Jd:(yl ρ).Ok (wX ρ):=⟨by kernel_rfl,fun p v b a=>by kernel_rfl⟩
def Je:(ym ρ).Ok (wX ρ):=⟨by kernel_rfl,fun p v b a=>by kernel_rfl⟩
def NY:(C3 ρ).Ok (nE ρ):=⟨by kernel_rfl,fun p v b a=>by kernel_rfl⟩
def NZ:(C5 ρ).Ok (nE ρ):=⟨by kernel_rfl,fun p v b a=>by kernel_rfl⟩
def N0:(C7 ρ).Ok (nE ρ):=⟨by kernel_rfl,fun p v b a=>by kernel_rfl⟩
def NW:(C1 ρ).Ok (nE ρ):=⟨by kernel_rfl,fun p v b a=>by kernel_rfl⟩
def NX:(C2 ρ).Ok (nE ρ):=⟨by kernel_rfl,fun p v b a=>by kernel_rfl⟩
def Vb:(Kl ρ).Ok (Yl ρ):=⟨by kernel_rfl,fun p v b a=>by kernel_rfl⟩
def Q3:(Gy ρ).Ok (SY ρ):=⟨by kernel_rfl,fun p v b a=>by kernel_rfl⟩
def NS:(CX ρ).Ok (EC ρ):=⟨by kernel_rfl,fun p v b a=>by kernel_rfl⟩
def NT:(CZ ρ).Ok (EC ρ):=⟨by kernel_rfl,fun p v b a=>by kernel_rfl⟩
def Co:(rH ρ).Ok (Λ ρ):=⟨by kernel_rfl,fun p v b a=>by kernel_rfl⟩
def Cn:(rE ρ).Ok (Λ ρ):=⟨by kernel_rfl,fun p v b a=>by kernel_rfl⟩
def Cm:(rC ρ).Ok (Λ ρ):=⟨by kernel_rfl,fun p v b a=>by kernel_rfl⟩
def Cl:(rA ρ).Ok (Λ ρ):=⟨by kernel_rfl,fun p v b a=>by kernel_rfl⟩
def Gz (x:v8) (k:b6->BY ρ) :
    RZ (Λ ρ) 37 [Â,ah] [Ë] x k=uF x.1 x.2 k:=by kernel_rfl
def Ol:(Dj ρ).Ok (EL ρ):=⟨by kernel_rfl,fun p v b a=>by kernel_rfl⟩
def Om:(Dk ρ).Ok (EL ρ):=⟨by kernel_rfl,fun p v b a=>by kernel_rfl⟩
def Q8:(GC ρ).Ok (S0 ρ):=⟨by kernel_rfl,fun p v b a=>by kernel_rfl⟩
def N1:(C8 ρ).Ok (EF ρ):=⟨by kernel_rfl,fun p v b a=>by kernel_rfl⟩
def N2:(Da ρ).Ok (EF ρ):=⟨by kernel_rfl,fun p v b a=>by kernel_rfl⟩
def Jm:(yu ρ).Ok (qe ρ):=⟨by kernel_rfl,fun p v b a=>by kernel_rfl⟩
def Jk:(yq ρ).Ok (qe ρ):=⟨by kernel_rfl,fun p v b a=>by kernel_rfl⟩
def Jl:(yr ρ).Ok (qe ρ):=⟨by kernel_rfl,fun p v b a=>by kernel_rfl⟩
def Jg:(yn ρ).Ok (wY ρ):=⟨by kernel_rfl,fun p v b a=>by kernel_rfl⟩
def Jh:(yp ρ).Ok (wY ρ):=⟨by kernel_rfl,fun p v b a=>by kernel_rfl⟩
def zq:(pz ρ).Ok (j9 ρ):=⟨by kernel_rfl,fun p v b a=>by kernel_rfl⟩
def El (x:Val bp) (k:Bool->BY ρ) :
    RZ (j9 ρ) 4 [Â,tI,tI] [.bool] x k=qW x.1 x.2.1 x.2.2 k:=by kernel_rfl
def aaI:(Tq ρ).Ok (OM ρ):=⟨by kernel_rfl,fun p v b a=>by kernel_rfl⟩
def aaG:(Tm ρ).Ok (OM ρ):=⟨by kernel_rfl,fun p v b a=>by kernel_rfl⟩
def aaF:(Tk ρ).Ok (OM ρ):=⟨by kernel_rfl,fun p v b a=>by kernel_rfl⟩
def aaH:(Tp ρ).Ok (OM ρ):=⟨by kernel_rfl,fun p v b a=>by kernel_rfl⟩
def OY:(DE ρ).Ok (nF ρ):=⟨by kernel_rfl,fun p v b a=>by kernel_rfl⟩
def OU:(Dw ρ).Ok (nF ρ):=⟨by kernel_rfl,fun p v b a=>by kernel_rfl⟩
def OV:(Dy ρ).Ok (nF ρ):=⟨by kernel_rfl,fun p v b a=>by kernel_rfl⟩
def OW:(DA ρ).Ok (nF ρ):=⟨by kernel_rfl,fun p v b a=>by kernel_rfl⟩
def OX:(DC ρ).Ok (nF ρ):=⟨by kernel_rfl,fun p v b a=>by kernel_rfl⟩
def NN:(CT ρ).Ok (NP ρ):=⟨by kernel_rfl,fun p v b a=>by kernel_rfl⟩
def Jp:(yv ρ).Ok (GW ρ):=⟨by kernel_rfl,fun p v b a=>by kernel_rfl⟩
def Rp:(GP ρ).Ok (Tj ρ):=⟨by kernel_rfl,fun p v b a=>by kernel_rfl⟩
def Ck:(rc ρ).Ok (yk ρ):=⟨by kernel_rfl,fun p v b a=>by kernel_rfl⟩
def KR:(((ğ (ο ρ).P 259).elim [] (â 0)).filter fun y=>Nat.beq y.1 0).length=1:=by kernel_rfl
def Nz:Um (ng (ğ (ο ρ).P 259) 0)=true:=by kernel_rfl
def Nx (p:u5) (v a:an):(ú kS [tI,tI,ae,aa,af,ac,aa,aj] [ab] p a).t=(ú kS [tI,tI,ae,aa,af,ac,aa,aj] [ab] p v).t:=by kernel_rfl
def Ny (p:u5) (v:an):(ú kS [tI,tI,ae,aa,af,ac,aa,aj] [ab] p v).t.all (st3 3)=true:=by kernel_rfl
def KS (p:u5) (v:an) (y:Int) (a:u5->an->BY ρ):Cz (ο ρ) (Ū (ο ρ) (10-6 / 2)) 259 [7,8,1,1,1,1] 3 0 (ng (ğ (ο ρ).P 259) 0) (ú kS [tI,tI,ae,aa,af,ac,aa,aj] [ab] p v) (enc tI y) ((oa ρ).back a)=(oa ρ).bF p v y (a p):=by kernel_rfl
def NA (a:lB Tryz.prog Hy):(oa ρ).Ok (ο ρ):=⟨KR,a,Nx,Ny,KS⟩
def NB:(CJ ρ).Ok (ο ρ):=⟨by kernel_rfl,fun p v b a=>by kernel_rfl⟩
def UZ (x:v8) (k:Bool->BY ρ) :
    RZ (ο ρ) 139 [Â,ah] [.bool] x k=NC x.1 x.2 k:=by kernel_rfl
def GA:(vF ρ).Ok (Db ρ):=⟨by kernel_rfl,fun p v b a=>by kernel_rfl⟩
def Nq (x:Unit) (k:Bool->BY ρ) :
    RZ (FR ρ) 7 [] [.bool] x k=Ek k:=by kernel_rfl
def Rl:(GN ρ).Ok (Td ρ):=⟨by kernel_rfl,fun p v b a=>by kernel_rfl⟩
def Ox:(Dq ρ).Ok (Oy ρ):=⟨by kernel_rfl,fun p v b a=>by kernel_rfl⟩
def Od:(Df ρ).Ok (EJ ρ):=⟨by kernel_rfl,fun p v b a=>by kernel_rfl⟩
def Oc:(De ρ).Ok (EJ ρ):=⟨by kernel_rfl,fun p v b a=>by kernel_rfl⟩
def Ld:(Ah ρ).Ok (jM ρ):=⟨by kernel_rfl,fun p v b a=>by kernel_rfl⟩
def Lc:(Ag ρ).Ok (jM ρ):=⟨by kernel_rfl,fun p v b a=>by kernel_rfl⟩
def Lb:(Af ρ).Ok (jM ρ):=⟨by kernel_rfl,fun p v b a=>by kernel_rfl⟩
def K8:(zZ ρ).Ok (jM ρ):=⟨by kernel_rfl,fun p v b a=>by kernel_rfl⟩
def K9:(Ab ρ).Ok (jM ρ):=⟨by kernel_rfl,fun p v b a=>by kernel_rfl⟩
def La:(Ad ρ).Ok (jM ρ):=⟨by kernel_rfl,fun p v b a=>by kernel_rfl⟩
def Le:(Ai ρ).Ok (Kn ρ):=⟨by kernel_rfl,fun p v b a=>by kernel_rfl⟩
def OB:(Dr ρ).Ok (OC ρ):=⟨by kernel_rfl,fun p v b a=>by kernel_rfl⟩
def Ov:(Dn ρ).Ok (Ow ρ):=⟨by kernel_rfl,fun p v b a=>by kernel_rfl⟩
def Oe:(Dg ρ).Ok (Og ρ):=⟨by kernel_rfl,fun p v b a=>by kernel_rfl⟩
def Ot:(Dl ρ).Ok (Ou ρ):=⟨by kernel_rfl,fun p v b a=>by kernel_rfl⟩
def Ro:(GO ρ).Ok (Th ρ):=⟨by kernel_rfl,fun p v b a=>by kernel_rfl⟩
def Rf:(GI ρ).Ok (Bq ρ):=⟨by kernel_rfl,fun p v b a=>by kernel_rfl⟩
def Rg:(GJ ρ).Ok (Bq ρ):=⟨by kernel_rfl,fun p v b a=>by kernel_rfl⟩
def Re:(GH ρ).Ok (Bq ρ):=⟨by kernel_rfl,fun p v b a=>by kernel_rfl⟩
def N7:(Dc ρ).Ok (N8 ρ):=⟨by kernel_rfl,fun p v b a=>by kernel_rfl⟩
def K6:(zW ρ).Ok (tC ρ):=⟨by kernel_rfl,fun p v b a=>by kernel_rfl⟩
def K5:(zV ρ).Ok (tC ρ):=⟨by kernel_rfl,fun p v b a=>by kernel_rfl⟩
def K7:(zX ρ).Ok (tC ρ):=⟨by kernel_rfl,fun p v b a=>by kernel_rfl⟩
def Oi:(Di ρ).Ok (Oj ρ):=⟨by kernel_rfl,fun p v b a=>by kernel_rfl⟩
def EI:(tF ρ).Ok (jL ρ):=⟨by kernel_rfl,fun p v b a=>by kernel_rfl⟩
def EH:(tE ρ).Ok (jL ρ):=⟨by kernel_rfl,fun p v b a=>by kernel_rfl⟩
def EG:(tD ρ).Ok (jL ρ):=⟨by kernel_rfl,fun p v b a=>by kernel_rfl⟩
def Ji (x:Val aY) (k:Int->BY ρ) :
    RZ (jL ρ) 122 [Ë,Ú] [tI] x k=xb x.1 x.2 k:=by kernel_rfl
def Li:(Ao ρ).Ok (l8 ρ):=⟨by kernel_rfl,fun p v b a=>by kernel_rfl⟩
def Lg:(Ak ρ).Ok (l8 ρ):=⟨by kernel_rfl,fun p v b a=>by kernel_rfl⟩
def Lh:(Al ρ).Ok (l8 ρ):=⟨by kernel_rfl,fun p v b a=>by kernel_rfl⟩
def Lf:(Aj ρ).Ok (l8 ρ):=⟨by kernel_rfl,fun p v b a=>by kernel_rfl⟩
def Rn (x:b6) (k:Int->BY ρ) :
    RZ (l8 ρ) 62 [Ë] [tI] x k=Jj x k:=by kernel_rfl
def Q2:(Gx ρ).Ok (Bo ρ):=⟨by kernel_rfl,fun p v b a=>by kernel_rfl⟩
def Q0:(Gw ρ).Ok (Bo ρ):=⟨by kernel_rfl,fun p v b a=>by kernel_rfl⟩
def QZ:(Gv ρ).Ok (Bo ρ):=⟨by kernel_rfl,fun p v b a=>by kernel_rfl⟩
def K3:(zR ρ).Ok (zU ρ):=⟨by kernel_rfl,fun p v b a=>by kernel_rfl⟩
def K4:(zT ρ).Ok (zU ρ):=⟨by kernel_rfl,fun p v b a=>by kernel_rfl⟩
def QR:(Ga ρ).Ok (I8 ρ):=⟨by kernel_rfl,fun p v b a=>by kernel_rfl⟩
def QS:(Gc ρ).Ok (I8 ρ):=⟨by kernel_rfl,fun p v b a=>by kernel_rfl⟩
def Gr {a:an->BY b5}:(((ğ (Į a ρ).P 87).elim [] (â 0)).filter fun y=>Nat.beq y.1 2).length=1:=by kernel_rfl
def Gs {a:an->BY b5} (p:xl) (v:px) (c:xl->px->BY ρ) (b:(i:Nat)->xl->Val (tyL (Ι.zs i))->BY ρ) :
    goC (Į a ρ) (Ū (Į a ρ) (10-0 / 2)) 87 [] 0 2 (rK (ğ (Į a ρ).P 87) 2) (ú Ι.head Ι.cs Ι.vs p v) (D3 Ι c b)=(pq a ρ).bF p v (c p) (fun i=>b i p):=by kernel_rfl
def Jb {a:an->BY b5}:(pq a ρ).Ok (Į a ρ):=⟨Gr,Gs⟩
def Gt {a:an->BY b5}:(((ğ (Į a ρ).P 87).elim [] (â 0)).filter fun y=>Nat.beq y.1 0).length=1:=by kernel_rfl
def Gu {a:an->BY b5} (p:an) (v:px) (c:an->px->BY ρ) (b:(i:Nat)->an->Val (tyL (Κ.zs i))->BY ρ) :
    goC (Į a ρ) (Ū (Į a ρ) (10-0 / 2)) 87 [] 0 0 (rK (ğ (Į a ρ).P 87) 0) (ú Κ.head Κ.cs Κ.vs p v) (D3 Κ c b)=(pr a ρ).bF p v (c p) (fun i=>b i p):=by kernel_rfl
def Jc {a:an->BY b5}:(pr a ρ).Ok (Į a ρ):=⟨Gt,Gu⟩
def NU {a:an->BY b5} (x:an) (k:b5->BY ρ) :
    RZ (Į a ρ) 87 [ab] [ah] x k=nD a x k:=by kernel_rfl
end Go.Proofs.ZzM
end
