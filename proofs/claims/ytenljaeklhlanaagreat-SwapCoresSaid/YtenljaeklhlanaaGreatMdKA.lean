/- lemmas -/
import Derived.Test.YtenljaeklhlanaaGreatMdMA
set_option linter.all false
noncomputable section
variable {ρ:Type}
set_option maxRecDepth 100000
namespace Go.Proofs.ZzM
open Go Go.Am
def Jr:(yw ρ).Ok (xf ρ):=⟨by kernel_rfl,fun p v b a=>by kernel_rfl⟩
def Js:(yx ρ).Ok (xf ρ):=⟨by kernel_rfl,fun p v b a=>by kernel_rfl⟩
def N8:(Dc ρ).Ok (nP ρ):=⟨by kernel_rfl,fun p v b a=>by kernel_rfl⟩
def N9:(Df ρ).Ok (nP ρ):=⟨by kernel_rfl,fun p v b a=>by kernel_rfl⟩
def Oa:(Dh ρ).Ok (nP ρ):=⟨by kernel_rfl,fun p v b a=>by kernel_rfl⟩
def N6:(Da ρ).Ok (nP ρ):=⟨by kernel_rfl,fun p v b a=>by kernel_rfl⟩
def N7:(Db ρ).Ok (nP ρ):=⟨by kernel_rfl,fun p v b a=>by kernel_rfl⟩
def Vt:(Kv ρ).Ok (YH ρ):=⟨by kernel_rfl,fun p v b a=>by kernel_rfl⟩
def Rf:(GP ρ).Ok (Tl ρ):=⟨by kernel_rfl,fun p v b a=>by kernel_rfl⟩
def N2:(C6 ρ).Ok (EH ρ):=⟨by kernel_rfl,fun p v b a=>by kernel_rfl⟩
def N3:(C8 ρ).Ok (EH ρ):=⟨by kernel_rfl,fun p v b a=>by kernel_rfl⟩
def Cw:(rM ρ).Ok (Η ρ):=⟨by kernel_rfl,fun p v b a=>by kernel_rfl⟩
def Cv:(rK ρ).Ok (Η ρ):=⟨by kernel_rfl,fun p v b a=>by kernel_rfl⟩
def Cu:(rI ρ).Ok (Η ρ):=⟨by kernel_rfl,fun p v b a=>by kernel_rfl⟩
def Ct:(rG ρ).Ok (Η ρ):=⟨by kernel_rfl,fun p v b a=>by kernel_rfl⟩
def GQ (x:v6) (k:b6->BY ρ) :
    Sq (Η ρ) 37 [Â,ah] [Ë] x k=uK x.1 x.2 k:=by kernel_rfl
def OA:(Dt ρ).Ok (ES ρ):=⟨by kernel_rfl,fun p v b a=>by kernel_rfl⟩
def OB:(Du ρ).Ok (ES ρ):=⟨by kernel_rfl,fun p v b a=>by kernel_rfl⟩
def Ob:(Di ρ).Ok (Oc ρ):=⟨by kernel_rfl,fun p v b a=>by kernel_rfl⟩
def Od:(Dk ρ).Ok (Oe ρ):=⟨by kernel_rfl,fun p v b a=>by kernel_rfl⟩
def Vr:(Ku ρ).Ok (YE ρ):=⟨by kernel_rfl,fun p v b a=>by kernel_rfl⟩
def Rl:(GW ρ).Ok (Tm ρ):=⟨by kernel_rfl,fun p v b a=>by kernel_rfl⟩
def Oh:(Dl ρ).Ok (Oi ρ):=⟨by kernel_rfl,fun p v b a=>by kernel_rfl⟩
def Jo:(yv ρ).Ok (GG ρ):=⟨by kernel_rfl,fun p v b a=>by kernel_rfl⟩
def EK:(tE ρ).Ok (rO ρ):=⟨by kernel_rfl,fun p v b a=>by kernel_rfl⟩
def EL:(tF ρ).Ok (rO ρ):=⟨by kernel_rfl,fun p v b a=>by kernel_rfl⟩
def Cj:(rc ρ).Ok (jr ρ):=⟨by kernel_rfl,fun p v b a=>by kernel_rfl⟩
def Ci:(qY ρ).Ok (jr ρ):=⟨by kernel_rfl,fun p v b a=>by kernel_rfl⟩
def Ga (x:Val (.pair Â aD)) (k:Bool->BY ρ) :
    Sq (jr ρ) 3 [Â,ab,tI] [.bool] x k=uG x.1 x.2.1 x.2.2 k:=by kernel_rfl
def aa1:(TJ ρ).Ok (OZ ρ):=⟨by kernel_rfl,fun p v b a=>by kernel_rfl⟩
def aaZ:(TG ρ).Ok (OZ ρ):=⟨by kernel_rfl,fun p v b a=>by kernel_rfl⟩
def aaY:(TE ρ).Ok (OZ ρ):=⟨by kernel_rfl,fun p v b a=>by kernel_rfl⟩
def aa0:(TI ρ).Ok (OZ ρ):=⟨by kernel_rfl,fun p v b a=>by kernel_rfl⟩
def O9:(DN ρ).Ok (nQ ρ):=⟨by kernel_rfl,fun p v b a=>by kernel_rfl⟩
def O5:(DF ρ).Ok (nQ ρ):=⟨by kernel_rfl,fun p v b a=>by kernel_rfl⟩
def O6:(DH ρ).Ok (nQ ρ):=⟨by kernel_rfl,fun p v b a=>by kernel_rfl⟩
def O7:(DJ ρ).Ok (nQ ρ):=⟨by kernel_rfl,fun p v b a=>by kernel_rfl⟩
def O8:(DL ρ).Ok (nQ ρ):=⟨by kernel_rfl,fun p v b a=>by kernel_rfl⟩
def NW:(C2 ρ).Ok (NX ρ):=⟨by kernel_rfl,fun p v b a=>by kernel_rfl⟩
def Jz:(yy ρ).Ok (Hj ρ):=⟨by kernel_rfl,fun p v b a=>by kernel_rfl⟩
def RC:(Hb ρ).Ok (TD ρ):=⟨by kernel_rfl,fun p v b a=>by kernel_rfl⟩
def Cs:(rk ρ).Ok (yu ρ):=⟨by kernel_rfl,fun p v b a=>by kernel_rfl⟩
def K3:(((Ĝ (ι ρ).P 259).elim [] (â 0)).filter fun y=>Nat.beq y.1 0).length=1:=by kernel_rfl
def NH:UB (nw (Ĝ (ι ρ).P 259) 0)=true:=by kernel_rfl
def NF (p:rd) (v a:an):(ù lq [tI,tI,ae,aa,af,ac,aa,aj] [ab] p a).t=(ù lq [tI,tI,ae,aa,af,ac,aa,aj] [ab] p v).t:=by kernel_rfl
def NG (p:rd) (v:an):(ù lq [tI,tI,ae,aa,af,ac,aa,aj] [ab] p v).t.all (st3 3)=true:=by kernel_rfl
def K4 (p:rd) (v:an) (y:Int) (a:rd->an->BY ρ):CI (ι ρ) (ŧ (ι ρ) (10-6 / 2)) 259 [7,8,1,1,1,1] 3 0 (nw (Ĝ (ι ρ).P 259) 0) (ù lq [tI,tI,ae,aa,af,ac,aa,aj] [ab] p v) (enc tI y) ((oj ρ).back a)=(oj ρ).bF p v y (a p):=by kernel_rfl
def NI (a:lG Tryz.prog HS):(oj ρ).Ok (ι ρ):=⟨K3,a,NF,NG,K4⟩
def NJ:(CU ρ).Ok (ι ρ):=⟨by kernel_rfl,fun p v b a=>by kernel_rfl⟩
def Vi (x:v6) (k:Bool->BY ρ) :
    Sq (ι ρ) 139 [Â,ah] [.bool] x k=NK x.1 x.2 k:=by kernel_rfl
def GV:(vO ρ).Ok (Dj ρ):=⟨by kernel_rfl,fun p v b a=>by kernel_rfl⟩
def Ny (x:Unit) (k:Bool->BY ρ) :
    Sq (F9 ρ) 7 [] [.bool] x k=Er k:=by kernel_rfl
def Ry:(G9 ρ).Ok (Tw ρ):=⟨by kernel_rfl,fun p v b a=>by kernel_rfl⟩
def OK:(Dz ρ).Ok (OM ρ):=⟨by kernel_rfl,fun p v b a=>by kernel_rfl⟩
def Ou:(Dp ρ).Ok (EQ ρ):=⟨by kernel_rfl,fun p v b a=>by kernel_rfl⟩
def Ot:(Dn ρ).Ok (EQ ρ):=⟨by kernel_rfl,fun p v b a=>by kernel_rfl⟩
def Ln:(Ai ρ).Ok (jV ρ):=⟨by kernel_rfl,fun p v b a=>by kernel_rfl⟩
def Lm:(Ah ρ).Ok (jV ρ):=⟨by kernel_rfl,fun p v b a=>by kernel_rfl⟩
def Ll:(Ag ρ).Ok (jV ρ):=⟨by kernel_rfl,fun p v b a=>by kernel_rfl⟩
def Lh:(Aa ρ).Ok (jV ρ):=⟨by kernel_rfl,fun p v b a=>by kernel_rfl⟩
def Li:(Ac ρ).Ok (jV ρ):=⟨by kernel_rfl,fun p v b a=>by kernel_rfl⟩
def Lj:(Ae ρ).Ok (jV ρ):=⟨by kernel_rfl,fun p v b a=>by kernel_rfl⟩
def Lq:(Aj ρ).Ok (Kx ρ):=⟨by kernel_rfl,fun p v b a=>by kernel_rfl⟩
def OQ:(DA ρ).Ok (OS ρ):=⟨by kernel_rfl,fun p v b a=>by kernel_rfl⟩
def OI:(Dx ρ).Ok (OJ ρ):=⟨by kernel_rfl,fun p v b a=>by kernel_rfl⟩
def Ov:(Dq ρ).Ok (Ow ρ):=⟨by kernel_rfl,fun p v b a=>by kernel_rfl⟩
def OG:(Dv ρ).Ok (OH ρ):=⟨by kernel_rfl,fun p v b a=>by kernel_rfl⟩
def RB:(Ha ρ).Ok (TB ρ):=⟨by kernel_rfl,fun p v b a=>by kernel_rfl⟩
def Rs:(G5 ρ).Ok (Bq ρ):=⟨by kernel_rfl,fun p v b a=>by kernel_rfl⟩
def Rt:(G6 ρ).Ok (Bq ρ):=⟨by kernel_rfl,fun p v b a=>by kernel_rfl⟩
def Rr:(G4 ρ).Ok (Bq ρ):=⟨by kernel_rfl,fun p v b a=>by kernel_rfl⟩
def Ol:(Dm ρ).Ok (Om ρ):=⟨by kernel_rfl,fun p v b a=>by kernel_rfl⟩
def Lf:(zX ρ).Ok (tM ρ):=⟨by kernel_rfl,fun p v b a=>by kernel_rfl⟩
def Le:(zW ρ).Ok (tM ρ):=⟨by kernel_rfl,fun p v b a=>by kernel_rfl⟩
def Lg:(zY ρ).Ok (tM ρ):=⟨by kernel_rfl,fun p v b a=>by kernel_rfl⟩
def Oy:(Ds ρ).Ok (Oz ρ):=⟨by kernel_rfl,fun p v b a=>by kernel_rfl⟩
def EP:(tP ρ).Ok (jU ρ):=⟨by kernel_rfl,fun p v b a=>by kernel_rfl⟩
def EO:(tO ρ).Ok (jU ρ):=⟨by kernel_rfl,fun p v b a=>by kernel_rfl⟩
def EN:(tN ρ).Ok (jU ρ):=⟨by kernel_rfl,fun p v b a=>by kernel_rfl⟩
def Ju (x:Val aZ) (k:Int->BY ρ) :
    Sq (jU ρ) 122 [Ë,Ö] [tI] x k=xg x.1 x.2 k:=by kernel_rfl
def Lv:(Ap ρ).Ok (me ρ):=⟨by kernel_rfl,fun p v b a=>by kernel_rfl⟩
def Lt:(Al ρ).Ok (me ρ):=⟨by kernel_rfl,fun p v b a=>by kernel_rfl⟩
def Lu:(Ao ρ).Ok (me ρ):=⟨by kernel_rfl,fun p v b a=>by kernel_rfl⟩
def Lr:(Ak ρ).Ok (me ρ):=⟨by kernel_rfl,fun p v b a=>by kernel_rfl⟩
def RA (x:b6) (k:Int->BY ρ) :
    Sq (me ρ) 62 [Ë] [tI] x k=Jv x k:=by kernel_rfl
def Re:(GO ρ).Ok (Bn ρ):=⟨by kernel_rfl,fun p v b a=>by kernel_rfl⟩
def Rc:(GN ρ).Ok (Bn ρ):=⟨by kernel_rfl,fun p v b a=>by kernel_rfl⟩
def Rb:(GM ρ).Ok (Bn ρ):=⟨by kernel_rfl,fun p v b a=>by kernel_rfl⟩
def Lc:(zS ρ).Ok (zV ρ):=⟨by kernel_rfl,fun p v b a=>by kernel_rfl⟩
def Ld:(zU ρ).Ok (zV ρ):=⟨by kernel_rfl,fun p v b a=>by kernel_rfl⟩
def GH {a:an->BY b5}:(((Ĝ (Ĵ a ρ).P 87).elim [] (â 0)).filter fun y=>Nat.beq y.1 2).length=1:=by kernel_rfl
def GI {a:an->BY b5} (p:xa) (v:px) (c:xa->px->BY ρ) (b:(i:Nat)->xa->Val (tyL (Ε.zs i))->BY ρ) :
    goC (Ĵ a ρ) (ŧ (Ĵ a ρ) (10-0 / 2)) 87 [] 0 2 (rQ (Ĝ (Ĵ a ρ).P 87) 2) (ù Ε.head Ε.cs Ε.vs p v) (Eb Ε c b)=(pD a ρ).bF p v (c p) (fun i=>b i p):=by kernel_rfl
def Jp {a:an->BY b5}:(pD a ρ).Ok (Ĵ a ρ):=⟨GH,GI⟩
def GJ {a:an->BY b5}:(((Ĝ (Ĵ a ρ).P 87).elim [] (â 0)).filter fun y=>Nat.beq y.1 0).length=1:=by kernel_rfl
def GK {a:an->BY b5} (p:an) (v:px) (c:an->px->BY ρ) (b:(i:Nat)->an->Val (tyL (Ζ.zs i))->BY ρ) :
    goC (Ĵ a ρ) (ŧ (Ĵ a ρ) (10-0 / 2)) 87 [] 0 0 (rQ (Ĝ (Ĵ a ρ).P 87) 0) (ù Ζ.head Ζ.cs Ζ.vs p v) (Eb Ζ c b)=(pE a ρ).bF p v (c p) (fun i=>b i p):=by kernel_rfl
def Jq {a:an->BY b5}:(pE a ρ).Ok (Ĵ a ρ):=⟨GJ,GK⟩
def N4 {a:an->BY b5} (x:an) (k:b5->BY ρ) :
    Sq (Ĵ a ρ) 87 [ab] [ah] x k=nO a x k:=by kernel_rfl
end Go.Proofs.ZzM
end
