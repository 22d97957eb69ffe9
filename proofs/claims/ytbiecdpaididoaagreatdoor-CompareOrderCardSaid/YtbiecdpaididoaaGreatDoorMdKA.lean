/- lemmas -/
import Derived.Test.YtbiecdpaididoaaGreatDoorMdMA
set_option linter.all false
noncomputable section
variable {ρ:Type}
set_option maxRecDepth 100000
namespace Go.Proofs.ZzM
open Go Go.Am
def wJ:(og ρ).Ok (we ρ):=⟨by kernel_rfl,fun p v b a=>by kernel_rfl⟩
def Ax:(tj ρ).Ok (uZ ρ):=⟨by kernel_rfl,fun p v b a=>by kernel_rfl⟩
def Aw:(tf ρ).Ok (uZ ρ):=⟨by kernel_rfl,fun p v b a=>by kernel_rfl⟩
def fI:(ņ ρ).Ok (Ş ρ):=⟨by kernel_rfl,fun p v b a=>by kernel_rfl⟩
def yw:(qA ρ).Ok (yx ρ):=⟨by kernel_rfl,fun p v b a=>by kernel_rfl⟩
def C2 (x:Val (.pair Ġ Æ)) (k:Val D5->AN ρ) :
    Lr (ry ρ) 165 [Ġ,Æ] [Ġ,tI] x k=yz x.1 x.2 k:=by kernel_rfl
def As:(s9 ρ).Ok (pn ρ):=⟨by kernel_rfl,fun p v b a=>by kernel_rfl⟩
def Au:(tc ρ).Ok (pn ρ):=⟨by kernel_rfl,fun p v b a=>by kernel_rfl⟩
def Ar:(s7 ρ).Ok (pn ρ):=⟨by kernel_rfl,fun p v b a=>by kernel_rfl⟩
def mA:(f8 ρ).Ok (jq ρ):=⟨by kernel_rfl,fun p v b a=>by kernel_rfl⟩
def yu:(qy ρ).Ok (yv ρ):=⟨by kernel_rfl,fun p v b a=>by kernel_rfl⟩
def Ak:(sU ρ).Ok (uW ρ):=⟨by kernel_rfl,fun p v b a=>by kernel_rfl⟩
def Aj:(sS ρ).Ok (uW ρ):=⟨by kernel_rfl,fun p v b a=>by kernel_rfl⟩
def yK:(qJ ρ).Ok (yL ρ):=⟨by kernel_rfl,fun p v b a=>by kernel_rfl⟩
def AF:(tF ρ).Ok (BJ ρ):=⟨by kernel_rfl,fun p v b a=>by kernel_rfl⟩
def sQ:(lM ρ).Ok (ł ρ):=⟨by kernel_rfl,fun p v b a=>by kernel_rfl⟩
def sP:(lK ρ).Ok (ł ρ):=⟨by kernel_rfl,fun p v b a=>by kernel_rfl⟩
def sN:(lG ρ).Ok (ł ρ):=⟨by kernel_rfl,fun p v b a=>by kernel_rfl⟩
def sO:(lI ρ).Ok (ł ρ):=⟨by kernel_rfl,fun p v b a=>by kernel_rfl⟩
def sM:(lF ρ).Ok (ł ρ):=⟨by kernel_rfl,fun p v b a=>by kernel_rfl⟩
def wK (x:Val (.pair æ am)) (k:zC->AN ρ) :
    Lr (ł ρ) 160 [æ,am] [ab,.bool] x k=oj x.1 x.2 k:=by kernel_rfl
def yq:(qw ρ).Ok (yr ρ):=⟨by kernel_rfl,fun p v b a=>by kernel_rfl⟩
def wP:(ox ρ).Ok (Ű ρ):=⟨by kernel_rfl,fun p v b a=>by kernel_rfl⟩
def wO:(ov ρ).Ok (Ű ρ):=⟨by kernel_rfl,fun p v b a=>by kernel_rfl⟩
def wN:(ot ρ).Ok (Ű ρ):=⟨by kernel_rfl,fun p v b a=>by kernel_rfl⟩
def wL:(ol ρ).Ok (Ű ρ):=⟨by kernel_rfl,fun p v b a=>by kernel_rfl⟩
def wM:(oo ρ).Ok (Ű ρ):=⟨by kernel_rfl,fun p v b a=>by kernel_rfl⟩
def Ai (x:Val (.pair æ (.pair am tI))) (k:ag->AN ρ) :
    Lr (Ű ρ) 117 [æ,am,tI] [ab] x k=uV x.1 x.2.1 x.2.2 k:=by kernel_rfl
def Db:(wn ρ).Ok (Fv ρ):=⟨by kernel_rfl,fun p v b a=>by kernel_rfl⟩
def yl (x:Unit) (k:Bool->AN ρ) :
    Lr (sI ρ) 6 [] [.bool] x k=rt k:=by kernel_rfl
def Ay:(tp ρ).Ok (BD ρ):=⟨by kernel_rfl,fun p v b a=>by kernel_rfl⟩
def yQ:(qO ρ).Ok (ς ρ):=⟨by kernel_rfl,fun p v b a=>by kernel_rfl⟩
def yP:(qN ρ).Ok (ς ρ):=⟨by kernel_rfl,fun p v b a=>by kernel_rfl⟩
def yO:(qM ρ).Ok (ς ρ):=⟨by kernel_rfl,fun p v b a=>by kernel_rfl⟩
def yN:(qL ρ).Ok (ς ρ):=⟨by kernel_rfl,fun p v b a=>by kernel_rfl⟩
def yM:(qK ρ).Ok (ς ρ):=⟨by kernel_rfl,fun p v b a=>by kernel_rfl⟩
def C8 (x:an) (k:pl->AN ρ) :
    Lr (ς ρ) 7 [Ã] [.str,tI] x k=tJ x k:=by kernel_rfl
def uY:(np ρ).Ok (iH ρ):=⟨by kernel_rfl,fun p v b a=>by kernel_rfl⟩
def yG (x:c8) (k:ag->AN ρ) :
    Lr (iH ρ) 74 [ao] [ab] x k=rz x k:=by kernel_rfl
def yD:(qD ρ).Ok (yE ρ):=⟨by kernel_rfl,fun p v b a=>by kernel_rfl⟩
def wW:(((Υ (ŗ ρ).P 8).elim [] (Ò 0)).filter fun y=>Nat.beq y.1 0).length=1:=by kernel_rfl
def yV:J3 (qQ (Υ (ŗ ρ).P 8) 0)=true:=by kernel_rfl
def yU (p:z6) (v a:An):(Ý ť [.str,tI,tI,tI,tI,tI,tI] [tI,tI,ae,aa,af,ac,aa,tI,tI,tI,ae,aa,af,ac,aa] p a).t=(Ý ť [.str,tI,tI,tI,tI,tI,tI] [tI,tI,ae,aa,af,ac,aa,tI,tI,tI,ae,aa,af,ac,aa] p v).t:=by kernel_rfl
def yS (p:z6) (v:An) (z:Val au):(Ý qP [.str,tI,tI,tI,tI,tI,tI] [tI,tI,ae,aa,af,ac,aa,tI] p z).t=(Ý ť [.str,tI,tI,tI,tI,tI,tI] [tI,tI,ae,aa,af,ac,aa,tI,tI,tI,ae,aa,af,ac,aa] p v).t:=by kernel_rfl
def yT (p:z6) (v:An):(Ý ť [.str,tI,tI,tI,tI,tI,tI] [tI,tI,ae,aa,af,ac,aa,tI,tI,tI,ae,aa,af,ac,aa] p v).t.all (st3 18)=true:=by kernel_rfl
def wY (p:z6) (v:An) (y:ByteArray) (g:z6->An->AN ρ) (f:z6->Val au->AN ρ):Ep (ŗ ρ) (Α (ŗ ρ) (10-0 / 2)) 8 [] 18 0 (qQ (Υ (ŗ ρ).P 8) 0) (Ý ť [.str,tI,tI,tI,tI,tI,tI] [tI,tI,ae,aa,af,ac,aa,tI,tI,tI,ae,aa,af,ac,aa] p v) (.str y) (kJ.back g f)=gU p.2.1 p.2.2.1 p.2.2.2.1 p.2.2.2.2.1 p.2.2.2.2.2.1 p.2.2.2.2.2.2 v.1 v.2.1 v.2.2.1 v.2.2.2.1 v.2.2.2.2.1 v.2.2.2.2.2.1 v.2.2.2.2.2.2.1 v.2.2.2.2.2.2.2.1 v.2.2.2.2.2.2.2.2.1 v.2.2.2.2.2.2.2.2.2.1 v.2.2.2.2.2.2.2.2.2.2.1 v.2.2.2.2.2.2.2.2.2.2.2.1 v.2.2.2.2.2.2.2.2.2.2.2.2.1 v.2.2.2.2.2.2.2.2.2.2.2.2.2.1 v.2.2.2.2.2.2.2.2.2.2.2.2.2.2 y (fun o u1 n m l k j i u8 h e d c b a=>g p (o,u1,n,m,l,k,j,i,u8,h,e,d,c,b,a)) (f p):=by kernel_rfl
def wX (p:z6) (v:An) (y:ByteArray) (g:z6->An->AN ρ) (f:z6->Val au->AN ρ):gU p.2.1 p.2.2.1 p.2.2.2.1 p.2.2.2.2.1 p.2.2.2.2.2.1 p.2.2.2.2.2.2 v.1 v.2.1 v.2.2.1 v.2.2.2.1 v.2.2.2.2.1 v.2.2.2.2.2.1 v.2.2.2.2.2.2.1 v.2.2.2.2.2.2.2.1 v.2.2.2.2.2.2.2.2.1 v.2.2.2.2.2.2.2.2.2.1 v.2.2.2.2.2.2.2.2.2.2.1 v.2.2.2.2.2.2.2.2.2.2.2.1 v.2.2.2.2.2.2.2.2.2.2.2.2.1 v.2.2.2.2.2.2.2.2.2.2.2.2.2.1 v.2.2.2.2.2.2.2.2.2.2.2.2.2.2 y (fun o u1 n m l k j i u8 h e d c b a=>g p (o,u1,n,m,l,k,j,i,u8,h,e,d,c,b,a)) (f p)=Â (ĭ p.2.1 p.2.2.1 p.2.2.2.1 p.2.2.2.2.1 p.2.2.2.2.2.1 p.2.2.2.2.2.2 v y) (Rh (g p) (f p)):=by
  unfold ĭ gU
  simp only[Pr,Ro,Rn,Pq,Po,Pp,nat_ck,Pn,Rh]
def Da (x:Val .str) (k:(Val aH)->AN ρ) :
    Lr (ŗ ρ) 8 [.str] [Ã,tI] x k=yX x k:=by kernel_rfl
def rx:(jW ρ).Ok (oi ρ):=⟨by kernel_rfl,fun p v b a=>by kernel_rfl⟩
def pU:(jp ρ).Ok (nj ρ):=⟨by kernel_rfl,fun p v b a=>by kernel_rfl⟩
def yp:(qu ρ).Ok (jo ρ):=⟨by kernel_rfl,fun p v b a=>by kernel_rfl⟩
def yo:(qt ρ).Ok (jo ρ):=⟨by kernel_rfl,fun p v b a=>by kernel_rfl⟩
def yn:(qs ρ).Ok (jo ρ):=⟨by kernel_rfl,fun p v b a=>by kernel_rfl⟩
def ym:(qr ρ).Ok (jo ρ):=⟨by kernel_rfl,fun p v b a=>by kernel_rfl⟩
def mm:(f5 ρ).Ok (ě ρ):=⟨by kernel_rfl,fun p v b a=>by kernel_rfl⟩
def ml:(fZ ρ).Ok (ě ρ):=⟨by kernel_rfl,fun p v b a=>by kernel_rfl⟩
def mj:(fX ρ).Ok (ě ρ):=⟨by kernel_rfl,fun p v b a=>by kernel_rfl⟩
def oh (x:Val (.pair Ã (.pair ab (.pair tI (.pair tI (.pair tI (.pair tI (.pair Ì .str)))))))) (k:Bool->AN ρ) :
    Lr (ě ρ) 4 [Ã,ab,tI,tI,tI,tI,Ì,.str] [.bool] x k=gh x.1 x.2.1 x.2.2.1 x.2.2.2.1 x.2.2.2.2.1 x.2.2.2.2.2.1 x.2.2.2.2.2.2.1 x.2.2.2.2.2.2.2 k:=by kernel_rfl
def uX:(nl ρ).Ok (sW ρ):=⟨by kernel_rfl,fun p v b a=>by kernel_rfl⟩
def mn:(f7 ρ).Ok (jn ρ):=⟨by kernel_rfl,fun p v b a=>by kernel_rfl⟩
def AC:(tC ρ).Ok (vd ρ):=⟨by kernel_rfl,fun p v b a=>by kernel_rfl⟩
def AB:(tB ρ).Ok (vd ρ):=⟨by kernel_rfl,fun p v b a=>by kernel_rfl⟩
def yH:(qF ρ).Ok (rA ρ):=⟨by kernel_rfl,fun p v b a=>by kernel_rfl⟩
def yI:(qH ρ).Ok (rA ρ):=⟨by kernel_rfl,fun p v b a=>by kernel_rfl⟩
def C1:(wh ρ).Ok (E6 ρ):=⟨by kernel_rfl,fun p v b a=>by kernel_rfl⟩
def yJ (x:zg) (k:Bool->AN ρ) :
    Lr (tz ρ) 128 [Ñ] [.bool] x k=rB x k:=by kernel_rfl
def oB:(iy ρ).Ok (lP ρ):=⟨by kernel_rfl,fun p v b a=>by kernel_rfl⟩
def rD:(kd ρ).Ok (fM ρ):=⟨by kernel_rfl,fun p v b a=>by kernel_rfl⟩
def rC:(j9 ρ).Ok (fM ρ):=⟨by kernel_rfl,fun p v b a=>by kernel_rfl⟩
def vf (x:Val aO) (k:Int->AN ρ) :
    Lr (fM ρ) 131 [Ã,ak,tI] [tI] x k=mK x.1 x.2.1 x.2.2 k:=by kernel_rfl
def AA:(tr ρ).Ok (vc ρ):=⟨by kernel_rfl,fun p v b a=>by kernel_rfl⟩
def Az:(tq ρ).Ok (vc ρ):=⟨by kernel_rfl,fun p v b a=>by kernel_rfl⟩
def wV:(oz ρ).Ok (wl ρ):=⟨by kernel_rfl,fun p v b a=>by kernel_rfl⟩
def lE:(fK ρ).Ok (Η ρ):=⟨by kernel_rfl,fun p v b a=>by kernel_rfl⟩
def lD:(fJ ρ).Ok (Η ρ):=⟨by kernel_rfl,fun p v b a=>by kernel_rfl⟩
def AD:(tD ρ).Ok (BI ρ):=⟨by kernel_rfl,fun p v b a=>by kernel_rfl⟩
def nH:(gT ρ).Ok (Ĥ ρ):=⟨by kernel_rfl,fun p v b a=>by kernel_rfl⟩
def nE:(gP ρ).Ok (Ĥ ρ):=⟨by kernel_rfl,fun p v b a=>by kernel_rfl⟩
def nF:(gR ρ).Ok (Ĥ ρ):=⟨by kernel_rfl,fun p v b a=>by kernel_rfl⟩
def nD:(gO ρ).Ok (Ĥ ρ):=⟨by kernel_rfl,fun p v b a=>by kernel_rfl⟩
def pW (x:Val aO) (k:Int->AN ρ) :
    Lr (Ĥ ρ) 132 [Ã,ak,tI] [tI] x k=ij x.1 x.2.1 x.2.2 k:=by kernel_rfl
end Go.Proofs.ZzM
end
