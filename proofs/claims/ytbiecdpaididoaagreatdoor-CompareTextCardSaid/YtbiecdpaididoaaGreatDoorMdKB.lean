/- lemmas -/
import Derived.Test.YtbiecdpaididoaaGreatDoorMdMA
set_option linter.all false
noncomputable section
variable {ρ:Type}
set_option maxRecDepth 100000
namespace Go.Proofs.ZzM
open Go Go.Am
def AP:(qm ρ).Ok (zY ρ):=⟨by kernel_rfl,fun p v b a=>by kernel_rfl⟩
def FY:(xf ρ).Ok (y0 ρ):=⟨by kernel_rfl,fun p v b a=>by kernel_rfl⟩
def FX:(xd ρ).Ok (y0 ρ):=⟨by kernel_rfl,fun p v b a=>by kernel_rfl⟩
def gF:(Ŏ ρ).Ok (ŧ ρ):=⟨by kernel_rfl,fun p v b a=>by kernel_rfl⟩
def DH:(uk ρ).Ok (DI ρ):=⟨by kernel_rfl,fun p v b a=>by kernel_rfl⟩
def Jb (x:Val (.pair ù Å)) (k:Val pT->Nm ρ) :
    Ph (vx ρ) 165 [ù,Å] [ù,tI] x k=DL x.1 x.2 k:=by kernel_rfl
def FV:(w9 ρ).Ok (sd ρ):=⟨by kernel_rfl,fun p v b a=>by kernel_rfl⟩
def FW:(xb ρ).Ok (sd ρ):=⟨by kernel_rfl,fun p v b a=>by kernel_rfl⟩
def FU:(w7 ρ).Ok (sd ρ):=⟨by kernel_rfl,fun p v b a=>by kernel_rfl⟩
def oB:(ic ρ).Ok (kE ρ):=⟨by kernel_rfl,fun p v b a=>by kernel_rfl⟩
def DF:(uh ρ).Ok (DG ρ):=⟨by kernel_rfl,fun p v b a=>by kernel_rfl⟩
def FP:(wU ρ).Ok (yX ρ):=⟨by kernel_rfl,fun p v b a=>by kernel_rfl⟩
def FO:(wS ρ).Ok (yX ρ):=⟨by kernel_rfl,fun p v b a=>by kernel_rfl⟩
def DY:(uB ρ).Ok (DZ ρ):=⟨by kernel_rfl,fun p v b a=>by kernel_rfl⟩
def F6:(xu ρ).Ok (HB ρ):=⟨by kernel_rfl,fun p v b a=>by kernel_rfl⟩
def wQ:(nu ρ).Ok (ň ρ):=⟨by kernel_rfl,fun p v b a=>by kernel_rfl⟩
def wP:(nr ρ).Ok (ň ρ):=⟨by kernel_rfl,fun p v b a=>by kernel_rfl⟩
def wN:(nl ρ).Ok (ň ρ):=⟨by kernel_rfl,fun p v b a=>by kernel_rfl⟩
def wO:(np ρ).Ok (ň ρ):=⟨by kernel_rfl,fun p v b a=>by kernel_rfl⟩
def wM:(nk ρ).Ok (ň ρ):=⟨by kernel_rfl,fun p v b a=>by kernel_rfl⟩
def Bi (x:Val (.pair í ao)) (k:IN->Nm ρ) :
    Ph (ň ρ) 160 [í,ao] [ac,.bool] x k=qO x.1 x.2 k:=by kernel_rfl
def DD:(ue ρ).Ok (DE ρ):=⟨by kernel_rfl,fun p v b a=>by kernel_rfl⟩
def Bn:(qX ρ).Ok (Β ρ):=⟨by kernel_rfl,fun p v b a=>by kernel_rfl⟩
def Bm:(qV ρ).Ok (Β ρ):=⟨by kernel_rfl,fun p v b a=>by kernel_rfl⟩
def Bl:(qT ρ).Ok (Β ρ):=⟨by kernel_rfl,fun p v b a=>by kernel_rfl⟩
def Bj:(qP ρ).Ok (Β ρ):=⟨by kernel_rfl,fun p v b a=>by kernel_rfl⟩
def Bk:(qR ρ).Ok (Β ρ):=⟨by kernel_rfl,fun p v b a=>by kernel_rfl⟩
def FN (x:Val (.pair í (.pair ao tI))) (k:an->Nm ρ) :
    Ph (Β ρ) 117 [í,ao,tI] [ac] x k=yW x.1 x.2.1 x.2.2 k:=by kernel_rfl
def Jl:(Ao ρ).Ok (Mk ρ):=⟨by kernel_rfl,fun p v b a=>by kernel_rfl⟩
def CS (x:Unit) (k:Bool->Nm ρ) :
    Ph (ww ρ) 6 [] [.bool] x k=vm k:=by kernel_rfl
def FZ:(xh ρ).Ok (Hw ρ):=⟨by kernel_rfl,fun p v b a=>by kernel_rfl⟩
def D5:(uG ρ).Ok (f6 ρ):=⟨by kernel_rfl,fun p v b a=>by kernel_rfl⟩
def D4:(uF ρ).Ok (f6 ρ):=⟨by kernel_rfl,fun p v b a=>by kernel_rfl⟩
def D3:(uE ρ).Ok (f6 ρ):=⟨by kernel_rfl,fun p v b a=>by kernel_rfl⟩
def D2:(uD ρ).Ok (f6 ρ):=⟨by kernel_rfl,fun p v b a=>by kernel_rfl⟩
def D0:(uC ρ).Ok (f6 ρ):=⟨by kernel_rfl,fun p v b a=>by kernel_rfl⟩
def Ji (x:bx) (k:v7->Nm ρ) :
    Ph (f6 ρ) 7 [Ä] [.str,tI] x k=xw x k:=by kernel_rfl
def yZ:(pz ρ).Ok (jO ρ):=⟨by kernel_rfl,fun p v b a=>by kernel_rfl⟩
def DT (x:fy) (k:an->Nm ρ) :
    Ph (jO ρ) 74 [ai] [ac] x k=vy x k:=by kernel_rfl
def DQ:(ur ρ).Ok (DR ρ):=⟨by kernel_rfl,fun p v b a=>by kernel_rfl⟩
def Bu:(((Θ (ş ρ).P 8).elim [] (Ú 0)).filter fun y=>Nat.beq y.1 0).length=1:=by kernel_rfl
def Ea:Rg (uI (Θ (ş ρ).P 8) 0)=true:=by kernel_rfl
def D9 (p:IS) (v a:LE):(é ů [.str,tI,tI,tI,tI,tI,tI] [tI,tI,ae,aa,af,ab,aa,tI,tI,tI,ae,aa,af,ab,aa] p a).t=(é ů [.str,tI,tI,tI,tI,tI,tI] [tI,tI,ae,aa,af,ab,aa,tI,tI,tI,ae,aa,af,ab,aa] p v).t:=by kernel_rfl
def D7 (p:IS) (v:LE) (z:Val ay):(é uH [.str,tI,tI,tI,tI,tI,tI] [tI,tI,ae,aa,af,ab,aa,tI] p z).t=(é ů [.str,tI,tI,tI,tI,tI,tI] [tI,tI,ae,aa,af,ab,aa,tI,tI,tI,ae,aa,af,ab,aa] p v).t:=by kernel_rfl
def D8 (p:IS) (v:LE):(é ů [.str,tI,tI,tI,tI,tI,tI] [tI,tI,ae,aa,af,ab,aa,tI,tI,tI,ae,aa,af,ab,aa] p v).t.all (st3 18)=true:=by kernel_rfl
def Bw (p:IS) (v:LE) (y:ByteArray) (g:IS->LE->Nm ρ) (f:IS->Val ay->Nm ρ):KF (ş ρ) (Η (ş ρ) (10-0 / 2)) 8 [] 18 0 (uI (Θ (ş ρ).P 8) 0) (é ů [.str,tI,tI,tI,tI,tI,tI] [tI,tI,ae,aa,af,ab,aa,tI,tI,tI,ae,aa,af,ab,aa] p v) (.str y) (mA.back g f)=iU p.2.1 p.2.2.1 p.2.2.2.1 p.2.2.2.2.1 p.2.2.2.2.2.1 p.2.2.2.2.2.2 v.1 v.2.1 v.2.2.1 v.2.2.2.1 v.2.2.2.2.1 v.2.2.2.2.2.1 v.2.2.2.2.2.2.1 v.2.2.2.2.2.2.2.1 v.2.2.2.2.2.2.2.2.1 v.2.2.2.2.2.2.2.2.2.1 v.2.2.2.2.2.2.2.2.2.2.1 v.2.2.2.2.2.2.2.2.2.2.2.1 v.2.2.2.2.2.2.2.2.2.2.2.2.1 v.2.2.2.2.2.2.2.2.2.2.2.2.2.1 v.2.2.2.2.2.2.2.2.2.2.2.2.2.2 y (fun o u1 n m l k j i u8 h e d c b a=>g p (o,u1,n,m,l,k,j,i,u8,h,e,d,c,b,a)) (f p):=by kernel_rfl
def Bv (p:IS) (v:LE) (y:ByteArray) (g:IS->LE->Nm ρ) (f:IS->Val ay->Nm ρ):iU p.2.1 p.2.2.1 p.2.2.2.1 p.2.2.2.2.1 p.2.2.2.2.2.1 p.2.2.2.2.2.2 v.1 v.2.1 v.2.2.1 v.2.2.2.1 v.2.2.2.2.1 v.2.2.2.2.2.1 v.2.2.2.2.2.2.1 v.2.2.2.2.2.2.2.1 v.2.2.2.2.2.2.2.2.1 v.2.2.2.2.2.2.2.2.2.1 v.2.2.2.2.2.2.2.2.2.2.1 v.2.2.2.2.2.2.2.2.2.2.2.1 v.2.2.2.2.2.2.2.2.2.2.2.2.1 v.2.2.2.2.2.2.2.2.2.2.2.2.2.1 v.2.2.2.2.2.2.2.2.2.2.2.2.2.2 y (fun o u1 n m l k j i u8 h e d c b a=>g p (o,u1,n,m,l,k,j,i,u8,h,e,d,c,b,a)) (f p)=Â (Ķ p.2.1 p.2.2.1 p.2.2.2.1 p.2.2.2.2.1 p.2.2.2.2.2.1 p.2.2.2.2.2.2 v y) (Zg (g p) (f p)):=by
  unfold Ķ iU
  simp only[Xp,Zo,Zn,Xo,Xm,Xn,nat_ck,Xl,Zg]
def Jk (x:Val .str) (k:LT->Nm ρ) :
    Ph (ş ρ) 8 [.str] [Ä,tI] x k=Ec x k:=by kernel_rfl
def FM:(wL ρ).Ok (Ht ρ):=⟨by kernel_rfl,fun p v b a=>by kernel_rfl⟩
def yY:(pv ρ).Ok (wW ρ):=⟨by kernel_rfl,fun p v b a=>by kernel_rfl⟩
def oi:(hZ ρ).Ok (kw ρ):=⟨by kernel_rfl,fun p v b a=>by kernel_rfl⟩
def F3:(xn ρ).Ok (y6 ρ):=⟨by kernel_rfl,fun p v b a=>by kernel_rfl⟩
def F2:(xm ρ).Ok (y6 ρ):=⟨by kernel_rfl,fun p v b a=>by kernel_rfl⟩
def DU:(uu ρ).Ok (vz ρ):=⟨by kernel_rfl,fun p v b a=>by kernel_rfl⟩
def DW:(uz ρ).Ok (vz ρ):=⟨by kernel_rfl,fun p v b a=>by kernel_rfl⟩
def Ja:(Ag ρ).Ok (L2 ρ):=⟨by kernel_rfl,fun p v b a=>by kernel_rfl⟩
def DX (x:An) (k:Bool->Nm ρ) :
    Ph (xl ρ) 128 [Ô] [.bool] x k=vA x k:=by kernel_rfl
def rh:(jo ρ).Ok (nz ρ):=⟨by kernel_rfl,fun p v b a=>by kernel_rfl⟩
def vC:(lZ ρ).Ok (gP ρ):=⟨by kernel_rfl,fun p v b a=>by kernel_rfl⟩
def vB:(lY ρ).Ok (gP ρ):=⟨by kernel_rfl,fun p v b a=>by kernel_rfl⟩
def y8 (x:Val aR) (k:Int->Nm ρ) :
    Ph (gP ρ) 131 [Ä,ak,tI] [tI] x k=oL x.1 x.2.1 x.2.2 k:=by kernel_rfl
def F1:(xj ρ).Ok (y5 ρ):=⟨by kernel_rfl,fun p v b a=>by kernel_rfl⟩
def F0:(xi ρ).Ok (y5 ρ):=⟨by kernel_rfl,fun p v b a=>by kernel_rfl⟩
def Bt:(qZ ρ).Ok (Ak ρ):=⟨by kernel_rfl,fun p v b a=>by kernel_rfl⟩
def nh:(gH ρ).Ok (π ρ):=⟨by kernel_rfl,fun p v b a=>by kernel_rfl⟩
def ng:(gG ρ).Ok (π ρ):=⟨by kernel_rfl,fun p v b a=>by kernel_rfl⟩
def F4:(xq ρ).Ok (HA ρ):=⟨by kernel_rfl,fun p v b a=>by kernel_rfl⟩
def pN:(iS ρ).Ok (Ĥ ρ):=⟨by kernel_rfl,fun p v b a=>by kernel_rfl⟩
def pL:(iO ρ).Ok (Ĥ ρ):=⟨by kernel_rfl,fun p v b a=>by kernel_rfl⟩
def pM:(iQ ρ).Ok (Ĥ ρ):=⟨by kernel_rfl,fun p v b a=>by kernel_rfl⟩
def pK:(iM ρ).Ok (Ĥ ρ):=⟨by kernel_rfl,fun p v b a=>by kernel_rfl⟩
def td (x:Val aR) (k:Int->Nm ρ) :
    Ph (Ĥ ρ) 132 [Ä,ak,tI] [tI] x k=jf x.1 x.2.1 x.2.2 k:=by kernel_rfl
end Go.Proofs.ZzM
end
