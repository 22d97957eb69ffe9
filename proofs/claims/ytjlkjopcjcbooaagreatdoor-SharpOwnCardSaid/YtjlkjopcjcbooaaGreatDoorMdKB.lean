/- lemmas -/
import Derived.Test.YtjlkjopcjcbooaaGreatDoorMdMA
set_option linter.all false
noncomputable section
variable {ρ:Type}
set_option maxRecDepth 100000
namespace Go.Proofs.ZzM
open Go Go.Am
def HC:(yU ρ).Ok (Jk ρ):=⟨by kernel_rfl,fun p v kn a=>by kernel_rfl⟩
def If:(Ag ρ).Ok (Jy ρ):=⟨by kernel_rfl,fun p v kn a=>by kernel_rfl⟩
def FZ:(wY ρ).Ok (jh ρ):=⟨by kernel_rfl,fun p v kn a=>by kernel_rfl⟩
def FY:(wX ρ).Ok (jh ρ):=⟨by kernel_rfl,fun p v kn a=>by kernel_rfl⟩
def FX:(wW ρ).Ok (jh ρ):=⟨by kernel_rfl,fun p v kn a=>by kernel_rfl⟩
def FW:(wV ρ).Ok (jh ρ):=⟨by kernel_rfl,fun p v kn a=>by kernel_rfl⟩
def FV:(wU ρ).Ok (jh ρ):=⟨by kernel_rfl,fun p v kn a=>by kernel_rfl⟩
def Lf (x:bl) (k:rx->x9 ρ) :
    PH (jh ρ) 24 [Å] [.str,tI] x k=Au x k:=by kernel_rfl
def HT:(zB ρ).Ok (Jm ρ):=⟨by kernel_rfl,fun p v kn a=>by kernel_rfl⟩
def K3 (x:pc) (k:rx->x9 ρ) :
    PH (Fq ρ) 7 [Ĺ] [.str,tI] x k=Fs x k:=by kernel_rfl
def BM:(sJ ρ).Ok (mE ρ):=⟨by kernel_rfl,fun p v kn a=>by kernel_rfl⟩
def FQ (x:ey) (k:ag->x9 ρ) :
    PH (mE ρ) 160 [am] [af] x k=xL x k:=by kernel_rfl
def FN:(wP ρ).Ok (FO ρ):=⟨by kernel_rfl,fun p v kn a=>by kernel_rfl⟩
def DB:(((ŵ (δ ρ).P 40).elim [] (Ñ 0)).filter fun y=>Nat.beq y.1 0).length=1:=by kernel_rfl
def F3:TZ (w7 (ŵ (δ ρ).P 40) 0)=true:=by kernel_rfl
def F2 (p:so) (v a:th):(â gy [.str,tI,tI,tI,tI,tI,tI] [tI,tI,ac,aa,ae,ab,aa,tI,tI,tI,ac,aa,ae,ab,aa] p a).t=(â gy [.str,tI,tI,tI,tI,tI,tI] [tI,tI,ac,aa,ae,ab,aa,tI,tI,tI,ac,aa,ae,ab,aa] p v).t:=by kernel_rfl
def F0 (p:so) (v:th) (z:Val az):(â wZ [.str,tI,tI,tI,tI,tI,tI] [tI,tI,ac,aa,ae,ab,aa,tI] p z).t=(â gy [.str,tI,tI,tI,tI,tI,tI] [tI,tI,ac,aa,ae,ab,aa,tI,tI,tI,ac,aa,ae,ab,aa] p v).t:=by kernel_rfl
def F1 (p:so) (v:th):(â gy [.str,tI,tI,tI,tI,tI,tI] [tI,tI,ac,aa,ae,ab,aa,tI,tI,tI,ac,aa,ae,ab,aa] p v).t.all (st3 18)=true:=by kernel_rfl
def DD (p:so) (v:th) (y:ByteArray) (kn:so->th->x9 ρ) (f:so->Val az->x9 ρ):MQ (δ ρ) (ŭ (δ ρ) (10-0 / 2)) 40 [] 18 0 (w7 (ŵ (δ ρ).P 40) 0) (â gy [.str,tI,tI,tI,tI,tI,tI] [tI,tI,ac,aa,ae,ab,aa,tI,tI,tI,ac,aa,ae,ab,aa] p v) (.str y) (po.back kn f)=lN p.2.1 p.2.2.1 p.2.2.2.1 p.2.2.2.2.1 p.2.2.2.2.2.1 p.2.2.2.2.2.2 v.1 v.2.1 v.2.2.1 v.2.2.2.1 v.2.2.2.2.1 v.2.2.2.2.2.1 v.2.2.2.2.2.2.1 v.2.2.2.2.2.2.2.1 v.2.2.2.2.2.2.2.2.1 v.2.2.2.2.2.2.2.2.2.1 v.2.2.2.2.2.2.2.2.2.2.1 v.2.2.2.2.2.2.2.2.2.2.2.1 v.2.2.2.2.2.2.2.2.2.2.2.2.1 v.2.2.2.2.2.2.2.2.2.2.2.2.2.1 v.2.2.2.2.2.2.2.2.2.2.2.2.2.2 y (fun n u1 m l k j i h u8 g e d c b a=>kn p (n,u1,m,l,k,j,i,h,u8,g,e,d,c,b,a)) (f p):=by kernel_rfl
def DC (p:so) (v:th) (y:ByteArray) (kn:so->th->x9 ρ) (f:so->Val az->x9 ρ):lN p.2.1 p.2.2.1 p.2.2.2.1 p.2.2.2.2.1 p.2.2.2.2.2.1 p.2.2.2.2.2.2 v.1 v.2.1 v.2.2.1 v.2.2.2.1 v.2.2.2.2.1 v.2.2.2.2.2.1 v.2.2.2.2.2.2.1 v.2.2.2.2.2.2.2.1 v.2.2.2.2.2.2.2.2.1 v.2.2.2.2.2.2.2.2.2.1 v.2.2.2.2.2.2.2.2.2.2.1 v.2.2.2.2.2.2.2.2.2.2.2.1 v.2.2.2.2.2.2.2.2.2.2.2.2.1 v.2.2.2.2.2.2.2.2.2.2.2.2.2.1 v.2.2.2.2.2.2.2.2.2.2.2.2.2.2 y (fun n u1 m l k j i h u8 g e d c b a=>kn p (n,u1,m,l,k,j,i,h,u8,g,e,d,c,b,a)) (f p)=Ã (Œ p.2.1 p.2.2.1 p.2.2.2.1 p.2.2.2.2.1 p.2.2.2.2.2.1 p.2.2.2.2.2.2 v y) (acN (kn p) (f p)):=by
  unfold Œ lN
  simp only[aas,ac5,ac4,aar,aap,aaq,nat_ck,aao,acN]
def Lg (x:Val .str) (k:px->x9 ρ) :
    PH (δ ρ) 40 [.str] [Å,tI] x k=F5 x k:=by kernel_rfl
def BC:(sr ρ).Ok (mC ρ):=⟨by kernel_rfl,fun p v kn a=>by kernel_rfl⟩
def Fk (x:ey) (k:ag->x9 ρ) :
    PH (mC ρ) 43 [am] [af] x k=Fl x k:=by kernel_rfl
def Ft:(wx ρ).Ok (rk ρ):=⟨by kernel_rfl,fun p v kn a=>by kernel_rfl⟩
def K4 (x:Val .str) (k:lA->x9 ρ) :
    PH (rk ρ) 10 [.str] [Ĺ,tI] x k=zF x k:=by kernel_rfl
def xD:(ow ρ).Ok (tQ ρ):=⟨by kernel_rfl,fun p v kn a=>by kernel_rfl⟩
def vP:(nF ρ).Ok (sm ρ):=⟨by kernel_rfl,fun p v kn a=>by kernel_rfl⟩
def Ff:(wo ρ).Ok (nE ρ):=⟨by kernel_rfl,fun p v kn a=>by kernel_rfl⟩
def Fe:(wn ρ).Ok (nE ρ):=⟨by kernel_rfl,fun p v kn a=>by kernel_rfl⟩
def Fc:(wm ρ).Ok (nE ρ):=⟨by kernel_rfl,fun p v kn a=>by kernel_rfl⟩
def E9:(wj ρ).Ok (nE ρ):=⟨by kernel_rfl,fun p v kn a=>by kernel_rfl⟩
def xE:(ox ρ).Ok (tR ρ):=⟨by kernel_rfl,fun p v kn a=>by kernel_rfl⟩
def jJ:(Ű ρ).Ok (υ ρ):=⟨by kernel_rfl,fun p v kn a=>by kernel_rfl⟩
def FB:(wD ρ).Ok (FC ρ):=⟨by kernel_rfl,fun p v kn a=>by kernel_rfl⟩
def zO:(qp ρ).Ok (ŧ ρ):=⟨by kernel_rfl,fun p v kn a=>by kernel_rfl⟩
def zN:(qn ρ).Ok (ŧ ρ):=⟨by kernel_rfl,fun p v kn a=>by kernel_rfl⟩
def zL:(qj ρ).Ok (ŧ ρ):=⟨by kernel_rfl,fun p v kn a=>by kernel_rfl⟩
def zM:(ql ρ).Ok (ŧ ρ):=⟨by kernel_rfl,fun p v kn a=>by kernel_rfl⟩
def zK:(qi ρ).Ok (ŧ ρ):=⟨by kernel_rfl,fun p v kn a=>by kernel_rfl⟩
def Dl (x:Val (.pair Ð ak)) (k:v6->x9 ρ) :
    PH (ŧ ρ) 143 [Ð,ak] [af,.bool] x k=tT x.1 x.2 k:=by kernel_rfl
def Fz:(wB ρ).Ok (FA ρ):=⟨by kernel_rfl,fun p v kn a=>by kernel_rfl⟩
def Ds:(ud ρ).Ok (gW ρ):=⟨by kernel_rfl,fun p v kn a=>by kernel_rfl⟩
def Dr:(t7 ρ).Ok (gW ρ):=⟨by kernel_rfl,fun p v kn a=>by kernel_rfl⟩
def Dq:(tY ρ).Ok (gW ρ):=⟨by kernel_rfl,fun p v kn a=>by kernel_rfl⟩
def Dn:(tU ρ).Ok (gW ρ):=⟨by kernel_rfl,fun p v kn a=>by kernel_rfl⟩
def Dp:(tW ρ).Ok (gW ρ):=⟨by kernel_rfl,fun p v kn a=>by kernel_rfl⟩
def HY (x:Val (.pair Ð (.pair ak tI))) (k:ag->x9 ρ) :
    PH (gW ρ) 180 [Ð,ak,tI] [af] x k=BJ x.1 x.2.1 x.2.2 k:=by kernel_rfl
def tS (x:nn) (k:an->x9 ρ) :
    PH (je ρ) 47 [aB,Â] [Â] x k=kz x.1 x.2 k:=by kernel_rfl
def FG:(wM ρ).Ok (FH ρ):=⟨by kernel_rfl,fun p v kn a=>by kernel_rfl⟩
def K9 (x:Val (.pair ń Â)) (k:Val VE->x9 ρ) :
    PH (xJ ρ) 310 [ń,Â] [ń,tI] x k=FJ x.1 x.2 k:=by kernel_rfl
def Ie:(Ae ρ).Ok (BN ρ):=⟨by kernel_rfl,fun p v kn a=>by kernel_rfl⟩
def Ic:(Ac ρ).Ok (BN ρ):=⟨by kernel_rfl,fun p v kn a=>by kernel_rfl⟩
def Ia:(zY ρ).Ok (vk ρ):=⟨by kernel_rfl,fun p v kn a=>by kernel_rfl⟩
def Ib:(Aa ρ).Ok (vk ρ):=⟨by kernel_rfl,fun p v kn a=>by kernel_rfl⟩
def H9:(zW ρ).Ok (vk ρ):=⟨by kernel_rfl,fun p v kn a=>by kernel_rfl⟩
def Ir:(Aw ρ).Ok (JE ρ):=⟨by kernel_rfl,fun p v kn a=>by kernel_rfl⟩
def zG:(qf ρ).Ok (wz ρ):=⟨by kernel_rfl,fun p v kn a=>by kernel_rfl⟩
def Qp:(Ju ρ).Ok (Fy ρ):=⟨by kernel_rfl,fun p v kn a=>by kernel_rfl⟩
def Qn:(Jr ρ).Ok (Fy ρ):=⟨by kernel_rfl,fun p v kn a=>by kernel_rfl⟩
def Qm:(Jp ρ).Ok (Fy ρ):=⟨by kernel_rfl,fun p v kn a=>by kernel_rfl⟩
def Qo:(Jt ρ).Ok (Fy ρ):=⟨by kernel_rfl,fun p v kn a=>by kernel_rfl⟩
def FF:(wK ρ).Ok (rt ρ):=⟨by kernel_rfl,fun p v kn a=>by kernel_rfl⟩
def FD:(wG ρ).Ok (rt ρ):=⟨by kernel_rfl,fun p v kn a=>by kernel_rfl⟩
def FE:(wI ρ).Ok (rt ρ):=⟨by kernel_rfl,fun p v kn a=>by kernel_rfl⟩
def BB:(sq ρ).Ok (zc ρ):=⟨by kernel_rfl,fun p v kn a=>by kernel_rfl⟩
def BG:(sw ρ).Ok (jP ρ):=⟨by kernel_rfl,fun p v kn a=>by kernel_rfl⟩
def BF:(su ρ).Ok (jP ρ):=⟨by kernel_rfl,fun p v kn a=>by kernel_rfl⟩
def Fv (x:Val (.pair Å (.pair Â .bool))) (k:lA->x9 ρ) :
    PH (jP ρ) 13 [Å,Â,.bool] [Ĺ,tI] x k=xI x.1 x.2.1 x.2.2 k:=by kernel_rfl
def BI:(sG ρ).Ok (zP ρ):=⟨by kernel_rfl,fun p v kn a=>by kernel_rfl⟩
def HX:(zJ ρ).Ok (Jo ρ):=⟨by kernel_rfl,fun p v kn a=>by kernel_rfl⟩
def jd:(Ś ρ).Ok (Α ρ):=⟨by kernel_rfl,fun p v kn a=>by kernel_rfl⟩
def ky:(Λ ρ).Ok (gR ρ):=⟨by kernel_rfl,fun p v kn a=>by kernel_rfl⟩
def jK:(ű ρ).Ok (χ ρ):=⟨by kernel_rfl,fun p v kn a=>by kernel_rfl⟩
def HQ:(zz ρ).Ok (ş ρ):=⟨by kernel_rfl,fun p v kn a=>by kernel_rfl⟩
def HN:(zq ρ).Ok (ş ρ):=⟨by kernel_rfl,fun p v kn a=>by kernel_rfl⟩
def HM:(zo ρ).Ok (ş ρ):=⟨by kernel_rfl,fun p v kn a=>by kernel_rfl⟩
def HO:(zu ρ).Ok (ş ρ):=⟨by kernel_rfl,fun p v kn a=>by kernel_rfl⟩
def HP:(zx ρ).Ok (ş ρ):=⟨by kernel_rfl,fun p v kn a=>by kernel_rfl⟩
def HL:(zm ρ).Ok (ş ρ):=⟨by kernel_rfl,fun p v kn a=>by kernel_rfl⟩
def HK:(zk ρ).Ok (ş ρ):=⟨by kernel_rfl,fun p v kn a=>by kernel_rfl⟩
def HJ:(zi ρ).Ok (ş ρ):=⟨by kernel_rfl,fun p v kn a=>by kernel_rfl⟩
def HI:(zf ρ).Ok (ş ρ):=⟨by kernel_rfl,fun p v kn a=>by kernel_rfl⟩
def HH:(zd ρ).Ok (ş ρ):=⟨by kernel_rfl,fun p v kn a=>by kernel_rfl⟩
def NH (x:Val (.pair Å Å)) (k:Bool->x9 ρ) :
    PH (ş ρ) 57 [Å,Å] [.bool] x k=KS x.1 x.2 k:=by kernel_rfl
def xB:(oo ρ).Ok (tO ρ):=⟨by kernel_rfl,fun p v kn a=>by kernel_rfl⟩
end Go.Proofs.ZzM
end
