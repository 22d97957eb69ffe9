/- lemmas -/
import Derived.Test.YtanjeafjkgllhaaGreatDoorMdMA
set_option linter.all false
noncomputable section
variable {ρ:Type}
set_option maxRecDepth 100000
namespace Go.Proofs.ZzM
open Go Go.Am
variable [Globs] [LC]
def Q2:(E7 ρ).Ok (Ai ρ):=⟨by kernel_rfl,fun p v b a=>by kernel_rfl⟩
def Q0:(E5 ρ).Ok (Ai ρ):=⟨by kernel_rfl,fun p v b a=>by kernel_rfl⟩
def Yy (x:ni) (k:a8->rF ρ) :
    LN (Ai ρ) 63 [Ä,ab] [Ä] x k=ac5 x.1 x.2 k:=by kernel_rfl
def Rj:(FA ρ).Ok (H7 ρ):=⟨by kernel_rfl,fun p v b a=>by kernel_rfl⟩
def Ri:(Fz ρ).Ok (H7 ρ):=⟨by kernel_rfl,fun p v b a=>by kernel_rfl⟩
def Kz:(yd ρ).Ok (JC ρ):=⟨by kernel_rfl,fun p v b a=>by kernel_rfl⟩
def Fv:(tQ ρ).Ok (ğ ρ):=⟨by kernel_rfl,fun p v b a=>by kernel_rfl⟩
def Fw:(tS ρ).Ok (ğ ρ):=⟨by kernel_rfl,fun p v b a=>by kernel_rfl⟩
def Fu:(tO ρ).Ok (ğ ρ):=⟨by kernel_rfl,fun p v b a=>by kernel_rfl⟩
def Ft:(tM ρ).Ok (ğ ρ):=⟨by kernel_rfl,fun p v b a=>by kernel_rfl⟩
def Fq:(tF ρ).Ok (ğ ρ):=⟨by kernel_rfl,fun p v b a=>by kernel_rfl⟩
def Fp:(tD ρ).Ok (ğ ρ):=⟨by kernel_rfl,fun p v b a=>by kernel_rfl⟩
def Fo:(tB ρ).Ok (ğ ρ):=⟨by kernel_rfl,fun p v b a=>by kernel_rfl⟩
def Fs:(tJ ρ).Ok (ğ ρ):=⟨by kernel_rfl,fun p v b a=>by kernel_rfl⟩
def KA (x:ni) (k:kw->rF ρ) :
    LN (ğ ρ) 23 [Ä,ab] [ab,tI] x k=JD x.1 x.2 k:=by kernel_rfl
def Dz:(rt ρ).Ok (lB ρ):=⟨by kernel_rfl,fun p v b a=>by kernel_rfl⟩
def Dy:(rq ρ).Ok (lB ρ):=⟨by kernel_rfl,fun p v b a=>by kernel_rfl⟩
def H6 (x:Val bw) (k:(Val bD)->rF ρ) :
    LN (lB ρ) 24 [Ä,tI] [.bool,tI] x k=Fl x.1 x.2 k:=by kernel_rfl
def abo:(T9 ρ).Ok (OP ρ):=⟨by kernel_rfl,fun p v b a=>by kernel_rfl⟩
def abm:(T6 ρ).Ok (OP ρ):=⟨by kernel_rfl,fun p v b a=>by kernel_rfl⟩
def abl:(T4 ρ).Ok (OP ρ):=⟨by kernel_rfl,fun p v b a=>by kernel_rfl⟩
def abn:(T8 ρ).Ok (OP ρ):=⟨by kernel_rfl,fun p v b a=>by kernel_rfl⟩
def O0:(Cw ρ).Ok (mw ρ):=⟨by kernel_rfl,fun p v b a=>by kernel_rfl⟩
def OW:(Co ρ).Ok (mw ρ):=⟨by kernel_rfl,fun p v b a=>by kernel_rfl⟩
def OX:(Cq ρ).Ok (mw ρ):=⟨by kernel_rfl,fun p v b a=>by kernel_rfl⟩
def OY:(Cs ρ).Ok (mw ρ):=⟨by kernel_rfl,fun p v b a=>by kernel_rfl⟩
def OZ:(Cu ρ).Ok (mw ρ):=⟨by kernel_rfl,fun p v b a=>by kernel_rfl⟩
def ND:(BO ρ).Ok (NE ρ):=⟨by kernel_rfl,fun p v b a=>by kernel_rfl⟩
def Ij:(wG ρ).Ok (F4 ρ):=⟨by kernel_rfl,fun p v b a=>by kernel_rfl⟩
def RM:(FW ρ).Ok (T3 ρ):=⟨by kernel_rfl,fun p v b a=>by kernel_rfl⟩
def Bc:(pQ ρ).Ok (wB ρ):=⟨by kernel_rfl,fun p v b a=>by kernel_rfl⟩
def DJ:(rP ρ).Ok (yI ρ):=⟨by kernel_rfl,fun p v b a=>by kernel_rfl⟩
def FG:(ue ρ).Ok (B0 ρ):=⟨by kernel_rfl,fun p v b a=>by kernel_rfl⟩
def H4 (x:Unit) (k:Bool->rF ρ) :
    LN (xQ ρ) 6 [] [.bool] x k=ER k:=by kernel_rfl
def Sh:(Gq ρ).Ok (Ud ρ):=⟨by kernel_rfl,fun p v b a=>by kernel_rfl⟩
def Pv:(CL ρ).Ok (kq ρ):=⟨by kernel_rfl,fun p v b a=>by kernel_rfl⟩
def Pu:(CJ ρ).Ok (kq ρ):=⟨by kernel_rfl,fun p v b a=>by kernel_rfl⟩
def Ps:(CI ρ).Ok (kq ρ):=⟨by kernel_rfl,fun p v b a=>by kernel_rfl⟩
def Pr:(CH ρ).Ok (kq ρ):=⟨by kernel_rfl,fun p v b a=>by kernel_rfl⟩
def Pq:(CG ρ).Ok (kq ρ):=⟨by kernel_rfl,fun p v b a=>by kernel_rfl⟩
def Wc (x:bA) (k:ge->rF ρ) :
    LN (kq ρ) 36 [È] [.str,tI] x k=GA x k:=by kernel_rfl
def NF:(BP ρ).Ok (DA ρ):=⟨by kernel_rfl,fun p v b a=>by kernel_rfl⟩
def NG:(BS ρ).Ok (DA ρ):=⟨by kernel_rfl,fun p v b a=>by kernel_rfl⟩
def Io:(wI ρ).Ok (oU ρ):=⟨by kernel_rfl,fun p v b a=>by kernel_rfl⟩
def Pc (x:ey) (k:an->rF ρ) :
    LN (oU ρ) 161 [ao] [ab] x k=DQ x k:=by kernel_rfl
def O9:(CA ρ).Ok (Pa ρ):=⟨by kernel_rfl,fun p v b a=>by kernel_rfl⟩
def Lw:(((ô (ii ρ).P 31).elim [] (Ø 0)).filter fun y=>Nat.beq y.1 0).length=1:=by kernel_rfl
def Pz:Eo (iw (ô (ii ρ).P 31) 0)=true:=by kernel_rfl
def Py (p:rm) (v a:rn):(à iC [.str,tI,tI,tI,tI,tI,tI] [tI,tI,ae,aa,af,ac,aa,tI,tI,tI,ae,aa,af,ac,aa] p a).t=(à iC [.str,tI,tI,tI,tI,tI,tI] [tI,tI,ae,aa,af,ac,aa,tI,tI,tI,ae,aa,af,ac,aa] p v).t:=by kernel_rfl
def Pw (p:rm) (v:rn) (z:Val aM):(à CM [.str,tI,tI,tI,tI,tI,tI] [tI,tI,ae,aa,af,ac,aa,tI] p z).t=(à iC [.str,tI,tI,tI,tI,tI,tI] [tI,tI,ae,aa,af,ac,aa,tI,tI,tI,ae,aa,af,ac,aa] p v).t:=by kernel_rfl
def Px (p:rm) (v:rn):(à iC [.str,tI,tI,tI,tI,tI,tI] [tI,tI,ae,aa,af,ac,aa,tI,tI,tI,ae,aa,af,ac,aa] p v).t.all (st3 18)=true:=by kernel_rfl
def Ly (p:rm) (v:rn) (y:ByteArray) (g:rm->rn->rF ρ) (f:rm->Val aM->rF ρ):S7 (ii ρ) (Ğ (ii ρ) (10-0 / 2)) 31 [] 18 0 (iw (ô (ii ρ).P 31) 0) (à iC [.str,tI,tI,tI,tI,tI,tI] [tI,tI,ae,aa,af,ac,aa,tI,tI,tI,ae,aa,af,ac,aa] p v) (.str y) ((sP ρ).back g f)=nJ p.2.1 p.2.2.1 p.2.2.2.1 p.2.2.2.2.1 p.2.2.2.2.2.1 p.2.2.2.2.2.2 v.1 v.2.1 v.2.2.1 v.2.2.2.1 v.2.2.2.2.1 v.2.2.2.2.2.1 v.2.2.2.2.2.2.1 v.2.2.2.2.2.2.2.1 v.2.2.2.2.2.2.2.2.1 v.2.2.2.2.2.2.2.2.2.1 v.2.2.2.2.2.2.2.2.2.2.1 v.2.2.2.2.2.2.2.2.2.2.2.1 v.2.2.2.2.2.2.2.2.2.2.2.2.1 v.2.2.2.2.2.2.2.2.2.2.2.2.2.1 v.2.2.2.2.2.2.2.2.2.2.2.2.2.2 y (fun o u1 n m l k j i u8 h e d c b a=>g p (o,u1,n,m,l,k,j,i,u8,h,e,d,c,b,a)) (f p):=by kernel_rfl
def Lx (p:rm) (v:rn) (y:ByteArray) (g:rm->rn->rF ρ) (f:rm->Val aM->rF ρ):nJ p.2.1 p.2.2.1 p.2.2.2.1 p.2.2.2.2.1 p.2.2.2.2.2.1 p.2.2.2.2.2.2 v.1 v.2.1 v.2.2.1 v.2.2.2.1 v.2.2.2.2.1 v.2.2.2.2.2.1 v.2.2.2.2.2.2.1 v.2.2.2.2.2.2.2.1 v.2.2.2.2.2.2.2.2.1 v.2.2.2.2.2.2.2.2.2.1 v.2.2.2.2.2.2.2.2.2.2.1 v.2.2.2.2.2.2.2.2.2.2.2.1 v.2.2.2.2.2.2.2.2.2.2.2.2.1 v.2.2.2.2.2.2.2.2.2.2.2.2.2.1 v.2.2.2.2.2.2.2.2.2.2.2.2.2.2 y (fun o u1 n m l k j i u8 h e d c b a=>g p (o,u1,n,m,l,k,j,i,u8,h,e,d,c,b,a)) (f p)=Â (ŗ p.2.1 p.2.2.1 p.2.2.2.1 p.2.2.2.2.1 p.2.2.2.2.2.1 p.2.2.2.2.2.2 v y) (outX (g p) (f p)):=by
  unfold ŗ nJ
  simp only[ak4,ano,ann,ak3,ak1,ak2,nat_ck,ak0,outX]
def Wd (x:Val .str) (k:rd->rF ρ) :
    LN (ii ρ) 31 [.str] [È,tI] x k=PB x k:=by kernel_rfl
def NM:(BU ρ).Ok (Ŷ ρ):=⟨by kernel_rfl,fun p v b a=>by kernel_rfl⟩
def KB:(((ô (Ŷ ρ).P 7).elim [] (Ø 0)).filter fun y=>Nat.beq y.1 0).length=1:=by kernel_rfl
def NK:Eo (iw (ô (Ŷ ρ).P 7) 0)=true:=by kernel_rfl
def NJ (p:Val bI) (v a:Val aw):(à iB [.str,tI,tI,ae,aa,af,ac,aa,tI,tI,ae,aa,af,ac,aa] [tI,tI,ae,aa,af,ac,aa,ai,tI,ai] p a).t=(à iB [.str,tI,tI,ae,aa,af,ac,aa,tI,tI,ae,aa,af,ac,aa] [tI,tI,ae,aa,af,ac,aa,ai,tI,ai] p v).t:=by kernel_rfl
def NH (p:Val bI) (v:Val aw) (z:Val aH):(à BT [.str,tI,tI,ae,aa,af,ac,aa,tI,tI,ae,aa,af,ac,aa] [tI,tI,ae,aa,af,ac,aa,ai,tI] p z).t=(à iB [.str,tI,tI,ae,aa,af,ac,aa,tI,tI,ae,aa,af,ac,aa] [tI,tI,ae,aa,af,ac,aa,ai,tI,ai] p v).t:=by kernel_rfl
def NI (p:Val bI) (v:Val aw):(à iB [.str,tI,tI,ae,aa,af,ac,aa,tI,tI,ae,aa,af,ac,aa] [tI,tI,ae,aa,af,ac,aa,ai,tI,ai] p v).t.all (st3 4)=true:=by kernel_rfl
def KC (p:Val bI) (v:Val aw) (y:ByteArray) (b:Val bI->Val aw->rF ρ) (a:Val bI->Val aH->rF ρ):S7 (Ŷ ρ) (Ğ (Ŷ ρ) (10-0 / 2)) 7 [] 4 0 (iw (ô (Ŷ ρ).P 7) 0) (à iB [.str,tI,tI,ae,aa,af,ac,aa,tI,tI,ae,aa,af,ac,aa] [tI,tI,ae,aa,af,ac,aa,ai,tI,ai] p v) (.str y) ((sJ ρ).back b a)=yk v.1 v.2.1 v.2.2.1 v.2.2.2.1 v.2.2.2.2.1 v.2.2.2.2.2.1 v.2.2.2.2.2.2.1 v.2.2.2.2.2.2.2.1 v.2.2.2.2.2.2.2.2.1 v.2.2.2.2.2.2.2.2.2 y (fun j u1 i h g f e d u8 c=>b p (j,u1,i,h,g,f,e,d,u8,c)) (a p):=by kernel_rfl
def VH (x:Val .str) (k:(Val bw)->rF ρ) :
    LN (Ŷ ρ) 7 [.str] [Ä,tI] x k=NN x k:=by kernel_rfl
def Be:(ql ρ).Ok (wD ρ):=⟨by kernel_rfl,fun p v b a=>by kernel_rfl⟩
def Og:(Cc ρ).Ok (qk ρ):=⟨by kernel_rfl,fun p v b a=>by kernel_rfl⟩
def Oe:(Cb ρ).Ok (qk ρ):=⟨by kernel_rfl,fun p v b a=>by kernel_rfl⟩
def Od:(Ca ρ).Ok (qk ρ):=⟨by kernel_rfl,fun p v b a=>by kernel_rfl⟩
def Oc:(B9 ρ).Ok (qk ρ):=⟨by kernel_rfl,fun p v b a=>by kernel_rfl⟩
def NT:(BZ ρ).Ok (NU ρ):=⟨by kernel_rfl,fun p v b a=>by kernel_rfl⟩
def RL:(FV ρ).Ok (T1 ρ):=⟨by kernel_rfl,fun p v b a=>by kernel_rfl⟩
def OD:(Cj ρ).Ok (OE ρ):=⟨by kernel_rfl,fun p v b a=>by kernel_rfl⟩
def NY:(B4 ρ).Ok (NZ ρ):=⟨by kernel_rfl,fun p v b a=>by kernel_rfl⟩
def KP:(yF ρ).Ok (rD ρ):=⟨by kernel_rfl,fun p v b a=>by kernel_rfl⟩
def KO:(yE ρ).Ok (rD ρ):=⟨by kernel_rfl,fun p v b a=>by kernel_rfl⟩
def KQ:(yG ρ).Ok (rD ρ):=⟨by kernel_rfl,fun p v b a=>by kernel_rfl⟩
def On:(Ce ρ).Ok (Oo ρ):=⟨by kernel_rfl,fun p v b a=>by kernel_rfl⟩
def Ox:(Ch ρ).Ok (Oy ρ):=⟨by kernel_rfl,fun p v b a=>by kernel_rfl⟩
def RH:(FT ρ).Ok (TX ρ):=⟨by kernel_rfl,fun p v b a=>by kernel_rfl⟩
def Oz:(Ci ρ).Ok (OA ρ):=⟨by kernel_rfl,fun p v b a=>by kernel_rfl⟩
def DG:(rI ρ).Ok (iQ ρ):=⟨by kernel_rfl,fun p v b a=>by kernel_rfl⟩
def DF:(rH ρ).Ok (iQ ρ):=⟨by kernel_rfl,fun p v b a=>by kernel_rfl⟩
def DE:(rG ρ).Ok (iQ ρ):=⟨by kernel_rfl,fun p v b a=>by kernel_rfl⟩
def If (x:Val aZ) (k:Int->rF ρ) :
    LN (iQ ρ) 105 [È,Ò] [tI] x k=vr x.1 x.2 k:=by kernel_rfl
def N8:(B7 ρ).Ok (DH ρ):=⟨by kernel_rfl,fun p v b a=>by kernel_rfl⟩
def N7:(B6 ρ).Ok (DH ρ):=⟨by kernel_rfl,fun p v b a=>by kernel_rfl⟩
def K6:(yY ρ).Ok (iR ρ):=⟨by kernel_rfl,fun p v b a=>by kernel_rfl⟩
def K5:(yX ρ).Ok (iR ρ):=⟨by kernel_rfl,fun p v b a=>by kernel_rfl⟩
def K4:(yW ρ).Ok (iR ρ):=⟨by kernel_rfl,fun p v b a=>by kernel_rfl⟩
def KY:(yQ ρ).Ok (iR ρ):=⟨by kernel_rfl,fun p v b a=>by kernel_rfl⟩
def KZ:(yS ρ).Ok (iR ρ):=⟨by kernel_rfl,fun p v b a=>by kernel_rfl⟩
def K3:(yU ρ).Ok (iR ρ):=⟨by kernel_rfl,fun p v b a=>by kernel_rfl⟩
def Oa:(B8 ρ).Ok (Ob ρ):=⟨by kernel_rfl,fun p v b a=>by kernel_rfl⟩
def Ov:(Cf ρ).Ok (Ow ρ):=⟨by kernel_rfl,fun p v b a=>by kernel_rfl⟩
def K7:(yZ ρ).Ok (JN ρ):=⟨by kernel_rfl,fun p v b a=>by kernel_rfl⟩
end Go.Proofs.ZzM
end
