/- lemmas -/
import Derived.Test.YtdmegkgjpgcfgaaGreatMdMA
set_option linter.all false
set_option linter.unusedSectionVars false
set_option linter.unusedVariables false
set_option linter.unusedSimpArgs false
noncomputable section
variable {ρ:Type}
set_option maxRecDepth 100000
namespace Go.Proofs.ZzM
open Go Go.Am
def HH:(xB ρ).Ok (iW ρ):=⟨by kernel_rfl,fun p v kn kx=>by kernel_rfl⟩
def HG:(xz ρ).Ok (iW ρ):=⟨by kernel_rfl,fun p v kn kx=>by kernel_rfl⟩
def HF:(xx ρ).Ok (iW ρ):=⟨by kernel_rfl,fun p v kn kx=>by kernel_rfl⟩
def HD:(xu ρ).Ok (iW ρ):=⟨by kernel_rfl,fun p v kn kx=>by kernel_rfl⟩
def HE:(xw ρ).Ok (iW ρ):=⟨by kernel_rfl,fun p v kn kx=>by kernel_rfl⟩
def MX (x:Val (.pair Ì (.pair ao tI))) (k:(Val aa)→Option ρ) :
    š (iW ρ) 134 [Ì,ao,tI] [aa] x k=Fm x.1 x.2.1 x.2.2 k:=by kernel_rfl
def J1:(Ac ρ).Ok (uL ρ):=⟨by kernel_rfl,fun p v kn kx=>by kernel_rfl⟩
def J0:(Ab ρ).Ok (uL ρ):=⟨by kernel_rfl,fun p v kn kx=>by kernel_rfl⟩
def Qm (x:Val Ì) (k:(Val bg)→Option ρ) :
    š (uL ρ) 185 [Ì] [ab,tI] x k=J2 x k:=by kernel_rfl
def Mw (x:Val aK) (k:Val BV→Option ρ) :
    š (Gz ρ) 106 [È,Ä] [Ä,tI] x k=ES x.1 x.2 k:=by kernel_rfl
def Hw:(xl ρ).Ok (qK ρ):=⟨by kernel_rfl,fun p v kn kx=>by kernel_rfl⟩
def Hv:(xi ρ).Ok (qK ρ):=⟨by kernel_rfl,fun p v kn kx=>by kernel_rfl⟩
def MP (x:Val (.pair Â Ä)) (k:(Val (.pair ak tI))→Option ρ) :
    š (qK ρ) 42 [Â,tI,tI] [ak,tI] x k=E7 x.1 x.2.1 x.2.2 k:=by kernel_rfl
def Hj:(((ģ (Λ ρ).P 298).elim [] (Ü 0)).filter fun y=>Nat.beq y.1 0).length=1:=by kernel_rfl
def Js:Ph (lO (ģ (Λ ρ).P 298) 0)=true:=by kernel_rfl
def Jq (p:Val ae) (v v':Val aa):(ö jE [tI,tI,af,ab,ah,ac,ab,ai] [aa] p v').t=(ö jE [tI,tI,af,ab,ah,ac,ab,ai] [aa] p v).t:=by kernel_rfl
def Jr (p:Val ae) (v:Val aa):(ö jE [tI,tI,af,ab,ah,ac,ab,ai] [aa] p v).t.all (st3 3)=true:=by kernel_rfl
def Hk (p:Val ae) (v:Val aa) (y:Int) (kn:Val ae→Val aa→Option ρ):zF (Λ ρ) (ů (Λ ρ) (10-6 / 2)) 298 [7,8,1,1,1,1] 3 0 (lO (ģ (Λ ρ).P 298) 0) (ö jE [tI,tI,af,ab,ah,ac,ab,ai] [aa] p v) (enc tI y) ((mF ρ).back kn)=(mF ρ).bF p v y (kn p):=by kernel_rfl
def Jt (hit:jP Tryz.prog DK):(mF ρ).Ok (Λ ρ):=⟨Hj,hit,Jq,Jr,Hk⟩
def Ju:(zO ρ).Ok (Λ ρ):=⟨by kernel_rfl,fun p v kn kx=>by kernel_rfl⟩
def PT (x:Val aJ) (k:Bool→Option ρ) :
    š (Λ ρ) 154 [Â,aj] [.bool] x k=Jv x.1 x.2 k:=by kernel_rfl
def P0 (x:Val aJ) (k:Int→Option ρ) :
    š (JI ρ) 78 [Â,aj] [tI] x k=JJ x.1 x.2 k:=by kernel_rfl
def Wa (x:Val bc) (k:Val Ä→Option ρ) :
    š (TB ρ) 49 [Â,aj,tI,tI] [tI,tI] x k=Wc x.1 x.2.1 x.2.2.1 x.2.2.2 k:=by kernel_rfl
def Wp:(Ov ρ).Ok (Fl ρ):=⟨by kernel_rfl,fun p v kn kx=>by kernel_rfl⟩
def Wn:(Oq ρ).Ok (Fl ρ):=⟨by kernel_rfl,fun p v kn kx=>by kernel_rfl⟩
def Wm:(On ρ).Ok (Fl ρ):=⟨by kernel_rfl,fun p v kn kx=>by kernel_rfl⟩
def Wo:(Ou ρ).Ok (Fl ρ):=⟨by kernel_rfl,fun p v kn kx=>by kernel_rfl⟩
def abW (x:Val (.pair Ì Ä)) (k:(Val aj)→Option ρ) :
    š (Fl ρ) 128 [Ì,tI,tI] [aj] x k=JW x.1 x.2.1 x.2.2 k:=by kernel_rfl
def J7:(Al ρ).Ok (j9 ρ):=⟨by kernel_rfl,fun p v kn kx=>by kernel_rfl⟩
def J3:(Ad ρ).Ok (j9 ρ):=⟨by kernel_rfl,fun p v kn kx=>by kernel_rfl⟩
def J4:(Af ρ).Ok (j9 ρ):=⟨by kernel_rfl,fun p v kn kx=>by kernel_rfl⟩
def J5:(Ah ρ).Ok (j9 ρ):=⟨by kernel_rfl,fun p v kn kx=>by kernel_rfl⟩
def J6:(Aj ρ).Ok (j9 ρ):=⟨by kernel_rfl,fun p v kn kx=>by kernel_rfl⟩
def Qo (x:Val Ì) (k:(Val ax)→Option ρ) :
    š (j9 ρ) 64 [Ì] [aa,tI] x k=C9 x k:=by kernel_rfl
def JL:(zX ρ).Ok (Bh ρ):=⟨by kernel_rfl,fun p v kn kx=>by kernel_rfl⟩
def P5 (x:Val Â) (k:(Val (.pair aj tI))→Option ρ) :
    š (Bh ρ) 59 [Â] [aj,tI] x k=JM x k:=by kernel_rfl
def Fk:(vI ρ).Ok (uH ρ):=⟨by kernel_rfl,fun p v kn kx=>by kernel_rfl⟩
def JV (x:Val bj) (k:Int→Option ρ) :
    š (uH ρ) 188 [Ì,aa] [tI] x k=Bj x.1 x.2 k:=by kernel_rfl
def MU:(CZ ρ).Ok (Ff ρ):=⟨by kernel_rfl,fun p v kn kx=>by kernel_rfl⟩
def TL (x:Val (.pair Ì Ğ)) (k:(Val (.pair tI (.pair tI .bool)))→Option ρ) :
    š (Ff ρ) 189 [Ì,tI,aa] [tI,tI,.bool] x k=Qf x.1 x.2.1 x.2.2 k:=by kernel_rfl
def Db (x:Val bj) (k:Int→Option ρ) :
    š (vK ρ) 122 [Ì,aa] [tI] x k=rO x.1 x.2 k:=by kernel_rfl
def zn:(pj ρ).Ok (nN ρ):=⟨by kernel_rfl,fun p v kn kx=>by kernel_rfl⟩
def CW (x:Val aJ) (k:Int→Option ρ) :
    š (nN ρ) 60 [Â,aj] [tI] x k=rJ x.1 x.2 k:=by kernel_rfl
def Hc (x:Val ac) (k:Val Â→Option ρ) :
    š (zL ρ) 77 [ac] [Â] x k=Gv x k:=by kernel_rfl
def Jf (x:Unit) (k:Bool→Option ρ) :
    š (Cp ρ) 17 [] [.bool] x k=AY k:=by kernel_rfl
def E6 (x:Val aV) (k:(Val aP)→Option ρ) :
    š (xh ρ) 27 [Â,aa] [.bool,tI] x k=uw x.1 x.2 k:=by kernel_rfl
def FH:(vS ρ).Ok (la ρ):=⟨by kernel_rfl,fun p v kn kx=>by kernel_rfl⟩
def FG:(vQ ρ).Ok (la ρ):=⟨by kernel_rfl,fun p v kn kx=>by kernel_rfl⟩
def FF:(vO ρ).Ok (la ρ):=⟨by kernel_rfl,fun p v kn kx=>by kernel_rfl⟩
def KI (x:Val (.pair È aa)) (k:(Val (.pair È tI))→Option ρ) :
    š (la ρ) 74 [È,aa] [È,tI] x k=BB x.1 x.2 k:=by kernel_rfl
def MJ (x:Val È) (k:Val È→Option ρ) :
    š (GC ρ) 113 [È] [È] x k=EV x k:=by kernel_rfl
def MM:(CI ρ).Ok (E4 ρ):=⟨by kernel_rfl,fun p v kn kx=>by kernel_rfl⟩
def TA (x:Val (.pair Â Ğ)) (k:(Val (.pair Â tI))→Option ρ) :
    š (E4 ρ) 47 [Â,Ğ] [Â,tI] x k=P2 x.1 x.2 k:=by kernel_rfl
def Ha:(wQ ρ).Ok (wR ρ):=⟨by kernel_rfl,fun p v kn kx=>by kernel_rfl⟩
def Mj (x:Val aV) (k:Bool→Option ρ) :
    š (wR ρ) 58 [Â,aa] [.bool] x k=EN x.1 x.2 k:=by kernel_rfl
def Cq (x:Val (.pair Â (.pair aa aG))) (k:Bool→Option ρ) :
    š (nM ρ) 10 [Â,aa,tI,Ğ] [.bool] x k=rH x.1 x.2.1 x.2.2.1 x.2.2.2 k:=by kernel_rfl
end Go.Proofs.ZzM
end
