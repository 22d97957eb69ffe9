/- lemmas -/
import Derived.Test.YtenljaeklhlanaaGreatMdMA
set_option linter.all false
noncomputable section
variable {ρ:Type}
set_option maxRecDepth 100000
namespace Go.Proofs.ZzM
open Go Go.Am
def OJ:(DJ ρ).Ok (og ρ):=⟨by kernel_rfl,fun p v b a=>by kernel_rfl⟩
def OK:(DL ρ).Ok (og ρ):=⟨by kernel_rfl,fun p v b a=>by kernel_rfl⟩
def OM:(DN ρ).Ok (og ρ):=⟨by kernel_rfl,fun p v b a=>by kernel_rfl⟩
def OH:(DH ρ).Ok (og ρ):=⟨by kernel_rfl,fun p v b a=>by kernel_rfl⟩
def OI:(DI ρ).Ok (og ρ):=⟨by kernel_rfl,fun p v b a=>by kernel_rfl⟩
def Wd:(KU ρ).Ok (Zi ρ):=⟨by kernel_rfl,fun p v b a=>by kernel_rfl⟩
def RP:(Hd ρ).Ok (TX ρ):=⟨by kernel_rfl,fun p v b a=>by kernel_rfl⟩
def OC:(DD ρ).Ok (Fk ρ):=⟨by kernel_rfl,fun p v b a=>by kernel_rfl⟩
def OD:(DF ρ).Ok (Fk ρ):=⟨by kernel_rfl,fun p v b a=>by kernel_rfl⟩
def C4:(sh ρ).Ok (Η ρ):=⟨by kernel_rfl,fun p v b a=>by kernel_rfl⟩
def C3:(sf ρ).Ok (Η ρ):=⟨by kernel_rfl,fun p v b a=>by kernel_rfl⟩
def C2:(sd ρ).Ok (Η ρ):=⟨by kernel_rfl,fun p v b a=>by kernel_rfl⟩
def C1:(sa ρ).Ok (Η ρ):=⟨by kernel_rfl,fun p v b a=>by kernel_rfl⟩
def He (x:rn) (k:b6->BY ρ) :
    S8 (Η ρ) 37 [Â,ah] [Ê] x k=vl x.1 x.2 k:=by kernel_rfl
def Pc:(DY ρ).Ok (Fu ρ):=⟨by kernel_rfl,fun p v b a=>by kernel_rfl⟩
def Pd:(DZ ρ).Ok (Fu ρ):=⟨by kernel_rfl,fun p v b a=>by kernel_rfl⟩
def OO:(DP ρ).Ok (OP ρ):=⟨by kernel_rfl,fun p v b a=>by kernel_rfl⟩
def Lr:(zZ ρ).Ok (KM ρ):=⟨by kernel_rfl,fun p v b a=>by kernel_rfl⟩
def ya:(nJ ρ).Ok (sk ρ):=⟨by kernel_rfl,fun p v b a=>by kernel_rfl⟩
def Sv:(HI ρ).Ok (JQ ρ):=⟨by kernel_rfl,fun p v b a=>by kernel_rfl⟩
def Su:(HG ρ).Ok (JQ ρ):=⟨by kernel_rfl,fun p v b a=>by kernel_rfl⟩
def JJ:(y0 ρ).Ok (Hj ρ):=⟨by kernel_rfl,fun p v b a=>by kernel_rfl⟩
def JI:(yY ρ).Ok (Hg ρ):=⟨by kernel_rfl,fun p v b a=>by kernel_rfl⟩
def LG:(AC ρ).Ok (AE ρ):=⟨by kernel_rfl,fun p v b a=>by kernel_rfl⟩
def LH:(AD ρ).Ok (AE ρ):=⟨by kernel_rfl,fun p v b a=>by kernel_rfl⟩
def Pr:(D7 ρ).Ok (Fv ρ):=⟨by kernel_rfl,fun p v b a=>by kernel_rfl⟩
def Pq:(D6 ρ).Ok (Fv ρ):=⟨by kernel_rfl,fun p v b a=>by kernel_rfl⟩
def LF:(AB ρ).Ok (KS ρ):=⟨by kernel_rfl,fun p v b a=>by kernel_rfl⟩
def Aa:(p8 ρ).Ok (kz ρ):=⟨by kernel_rfl,fun p v b a=>by kernel_rfl⟩
def EW (x:Val (.pair Â (.pair ah (.pair ah ab)))) (k:Bool->BY ρ) :
    S8 (kz ρ) 5 [Â,ah,ah,ab] [.bool] x k=rI x.1 x.2.1 x.2.2.1 x.2.2.2 k:=by kernel_rfl
def abM:(Ul ρ).Ok (PB ρ):=⟨by kernel_rfl,fun p v b a=>by kernel_rfl⟩
def abK:(Ui ρ).Ok (PB ρ):=⟨by kernel_rfl,fun p v b a=>by kernel_rfl⟩
def abJ:(Ug ρ).Ok (PB ρ):=⟨by kernel_rfl,fun p v b a=>by kernel_rfl⟩
def abL:(Uk ρ).Ok (PB ρ):=⟨by kernel_rfl,fun p v b a=>by kernel_rfl⟩
def PL:(Em ρ).Ok (oi ρ):=⟨by kernel_rfl,fun p v b a=>by kernel_rfl⟩
def PH:(Ee ρ).Ok (oi ρ):=⟨by kernel_rfl,fun p v b a=>by kernel_rfl⟩
def PI:(Eg ρ).Ok (oi ρ):=⟨by kernel_rfl,fun p v b a=>by kernel_rfl⟩
def PJ:(Ei ρ).Ok (oi ρ):=⟨by kernel_rfl,fun p v b a=>by kernel_rfl⟩
def PK:(Ek ρ).Ok (oi ρ):=⟨by kernel_rfl,fun p v b a=>by kernel_rfl⟩
def Oy:(Dz ρ).Ok (Oz ρ):=⟨by kernel_rfl,fun p v b a=>by kernel_rfl⟩
def JO:(za ρ).Ok (HD ρ):=⟨by kernel_rfl,fun p v b a=>by kernel_rfl⟩
def Sl:(Hx ρ).Ok (Uf ρ):=⟨by kernel_rfl,fun p v b a=>by kernel_rfl⟩
def C0:(rM ρ).Ok (yV ρ):=⟨by kernel_rfl,fun p v b a=>by kernel_rfl⟩
def Lw:(((Ġ (η ρ).P 259).elim [] (ß 0)).filter fun y=>Nat.beq y.1 0).length=1:=by kernel_rfl
def Og:Vi (nM (Ġ (η ρ).P 259) 0)=true:=by kernel_rfl
def Od (p:th) (v a:an):(û lK [tI,tI,ae,aa,af,ac,aa,aj] [ab] p a).t=(û lK [tI,tI,ae,aa,af,ac,aa,aj] [ab] p v).t:=by kernel_rfl
def Oe (p:th) (v:an):(û lK [tI,tI,ae,aa,af,ac,aa,aj] [ab] p v).t.all (st3 3)=true:=by kernel_rfl
def Lx (p:th) (v:an) (y:Int) (a:th->an->BY ρ):Dh (η ρ) (ŧ (η ρ) (10-6 / 2)) 259 [7,8,1,1,1,1] 3 0 (nM (Ġ (η ρ).P 259) 0) (û lK [tI,tI,ae,aa,af,ac,aa,aj] [ab] p v) (enc tI y) ((oE ρ).back a)=(oE ρ).bF p v y (a p):=by kernel_rfl
def Oh (a:lS Tryz.prog Ii):(oE ρ).Ok (η ρ):=⟨Lw,a,Od,Oe,Lx⟩
def Oi:(Dr ρ).Ok (η ρ):=⟨by kernel_rfl,fun p v b a=>by kernel_rfl⟩
def VY (x:rn) (k:Bool->BY ρ) :
    S8 (η ρ) 139 [Â,ah] [.bool] x k=Oj x.1 x.2 k:=by kernel_rfl
def Hf:(wt ρ).Ok (DQ ρ):=⟨by kernel_rfl,fun p v b a=>by kernel_rfl⟩
def N5 (x:Unit) (k:Bool->BY ρ) :
    S8 (Gz ρ) 7 [] [.bool] x k=EV k:=by kernel_rfl
def Sg:(Hv ρ).Ok (T9 ρ):=⟨by kernel_rfl,fun p v b a=>by kernel_rfl⟩
def Pm:(D5 ρ).Ok (Pn ρ):=⟨by kernel_rfl,fun p v b a=>by kernel_rfl⟩
def O6:(DT ρ).Ok (Fs ρ):=⟨by kernel_rfl,fun p v b a=>by kernel_rfl⟩
def O5:(DS ρ).Ok (Fs ρ):=⟨by kernel_rfl,fun p v b a=>by kernel_rfl⟩
def LV:(A0 ρ).Ok (j7 ρ):=⟨by kernel_rfl,fun p v b a=>by kernel_rfl⟩
def LU:(AZ ρ).Ok (j7 ρ):=⟨by kernel_rfl,fun p v b a=>by kernel_rfl⟩
def LS:(AY ρ).Ok (j7 ρ):=⟨by kernel_rfl,fun p v b a=>by kernel_rfl⟩
def LP:(AP ρ).Ok (j7 ρ):=⟨by kernel_rfl,fun p v b a=>by kernel_rfl⟩
def LQ:(AR ρ).Ok (j7 ρ):=⟨by kernel_rfl,fun p v b a=>by kernel_rfl⟩
def LR:(AW ρ).Ok (j7 ρ):=⟨by kernel_rfl,fun p v b a=>by kernel_rfl⟩
def LW:(A2 ρ).Ok (KW ρ):=⟨by kernel_rfl,fun p v b a=>by kernel_rfl⟩
def Ps:(D9 ρ).Ok (Pu ρ):=⟨by kernel_rfl,fun p v b a=>by kernel_rfl⟩
def Pk:(D3 ρ).Ok (Pl ρ):=⟨by kernel_rfl,fun p v b a=>by kernel_rfl⟩
def O7:(DU ρ).Ok (O8 ρ):=⟨by kernel_rfl,fun p v b a=>by kernel_rfl⟩
def Ph:(D0 ρ).Ok (Pj ρ):=⟨by kernel_rfl,fun p v b a=>by kernel_rfl⟩
def Sk:(Hw ρ).Ok (Ud ρ):=⟨by kernel_rfl,fun p v b a=>by kernel_rfl⟩
def R0:(Hr ρ).Ok (Cc ρ):=⟨by kernel_rfl,fun p v b a=>by kernel_rfl⟩
def Sa:(Hs ρ).Ok (Cc ρ):=⟨by kernel_rfl,fun p v b a=>by kernel_rfl⟩
def RZ:(Ho ρ).Ok (Cc ρ):=⟨by kernel_rfl,fun p v b a=>by kernel_rfl⟩
def OZ:(DR ρ).Ok (O0 ρ):=⟨by kernel_rfl,fun p v b a=>by kernel_rfl⟩
def LN:(AK ρ).Ok (ue ρ):=⟨by kernel_rfl,fun p v b a=>by kernel_rfl⟩
def LM:(AJ ρ).Ok (ue ρ):=⟨by kernel_rfl,fun p v b a=>by kernel_rfl⟩
def LO:(AM ρ).Ok (ue ρ):=⟨by kernel_rfl,fun p v b a=>by kernel_rfl⟩
def Pa:(DX ρ).Ok (Pb ρ):=⟨by kernel_rfl,fun p v b a=>by kernel_rfl⟩
def Fq:(uj ρ).Ok (j6 ρ):=⟨by kernel_rfl,fun p v b a=>by kernel_rfl⟩
def Fp:(uh ρ).Ok (j6 ρ):=⟨by kernel_rfl,fun p v b a=>by kernel_rfl⟩
def Fo:(ug ρ).Ok (j6 ρ):=⟨by kernel_rfl,fun p v b a=>by kernel_rfl⟩
def JK (x:Val aZ) (k:Int->BY ρ) :
    S8 (j6 ρ) 122 [Ê,Ö] [tI] x k=xP x.1 x.2 k:=by kernel_rfl
def L1:(A6 ρ).Ok (mq ρ):=⟨by kernel_rfl,fun p v b a=>by kernel_rfl⟩
def LY:(A4 ρ).Ok (mq ρ):=⟨by kernel_rfl,fun p v b a=>by kernel_rfl⟩
def LZ:(A5 ρ).Ok (mq ρ):=⟨by kernel_rfl,fun p v b a=>by kernel_rfl⟩
def LX:(A3 ρ).Ok (mq ρ):=⟨by kernel_rfl,fun p v b a=>by kernel_rfl⟩
def Sj (x:b6) (k:Int->BY ρ) :
    S8 (mq ρ) 62 [Ê] [tI] x k=JL x k:=by kernel_rfl
def RO:(Hc ρ).Ok (Ca ρ):=⟨by kernel_rfl,fun p v b a=>by kernel_rfl⟩
def RN:(Hb ρ).Ok (Ca ρ):=⟨by kernel_rfl,fun p v b a=>by kernel_rfl⟩
def RM:(Ha ρ).Ok (Ca ρ):=⟨by kernel_rfl,fun p v b a=>by kernel_rfl⟩
def LK:(AF ρ).Ok (AI ρ):=⟨by kernel_rfl,fun p v b a=>by kernel_rfl⟩
def LL:(AH ρ).Ok (AI ρ):=⟨by kernel_rfl,fun p v b a=>by kernel_rfl⟩
def G6 {a:an->BY b5}:(((Ġ (į a ρ).P 87).elim [] (ß 0)).filter fun y=>Nat.beq y.1 2).length=1:=by kernel_rfl
def G7 {a:an->BY b5} (p:xa) (v:pi) (c:xa->pi->BY ρ) (b:(i:Nat)->xa->Val (tyL (Ε.zs i))->BY ρ) :
    goC (į a ρ) (ŧ (į a ρ) (10-0 / 2)) 87 [] 0 2 (sl (Ġ (į a ρ).P 87) 2) (û Ε.head Ε.cs Ε.vs p v) (EG Ε c b)=(pV a ρ).bF p v (c p) (fun i=>b i p):=by kernel_rfl
def JD {a:an->BY b5}:(pV a ρ).Ok (į a ρ):=⟨G6,G7⟩
def G8 {a:an->BY b5}:(((Ġ (į a ρ).P 87).elim [] (ß 0)).filter fun y=>Nat.beq y.1 0).length=1:=by kernel_rfl
def G9 {a:an->BY b5} (p:an) (v:pi) (c:an->pi->BY ρ) (b:(i:Nat)->an->Val (tyL (Ζ.zs i))->BY ρ) :
    goC (į a ρ) (ŧ (į a ρ) (10-0 / 2)) 87 [] 0 0 (sl (Ġ (į a ρ).P 87) 0) (û Ζ.head Ζ.cs Ζ.vs p v) (EG Ζ c b)=(pW a ρ).bF p v (c p) (fun i=>b i p):=by kernel_rfl
def JE {a:an->BY b5}:(pW a ρ).Ok (į a ρ):=⟨G8,G9⟩
def OE {a:an->BY b5} (x:an) (k:b5->BY ρ) :
    S8 (į a ρ) 87 [ab] [ah] x k=oe a x k:=by kernel_rfl
def JF:(yW ρ).Ok (xO ρ):=⟨by kernel_rfl,fun p v b a=>by kernel_rfl⟩
def JG:(yX ρ).Ok (xO ρ):=⟨by kernel_rfl,fun p v b a=>by kernel_rfl⟩
end Go.Proofs.ZzM
end
