/- lemmas -/
import Derived.Test.YtdmegkgjpgcfgaaGreatMdMA
set_option linter.all false
noncomputable section
variable {ρ:Type}
set_option maxRecDepth 100000
namespace Go.Proofs.ZzM
open Go Go.Am
def Qk:(D5 ρ).Ok (Fz ρ):=⟨by kernel_rfl,fun p v b a=>by kernel_rfl⟩
def XL (x:Val bv) (k:Int->BE ρ) :
    Ğ (Fz ρ) 133 [Ð,ab] [tI] x k=Ql x.1 x.2 k:=by kernel_rfl
def MV:(A4 ρ).Ok (jS ρ):=⟨by kernel_rfl,fun p v b a=>by kernel_rfl⟩
def MU:(A2 ρ).Ok (jS ρ):=⟨by kernel_rfl,fun p v b a=>by kernel_rfl⟩
def MT:(AZ ρ).Ok (jS ρ):=⟨by kernel_rfl,fun p v b a=>by kernel_rfl⟩
def MR:(AW ρ).Ok (jS ρ):=⟨by kernel_rfl,fun p v b a=>by kernel_rfl⟩
def MS:(AY ρ).Ok (jS ρ):=⟨by kernel_rfl,fun p v b a=>by kernel_rfl⟩
def TH (x:Val (.pair Ð (.pair au tI))) (k:an->BE ρ) :
    Ğ (jS ρ) 134 [Ð,au,tI] [ab] x k=Kq x.1 x.2.1 x.2.2 k:=by kernel_rfl
def Qn:(D7 ρ).Ok (xL ρ):=⟨by kernel_rfl,fun p v b a=>by kernel_rfl⟩
def Qm:(D6 ρ).Ok (xL ρ):=⟨by kernel_rfl,fun p v b a=>by kernel_rfl⟩
def XM (x:ge) (k:(Val bq)->BE ρ) :
    Ğ (xL ρ) 185 [Ð] [aa,tI] x k=Qo x k:=by kernel_rfl
def SF (x:nm) (k:js->BE ρ) :
    Ğ (Lw ρ) 106 [È,Ã] [Ã,tI] x k=JM x.1 x.2 k:=by kernel_rfl
def Mq:(Ai ρ).Ok (tB ρ):=⟨by kernel_rfl,fun p v b a=>by kernel_rfl⟩
def Mp:(Ag ρ).Ok (tB ρ):=⟨by kernel_rfl,fun p v b a=>by kernel_rfl⟩
def SU (x:wl) (k:(Val (.pair am tI))->BE ρ) :
    Ğ (tB ρ) 42 [Â,tI,tI] [am,tI] x k=JR x.1 x.2.1 x.2.2 k:=by kernel_rfl
def Mj:(((Ġ (ε ρ).P 298).elim [] (ß 0)).filter fun y=>Nat.beq y.1 0).length=1:=by kernel_rfl
def OX:V4 (np (Ġ (ε ρ).P 298) 0)=true:=by kernel_rfl
def OV (p:ry) (v a:an):(ü kZ [tI,tI,ae,aa,af,ac,aa,aj] [ab] p a).t=(ü kZ [tI,tI,ae,aa,af,ac,aa,aj] [ab] p v).t:=by kernel_rfl
def OW (p:ry) (v:an):(ü kZ [tI,tI,ae,aa,af,ac,aa,aj] [ab] p v).t.all (st3 3)=true:=by kernel_rfl
def Mk (p:ry) (v:an) (y:Int) (a:ry->an->BE ρ):Db (ε ρ) (ť (ε ρ) (10-6 / 2)) 298 [7,8,1,1,1,1] 3 0 (np (Ġ (ε ρ).P 298) 0) (ü kZ [tI,tI,ae,aa,af,ac,aa,aj] [ab] p v) (enc tI y) ((oj ρ).back a)=(oj ρ).bF p v y (a p):=by kernel_rfl
def OY (a:lB Tryz.prog Im):(oj ρ).Ok (ε ρ):=⟨Mj,a,OV,OW,Mk⟩
def OZ:(Dp ρ).Ok (ε ρ):=⟨by kernel_rfl,fun p v b a=>by kernel_rfl⟩
def WP (x:ly) (k:Bool->BE ρ) :
    Ğ (ε ρ) 154 [Â,ah] [.bool] x k=O0 x.1 x.2 k:=by kernel_rfl
def WS (x:ly) (k:Int->BE ρ) :
    Ğ (Pb ρ) 78 [Â,ah] [tI] x k=Pc x.1 x.2 k:=by kernel_rfl
def acP (x:Val aY) (k:bl->BE ρ) :
    Ğ (aaD ρ) 49 [Â,ah,tI,tI] [tI,tI] x k=acQ x.1 x.2.1 x.2.2.1 x.2.2.2 k:=by kernel_rfl
def ac2:(Vg ρ).Ok (Ko ρ):=⟨by kernel_rfl,fun p v b a=>by kernel_rfl⟩
def ac0:(Vd ρ).Ok (Ko ρ):=⟨by kernel_rfl,fun p v b a=>by kernel_rfl⟩
def acZ:(Vb ρ).Ok (Ko ρ):=⟨by kernel_rfl,fun p v b a=>by kernel_rfl⟩
def ac1:(Vf ρ).Ok (Ko ρ):=⟨by kernel_rfl,fun p v b a=>by kernel_rfl⟩
def aiD (x:Val (.pair Ð Ã)) (k:b5->BE ρ) :
    Ğ (Ko ρ) 128 [Ð,tI,tI] [ah] x k=Qi x.1 x.2.1 x.2.2 k:=by kernel_rfl
def Qt:(Eg ρ).Ok (lV ρ):=⟨by kernel_rfl,fun p v b a=>by kernel_rfl⟩
def Qp:(D8 ρ).Ok (lV ρ):=⟨by kernel_rfl,fun p v b a=>by kernel_rfl⟩
def Qq:(Ea ρ).Ok (lV ρ):=⟨by kernel_rfl,fun p v b a=>by kernel_rfl⟩
def Qr:(Ec ρ).Ok (lV ρ):=⟨by kernel_rfl,fun p v b a=>by kernel_rfl⟩
def Qs:(Ee ρ).Ok (lV ρ):=⟨by kernel_rfl,fun p v b a=>by kernel_rfl⟩
def XN (x:ge) (k:lA->BE ρ) :
    Ğ (lV ρ) 64 [Ð] [ab,tI] x k=HL x k:=by kernel_rfl
def Pd:(Dy ρ).Ok (E8 ρ):=⟨by kernel_rfl,fun p v b a=>by kernel_rfl⟩
def WU (x:a8) (k:(Val bn)->BE ρ) :
    Ğ (E8 ρ) 59 [Â] [ah,tI] x k=Pe x k:=by kernel_rfl
def Kn:(yO ρ).Ok (xG ρ):=⟨by kernel_rfl,fun p v b a=>by kernel_rfl⟩
def Qh (x:Val bv) (k:Int->BE ρ) :
    Ğ (xG ρ) 188 [Ð,ab] [tI] x k=Fy x.1 x.2 k:=by kernel_rfl
def TG:(HC ρ).Ok (Kk ρ):=⟨by kernel_rfl,fun p v b a=>by kernel_rfl⟩
def aaX (x:Val (.pair Ð Ě)) (k:l7->BE ρ) :
    Ğ (Kk ρ) 189 [Ð,tI,ab] [tI,tI,.bool] x k=XI x.1 x.2.1 x.2.2 k:=by kernel_rfl
def HM (x:Val bv) (k:Int->BE ρ) :
    Ğ (yQ ρ) 122 [Ð,ab] [tI] x k=uQ x.1 x.2 k:=by kernel_rfl
def CW:(rj ρ).Ok (pz ρ):=⟨by kernel_rfl,fun p v b a=>by kernel_rfl⟩
def G9 (x:ly) (k:Int->BE ρ) :
    Ğ (pz ρ) 60 [Â,ah] [tI] x k=uK x.1 x.2 k:=by kernel_rfl
def Me (x:c7) (k:a8->BE ρ) :
    Ğ (Dl ρ) 77 [ac] [Â] x k=Lt x k:=by kernel_rfl
def OJ (x:Unit) (k:Bool->BE ρ) :
    Ğ (GD ρ) 17 [] [.bool] x k=EO k:=by kernel_rfl
def Mo (x:ly) (k:u5->BE ρ) :
    Ğ (Dz ρ) 18 [Â,ah] [.bool,tI] x k=Af x.1 x.2 k:=by kernel_rfl
def acV (x:rm) (k:Bool->BE ρ) :
    Ğ (aaN ρ) 109 [tI,tI,tI] [.bool] x k=acW x.1 x.2.1 x.2.2 k:=by kernel_rfl
def aaP (x:Int) (k:Bool->BE ρ) :
    Ğ (U4 ρ) 45 [tI] [.bool] x k=Xw x k:=by kernel_rfl
def Tx:(Hy ρ).Ok (Kc ρ):=⟨by kernel_rfl,fun p v b a=>by kernel_rfl⟩
def aaO (x:lA) (k:Bool->BE ρ) :
    Ğ (Kc ρ) 181 [ab,tI] [.bool] x k=Xu x.1 x.2 k:=by kernel_rfl
def P0:(D3 ρ).Ok (Fu ρ):=⟨by kernel_rfl,fun p v b a=>by kernel_rfl⟩
def Xs (x:u6) (k:an->BE ρ) :
    Ğ (Fu ρ) 102 [ab,ab] [ab] x k=P1 x.1 x.2 k:=by kernel_rfl
def aaL (x:u6) (k:Int->BE ρ) :
    Ğ (U3 ρ) 194 [ab,ab] [tI] x k=Xg x.1 x.2 k:=by kernel_rfl
def PH:(DR ρ).Ok (xy ρ):=⟨by kernel_rfl,fun p v b a=>by kernel_rfl⟩
def PG:(DQ ρ).Ok (xy ρ):=⟨by kernel_rfl,fun p v b a=>by kernel_rfl⟩
def Xh (x:Val (.pair È (.pair Ö tI))) (k:Bool->BE ρ) :
    Ğ (xy ρ) 191 [È,Ö,tI] [.bool] x k=PI x.1 x.2.1 x.2.2 k:=by kernel_rfl
def MJ:(AJ ρ).Ok (iW ρ):=⟨by kernel_rfl,fun p v b a=>by kernel_rfl⟩
def MI:(AI ρ).Ok (iW ρ):=⟨by kernel_rfl,fun p v b a=>by kernel_rfl⟩
def MH:(AH ρ).Ok (iW ρ):=⟨by kernel_rfl,fun p v b a=>by kernel_rfl⟩
def ME:(AB ρ).Ok (iW ρ):=⟨by kernel_rfl,fun p v b a=>by kernel_rfl⟩
def MF:(AD ρ).Ok (iW ρ):=⟨by kernel_rfl,fun p v b a=>by kernel_rfl⟩
def MG:(AF ρ).Ok (iW ρ):=⟨by kernel_rfl,fun p v b a=>by kernel_rfl⟩
def Tu (x:b6) (k:bx->BE ρ) :
    Ğ (iW ρ) 124 [È] [aa] x k=Ka x k:=by kernel_rfl
def MK:(AK ρ).Ok (AM ρ):=⟨by kernel_rfl,fun p v b a=>by kernel_rfl⟩
def Tw (x:nm) (k:Int->BE ρ) :
    Ğ (AM ρ) 111 [È,Ã] [tI] x k=Kb x.1 x.2 k:=by kernel_rfl
def P4:(D4 ρ).Ok (Fw ρ):=⟨by kernel_rfl,fun p v b a=>by kernel_rfl⟩
def Xv (x:Val bp) (k:Int->BE ρ) :
    Ğ (Fw ρ) 33 [È,tI] [tI] x k=P5 x.1 x.2 k:=by kernel_rfl
def PY:(D0 ρ).Ok (Ft ρ):=⟨by kernel_rfl,fun p v b a=>by kernel_rfl⟩
def Xr (x:nm) (k:(Val bo)->BE ρ) :
    Ğ (Ft ρ) 85 [È,tI,tI] [ω,.bool] x k=PZ x.1 x.2.1 x.2.2 k:=by kernel_rfl
def PJ:(DS ρ).Ok (Fm ρ):=⟨by kernel_rfl,fun p v b a=>by kernel_rfl⟩
def Xi (x:nm) (k:Bool->BE ρ) :
    Ğ (Fm ρ) 239 [È,tI,tI] [.bool] x k=PK x.1 x.2.1 x.2.2 k:=by kernel_rfl
def PW:(DY ρ).Ok (Fs ρ):=⟨by kernel_rfl,fun p v b a=>by kernel_rfl⟩
def Xq (x:Val (.pair È ĝ)) (k:Int->BE ρ) :
    Ğ (Fs ρ) 192 [È,tI,tI,tI] [tI] x k=PX x.1 x.2.1 x.2.2.1 x.2.2.2 k:=by kernel_rfl
def TE:(HB ρ).Ok (Ki ρ):=⟨by kernel_rfl,fun p v b a=>by kernel_rfl⟩
def aaU (x:bl) (k:Int->BE ρ) :
    Ğ (Ki ρ) 270 [tI,tI] [tI] x k=XD x.1 x.2 k:=by kernel_rfl
def aaW (x:Int) (k:Int->BE ρ) :
    Ğ (U9 ρ) 271 [tI] [tI] x k=XG x k:=by kernel_rfl
def Qa (x:bl) (k:js->BE ρ) :
    Ğ (HA ρ) 319 [tI,tI] [Α] x k=Fx x.1 x.2 k:=by kernel_rfl
def aaV (x:hO) (k:js->BE ρ) :
    Ğ (U8 ρ) 306 [Ã,Ã] [Α] x k=XF x.1 x.2 k:=by kernel_rfl
def aaS (x:bl) (k:bl->BE ρ) :
    Ğ (U6 ρ) 307 [Ã] [Ã] x k=XA x k:=by kernel_rfl
def aaR (x:hO) (k:js->BE ρ) :
    Ğ (U5 ρ) 286 [Ã,Ã] [Α] x k=Xz x.1 x.2 k:=by kernel_rfl
def Ti (x:Val bp) (k:bl->BE ρ) :
    Ğ (LA ρ) 287 [È,tI] [Ã] x k=J5 x.1 x.2 k:=by kernel_rfl
def Xy (x:Val (.pair Α Α)) (k:Val vc->BE ρ) :
    Ğ (Qd ρ) 308 [Α,Α] [vc] x k=Qe x.1 x.2 k:=by kernel_rfl
def aaT (x:hO) (k:js->BE ρ) :
    Ğ (U7 ρ) 309 [Ã,Ã] [Α] x k=XB x.1 x.2 k:=by kernel_rfl
def TD (x:xa) (k:Val vc->BE ρ) :
    Ğ (LG ρ) 288 [ç,Ã] [vc] x k=Kh x.1 x.2 k:=by kernel_rfl
def P3 (x:rn) (k:hO->BE ρ) :
    Ğ (Hz ρ) 240 [È,Ô] [ç] x k=Fv x.1 x.2 k:=by kernel_rfl
def TA (x:rn) (k:bl->BE ρ) :
    Ğ (LD ρ) 241 [È,Ô] [Ã] x k=Kd x.1 x.2 k:=by kernel_rfl
def acX (x:bl) (k:Int->BE ρ) :
    Ğ (aaQ ρ) 289 [tI,tI] [tI] x k=acY x.1 x.2 k:=by kernel_rfl
def XE (x:bl) (k:Int->BE ρ) :
    Ğ (Qf ρ) 242 [Ã] [tI] x k=Qg x k:=by kernel_rfl
def Xx (x:bl) (k:Int->BE ρ) :
    Ğ (Qb ρ) 290 [tI,tI] [tI] x k=Qc x.1 x.2 k:=by kernel_rfl
def TF (x:bl) (k:Int->BE ρ) :
    Ğ (LH ρ) 243 [Ã] [tI] x k=Kj x k:=by kernel_rfl
def Xn (x:rn) (k:bl->BE ρ) :
    Ğ (PM ρ) 199 [È,Ô] [Ã] x k=PN x.1 x.2 k:=by kernel_rfl
def Tn:(Hu ρ).Ok (vW ρ):=⟨by kernel_rfl,fun p v b a=>by kernel_rfl⟩
def Tp:(Hv ρ).Ok (vW ρ):=⟨by kernel_rfl,fun p v b a=>by kernel_rfl⟩
def Tm:(Ht ρ).Ok (vW ρ):=⟨by kernel_rfl,fun p v b a=>by kernel_rfl⟩
def aaM (x:b6) (k:Val yH->BE ρ) :
    Ğ (vW ρ) 131 [È] [yH] x k=Xm x k:=by kernel_rfl
def MA (x:hO) (k:Bool->BE ρ) :
    Ğ (DP ρ) 160 [Ã,tI,tI] [.bool] x k=Ax x.1 x.2.1 x.2.2 k:=by kernel_rfl
def TC (x:bl) (k:Bool->BE ρ) :
    Ğ (LF ρ) 227 [Ã] [.bool] x k=Kg x k:=by kernel_rfl
def Tj (x:nj) (k:Bool->BE ρ) :
    Ğ (LB ρ) 161 [Ö] [.bool] x k=J6 x k:=by kernel_rfl
def Tq (x:nm) (k:Int->BE ρ) :
    Ğ (LC ρ) 166 [È,tI,tI] [tI] x k=J8 x.1 x.2.1 x.2.2 k:=by kernel_rfl
def PB:(DN ρ).Ok (Fg ρ):=⟨by kernel_rfl,fun p v b a=>by kernel_rfl⟩
def Xf (x:b6) (k:Int->BE ρ) :
    Ğ (Fg ρ) 162 [È] [tI] x k=PC x k:=by kernel_rfl
def MC:(Az ρ).Ok (oX ρ):=⟨by kernel_rfl,fun p v b a=>by kernel_rfl⟩
def MB:(Ay ρ).Ok (oX ρ):=⟨by kernel_rfl,fun p v b a=>by kernel_rfl⟩
def MD:(AA ρ).Ok (oX ρ):=⟨by kernel_rfl,fun p v b a=>by kernel_rfl⟩
def Th (x:b6) (k:Int->BE ρ) :
    Ğ (oX ρ) 163 [È] [tI] x k=J4 x k:=by kernel_rfl
def PO:(DU ρ).Ok (Fq ρ):=⟨by kernel_rfl,fun p v b a=>by kernel_rfl⟩
def Xo (x:an) (k:Bool->BE ρ) :
    Ğ (Fq ρ) 228 [ab] [.bool] x k=PP x k:=by kernel_rfl
def Tg (x:i4) (k:Bool->BE ρ) :
    Ğ (Lz ρ) 164 [Ô] [.bool] x k=J3 x k:=by kernel_rfl
def Fl:(tP ρ).Ok (jP ρ):=⟨by kernel_rfl,fun p v b a=>by kernel_rfl⟩
def Fk:(tO ρ).Ok (jP ρ):=⟨by kernel_rfl,fun p v b a=>by kernel_rfl⟩
def Fh:(tN ρ).Ok (jP ρ):=⟨by kernel_rfl,fun p v b a=>by kernel_rfl⟩
def J7 (x:rn) (k:Int->BE ρ) :
    Ğ (jP ρ) 165 [È,Ô] [tI] x k=xx x.1 x.2 k:=by kernel_rfl
def MO:(AR ρ).Ok (md ρ):=⟨by kernel_rfl,fun p v b a=>by kernel_rfl⟩
def MM:(AP ρ).Ok (md ρ):=⟨by kernel_rfl,fun p v b a=>by kernel_rfl⟩
def MN:(AQ ρ).Ok (md ρ):=⟨by kernel_rfl,fun p v b a=>by kernel_rfl⟩
def ML:(AO ρ).Ok (md ρ):=⟨by kernel_rfl,fun p v b a=>by kernel_rfl⟩
def TB (x:b6) (k:Int->BE ρ) :
    Ğ (md ρ) 83 [È] [tI] x k=Ke x k:=by kernel_rfl
def S7:(Hg ρ).Ok (vU ρ):=⟨by kernel_rfl,fun p v b a=>by kernel_rfl⟩
def S6:(Hf ρ).Ok (vU ρ):=⟨by kernel_rfl,fun p v b a=>by kernel_rfl⟩
def S0:(He ρ).Ok (vU ρ):=⟨by kernel_rfl,fun p v b a=>by kernel_rfl⟩
def aaH (x:xl) (k:Int->BE ρ) :
    Ğ (vU ρ) 84 [È,Ě] [tI] x k=W8 x.1 x.2 k:=by kernel_rfl
def My:(As ρ).Ok (tK ρ):=⟨by kernel_rfl,fun p v b a=>by kernel_rfl⟩
def Mz:(Aw ρ).Ok (tK ρ):=⟨by kernel_rfl,fun p v b a=>by kernel_rfl⟩
def Td (x:a8) (k:Int->BE ρ) :
    Ğ (tK ρ) 21 [Â] [tI] x k=J1 x k:=by kernel_rfl
end Go.Proofs.ZzM
end
