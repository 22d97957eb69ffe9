/- lemmas -/
import Derived.Test.YtdmegkgjpgcfgaaGreatMdMA
set_option linter.all false
noncomputable section
variable {ρ:Type}
set_option maxRecDepth 100000
namespace Go.Proofs.ZzM
open Go Go.Am
def QT:(Ei ρ).Ok (FQ ρ):=⟨by kernel_rfl,fun p v b a=>by kernel_rfl⟩
def YD (x:Val bv) (k:Int->CK ρ) :
    ę (FQ ρ) 133 [Ô,ab] [tI] x k=QU x.1 x.2 k:=by kernel_rfl
def Nw:(Bi ρ).Ok (jR ρ):=⟨by kernel_rfl,fun p v b a=>by kernel_rfl⟩
def Nv:(Bg ρ).Ok (jR ρ):=⟨by kernel_rfl,fun p v b a=>by kernel_rfl⟩
def Nu:(Be ρ).Ok (jR ρ):=⟨by kernel_rfl,fun p v b a=>by kernel_rfl⟩
def Ns:(Ba ρ).Ok (jR ρ):=⟨by kernel_rfl,fun p v b a=>by kernel_rfl⟩
def Nt:(Bc ρ).Ok (jR ρ):=⟨by kernel_rfl,fun p v b a=>by kernel_rfl⟩
def Up (x:Val (.pair Ô (.pair ar tI))) (k:an->CK ρ) :
    ę (jR ρ) 134 [Ô,ar,tI] [ab] x k=KX x.1 x.2.1 x.2.2 k:=by kernel_rfl
def QW:(Ek ρ).Ok (xW ρ):=⟨by kernel_rfl,fun p v b a=>by kernel_rfl⟩
def QV:(Ej ρ).Ok (xW ρ):=⟨by kernel_rfl,fun p v b a=>by kernel_rfl⟩
def YE (x:io) (k:(Val bq)->CK ρ) :
    ę (xW ρ) 185 [Ô] [aa,tI] x k=QX x k:=by kernel_rfl
def Ts (x:nn) (k:js->CK ρ) :
    ę (L4 ρ) 106 [È,Ã] [Ã,tI] x k=Kh x.1 x.2 k:=by kernel_rfl
def MX:(Ay ρ).Ok (tG ρ):=⟨by kernel_rfl,fun p v b a=>by kernel_rfl⟩
def MW:(Aw ρ).Ok (tG ρ):=⟨by kernel_rfl,fun p v b a=>by kernel_rfl⟩
def TH (x:wk) (k:(Val (.pair ak tI))->CK ρ) :
    ę (tG ρ) 42 [Â,tI,tI] [ak,tI] x k=Ko x.1 x.2.1 x.2.2 k:=by kernel_rfl
def MR:(((ğ (ι ρ).P 298).elim [] (ß 0)).filter fun y=>Nat.beq y.1 0).length=1:=by kernel_rfl
def Pr:W0 (np (ğ (ι ρ).P 298) 0)=true:=by kernel_rfl
def Pp (p:ry) (v a:an):(ú kR [tI,tI,ae,aa,af,ac,aa,ai] [ab] p a).t=(ú kR [tI,tI,ae,aa,af,ac,aa,ai] [ab] p v).t:=by kernel_rfl
def Pq (p:ry) (v:an):(ú kR [tI,tI,ae,aa,af,ac,aa,ai] [ab] p v).t.all (st3 3)=true:=by kernel_rfl
def MS (p:ry) (v:an) (y:Int) (a:ry->an->CK ρ):Dl (ι ρ) (Ţ (ι ρ) (10-6 / 2)) 298 [7,8,1,1,1,1] 3 0 (np (ğ (ι ρ).P 298) 0) (ú kR [tI,tI,ae,aa,af,ac,aa,ai] [ab] p v) (enc tI y) ((oh ρ).back a)=(oh ρ).bF p v y (a p):=by kernel_rfl
def Ps (a:lm Tryz.prog IJ):(oh ρ).Ok (ι ρ):=⟨MR,a,Pp,Pq,MS⟩
def Pu:(Dz ρ).Ok (ι ρ):=⟨by kernel_rfl,fun p v b a=>by kernel_rfl⟩
def XJ (x:lA) (k:Bool->CK ρ) :
    ę (ι ρ) 154 [Â,ag] [.bool] x k=Pv x.1 x.2 k:=by kernel_rfl
def XN (x:lA) (k:Int->CK ρ) :
    ę (PI ρ) 78 [Â,ag] [tI] x k=PJ x.1 x.2 k:=by kernel_rfl
def adB (x:rn) (k:a8->CK ρ) :
    ę (abr ρ) 49 [Â,ag,tI,tI] [tI,tI] x k=adC x.1 x.2.1 x.2.2.1 x.2.2.2 k:=by kernel_rfl
def adO:(VZ ρ).Ok (KW ρ):=⟨by kernel_rfl,fun p v b a=>by kernel_rfl⟩
def adM:(VW ρ).Ok (KW ρ):=⟨by kernel_rfl,fun p v b a=>by kernel_rfl⟩
def adL:(VU ρ).Ok (KW ρ):=⟨by kernel_rfl,fun p v b a=>by kernel_rfl⟩
def adN:(VY ρ).Ok (KW ρ):=⟨by kernel_rfl,fun p v b a=>by kernel_rfl⟩
def ajh (x:Val (.pair Ô Ã)) (k:b5->CK ρ) :
    ę (KW ρ) 128 [Ô,tI,tI] [ag] x k=QR x.1 x.2.1 x.2.2 k:=by kernel_rfl
def Q3:(Eu ρ).Ok (lS ρ):=⟨by kernel_rfl,fun p v b a=>by kernel_rfl⟩
def QY:(El ρ).Ok (lS ρ):=⟨by kernel_rfl,fun p v b a=>by kernel_rfl⟩
def QZ:(En ρ).Ok (lS ρ):=⟨by kernel_rfl,fun p v b a=>by kernel_rfl⟩
def Q0:(Ep ρ).Ok (lS ρ):=⟨by kernel_rfl,fun p v b a=>by kernel_rfl⟩
def Q2:(Es ρ).Ok (lS ρ):=⟨by kernel_rfl,fun p v b a=>by kernel_rfl⟩
def YF (x:io) (k:ly->CK ρ) :
    ę (lS ρ) 64 [Ô] [ab,tI] x k=H8 x k:=by kernel_rfl
def PK:(DK ρ).Ok (Fw ρ):=⟨by kernel_rfl,fun p v b a=>by kernel_rfl⟩
def XP (x:bl) (k:(Val bi)->CK ρ) :
    ę (Fw ρ) 59 [Â] [ag,tI] x k=PL x k:=by kernel_rfl
def KV:(yX ρ).Ok (xS ρ):=⟨by kernel_rfl,fun p v b a=>by kernel_rfl⟩
def QQ (x:Val bv) (k:Int->CK ρ) :
    ę (xS ρ) 188 [Ô,ab] [tI] x k=FP x.1 x.2 k:=by kernel_rfl
def Uo:(HV ρ).Ok (KS ρ):=⟨by kernel_rfl,fun p v b a=>by kernel_rfl⟩
def abL (x:Val (.pair Ô ġ)) (k:l7->CK ρ) :
    ę (KS ρ) 189 [Ô,tI,ab] [tI,tI,.bool] x k=YA x.1 x.2.1 x.2.2 k:=by kernel_rfl
def H9 (x:Val bv) (k:Int->CK ρ) :
    ę (yZ ρ) 122 [Ô,ab] [tI] x k=vg x.1 x.2 k:=by kernel_rfl
def C4:(ro ρ).Ok (pq ρ):=⟨by kernel_rfl,fun p v b a=>by kernel_rfl⟩
def Hw (x:lA) (k:Int->CK ρ) :
    ę (pq ρ) 60 [Â,ag] [tI] x k=uW x.1 x.2 k:=by kernel_rfl
def MN (x:c7) (k:bl->CK ρ) :
    ę (Dw ρ) 77 [ac] [Â] x k=LZ x k:=by kernel_rfl
def Pf (x:Unit) (k:Bool->CK ρ) :
    ę (G0 ρ) 17 [] [.bool] x k=E8 k:=by kernel_rfl
def adH (x:rm) (k:Bool->CK ρ) :
    ę (abB ρ) 109 [tI,tI,tI] [.bool] x k=adI x.1 x.2.1 x.2.2 k:=by kernel_rfl
def abD (x:Int) (k:Bool->CK ρ) :
    ę (VM ρ) 45 [tI] [.bool] x k=Yo x k:=by kernel_rfl
def Ug:(HQ ρ).Ok (KL ρ):=⟨by kernel_rfl,fun p v b a=>by kernel_rfl⟩
def abC (x:ly) (k:Bool->CK ρ) :
    ę (KL ρ) 181 [ab,tI] [.bool] x k=Ym x.1 x.2 k:=by kernel_rfl
def Qz:(Eg ρ).Ok (FL ρ):=⟨by kernel_rfl,fun p v b a=>by kernel_rfl⟩
def Yk (x:u5) (k:an->CK ρ) :
    ę (FL ρ) 102 [ab,ab] [ab] x k=QA x.1 x.2 k:=by kernel_rfl
def abz (x:u5) (k:Int->CK ρ) :
    ę (VL ρ) 194 [ab,ab] [tI] x k=X8 x.1 x.2 k:=by kernel_rfl
def Qf:(D4 ρ).Ok (xL ρ):=⟨by kernel_rfl,fun p v b a=>by kernel_rfl⟩
def Qe:(D3 ρ).Ok (xL ρ):=⟨by kernel_rfl,fun p v b a=>by kernel_rfl⟩
def X9 (x:Val (.pair È (.pair Ö tI))) (k:Bool->CK ρ) :
    ę (xL ρ) 191 [È,Ö,tI] [.bool] x k=Qg x.1 x.2.1 x.2.2 k:=by kernel_rfl
def Nj:(A2 ρ).Ok (iZ ρ):=⟨by kernel_rfl,fun p v b a=>by kernel_rfl⟩
def Ni:(A0 ρ).Ok (iZ ρ):=⟨by kernel_rfl,fun p v b a=>by kernel_rfl⟩
def Nh:(AZ ρ).Ok (iZ ρ):=⟨by kernel_rfl,fun p v b a=>by kernel_rfl⟩
def Nd:(AQ ρ).Ok (iZ ρ):=⟨by kernel_rfl,fun p v b a=>by kernel_rfl⟩
def Nf:(AU ρ).Ok (iZ ρ):=⟨by kernel_rfl,fun p v b a=>by kernel_rfl⟩
def Ng:(AX ρ).Ok (iZ ρ):=⟨by kernel_rfl,fun p v b a=>by kernel_rfl⟩
def Ud (x:b6) (k:bx->CK ρ) :
    ę (iZ ρ) 124 [È] [aa] x k=KJ x k:=by kernel_rfl
def Nk:(A3 ρ).Ok (A4 ρ):=⟨by kernel_rfl,fun p v b a=>by kernel_rfl⟩
def Uf (x:nn) (k:Int->CK ρ) :
    ę (A4 ρ) 111 [È,Ã] [tI] x k=KK x.1 x.2 k:=by kernel_rfl
def QD:(Eh ρ).Ok (FN ρ):=⟨by kernel_rfl,fun p v b a=>by kernel_rfl⟩
def Yn (x:BE) (k:Int->CK ρ) :
    ę (FN ρ) 33 [È,tI] [tI] x k=QE x.1 x.2 k:=by kernel_rfl
def Qx:(Ee ρ).Ok (FK ρ):=⟨by kernel_rfl,fun p v b a=>by kernel_rfl⟩
def Yj (x:nn) (k:(Val bp)->CK ρ) :
    ę (FK ρ) 85 [È,tI,tI] [iE,.bool] x k=Qy x.1 x.2.1 x.2.2 k:=by kernel_rfl
def Qh:(D5 ρ).Ok (FF ρ):=⟨by kernel_rfl,fun p v b a=>by kernel_rfl⟩
def Ya (x:nn) (k:Bool->CK ρ) :
    ę (FF ρ) 239 [È,tI,tI] [.bool] x k=Qi x.1 x.2.1 x.2.2 k:=by kernel_rfl
def Qv:(Ec ρ).Ok (FJ ρ):=⟨by kernel_rfl,fun p v b a=>by kernel_rfl⟩
def Yi (x:Val (.pair È ĝ)) (k:Int->CK ρ) :
    ę (FJ ρ) 192 [È,tI,tI,tI] [tI] x k=Qw x.1 x.2.1 x.2.2.1 x.2.2.2 k:=by kernel_rfl
def Um:(HU ρ).Ok (KQ ρ):=⟨by kernel_rfl,fun p v b a=>by kernel_rfl⟩
def abI (x:a8) (k:Int->CK ρ) :
    ę (KQ ρ) 270 [tI,tI] [tI] x k=Yv x.1 x.2 k:=by kernel_rfl
def abK (x:Int) (k:Int->CK ρ) :
    ę (VS ρ) 271 [tI] [tI] x k=Yy x k:=by kernel_rfl
def QJ (x:a8) (k:js->CK ρ) :
    ę (HT ρ) 319 [tI,tI] [Α] x k=FO x.1 x.2 k:=by kernel_rfl
def abJ (x:ge) (k:js->CK ρ) :
    ę (VQ ρ) 306 [Ã,Ã] [Α] x k=Yx x.1 x.2 k:=by kernel_rfl
def abG (x:a8) (k:a8->CK ρ) :
    ę (VO ρ) 307 [Ã] [Ã] x k=Ys x k:=by kernel_rfl
def abF (x:ge) (k:js->CK ρ) :
    ę (VN ρ) 286 [Ã,Ã] [Α] x k=Yr x.1 x.2 k:=by kernel_rfl
def T0 (x:BE) (k:a8->CK ρ) :
    ę (L9 ρ) 287 [È,tI] [Ã] x k=KC x.1 x.2 k:=by kernel_rfl
def Yq (x:Val (.pair Α Α)) (k:Val vu->CK ρ) :
    ę (QM ρ) 308 [Α,Α] [vu] x k=QN x.1 x.2 k:=by kernel_rfl
def abH (x:ge) (k:js->CK ρ) :
    ę (VP ρ) 309 [Ã,Ã] [Α] x k=Yt x.1 x.2 k:=by kernel_rfl
def Ul (x:wl) (k:Val vu->CK ρ) :
    ę (Me ρ) 288 [è,Ã] [vu] x k=KP x.1 x.2 k:=by kernel_rfl
def QC (x:rx) (k:ge->CK ρ) :
    ę (HS ρ) 240 [È,Ð] [è] x k=FM x.1 x.2 k:=by kernel_rfl
def Ui (x:rx) (k:a8->CK ρ) :
    ę (Mc ρ) 241 [È,Ð] [Ã] x k=KM x.1 x.2 k:=by kernel_rfl
def adJ (x:a8) (k:Int->CK ρ) :
    ę (abE ρ) 289 [tI,tI] [tI] x k=adK x.1 x.2 k:=by kernel_rfl
def Yw (x:a8) (k:Int->CK ρ) :
    ę (QO ρ) 242 [Ã] [tI] x k=QP x k:=by kernel_rfl
def Yp (x:a8) (k:Int->CK ρ) :
    ę (QK ρ) 290 [tI,tI] [tI] x k=QL x.1 x.2 k:=by kernel_rfl
def Un (x:a8) (k:Int->CK ρ) :
    ę (Mg ρ) 243 [Ã] [tI] x k=KR x k:=by kernel_rfl
def Yf (x:rx) (k:a8->CK ρ) :
    ę (Qj ρ) 199 [È,Ð] [Ã] x k=Qk x.1 x.2 k:=by kernel_rfl
def T5:(HM ρ).Ok (wo ρ):=⟨by kernel_rfl,fun p v b a=>by kernel_rfl⟩
def T6:(HN ρ).Ok (wo ρ):=⟨by kernel_rfl,fun p v b a=>by kernel_rfl⟩
def T4:(HL ρ).Ok (wo ρ):=⟨by kernel_rfl,fun p v b a=>by kernel_rfl⟩
def abA (x:b6) (k:Val yP->CK ρ) :
    ę (wo ρ) 131 [È] [yP] x k=Ye x k:=by kernel_rfl
def M9 (x:ge) (k:Bool->CK ρ) :
    ę (D2 ρ) 160 [Ã,tI,tI] [.bool] x k=AK x.1 x.2.1 x.2.2 k:=by kernel_rfl
def Uk (x:a8) (k:Bool->CK ρ) :
    ę (Md ρ) 227 [Ã] [.bool] x k=KO x k:=by kernel_rfl
def T1 (x:nm) (k:Bool->CK ρ) :
    ę (Ma ρ) 161 [Ö] [.bool] x k=KD x k:=by kernel_rfl
def T7 (x:nn) (k:Int->CK ρ) :
    ę (Mb ρ) 166 [È,tI,tI] [tI] x k=KH x.1 x.2.1 x.2.2 k:=by kernel_rfl
def P9:(D0 ρ).Ok (FB ρ):=⟨by kernel_rfl,fun p v b a=>by kernel_rfl⟩
def X7 (x:b6) (k:Int->CK ρ) :
    ę (FB ρ) 162 [È] [tI] x k=Qa x k:=by kernel_rfl
def Nb:(AO ρ).Ok (oU ρ):=⟨by kernel_rfl,fun p v b a=>by kernel_rfl⟩
def Na:(AM ρ).Ok (oU ρ):=⟨by kernel_rfl,fun p v b a=>by kernel_rfl⟩
def Nc:(AP ρ).Ok (oU ρ):=⟨by kernel_rfl,fun p v b a=>by kernel_rfl⟩
def TZ (x:b6) (k:Int->CK ρ) :
    ę (oU ρ) 163 [È] [tI] x k=KB x k:=by kernel_rfl
def Qq:(Eb ρ).Ok (FI ρ):=⟨by kernel_rfl,fun p v b a=>by kernel_rfl⟩
def Yh (x:an) (k:Bool->CK ρ) :
    ę (FI ρ) 228 [ab] [.bool] x k=Qr x k:=by kernel_rfl
def TY (x:im) (k:Bool->CK ρ) :
    ę (L8 ρ) 164 [Ð] [.bool] x k=KA x k:=by kernel_rfl
def FE:(tU ρ).Ok (jO ρ):=⟨by kernel_rfl,fun p v b a=>by kernel_rfl⟩
def FD:(tT ρ).Ok (jO ρ):=⟨by kernel_rfl,fun p v b a=>by kernel_rfl⟩
def FC:(tS ρ).Ok (jO ρ):=⟨by kernel_rfl,fun p v b a=>by kernel_rfl⟩
def KE (x:rx) (k:Int->CK ρ) :
    ę (jO ρ) 165 [È,Ð] [tI] x k=xJ x.1 x.2 k:=by kernel_rfl
def Np:(A8 ρ).Ok (l8 ρ):=⟨by kernel_rfl,fun p v b a=>by kernel_rfl⟩
def Nn:(A6 ρ).Ok (l8 ρ):=⟨by kernel_rfl,fun p v b a=>by kernel_rfl⟩
def No:(A7 ρ).Ok (l8 ρ):=⟨by kernel_rfl,fun p v b a=>by kernel_rfl⟩
def Nl:(A5 ρ).Ok (l8 ρ):=⟨by kernel_rfl,fun p v b a=>by kernel_rfl⟩
def Uj (x:b6) (k:Int->CK ρ) :
    ę (l8 ρ) 83 [È] [tI] x k=KN x k:=by kernel_rfl
def TP:(HD ρ).Ok (wm ρ):=⟨by kernel_rfl,fun p v b a=>by kernel_rfl⟩
def TO:(HC ρ).Ok (wm ρ):=⟨by kernel_rfl,fun p v b a=>by kernel_rfl⟩
def TN:(HB ρ).Ok (wm ρ):=⟨by kernel_rfl,fun p v b a=>by kernel_rfl⟩
def abw (x:xa) (k:Int->CK ρ) :
    ę (wm ρ) 84 [È,ġ] [tI] x k=X0 x.1 x.2 k:=by kernel_rfl
def M7:(AH ρ).Ok (tQ ρ):=⟨by kernel_rfl,fun p v b a=>by kernel_rfl⟩
def M8:(AJ ρ).Ok (tQ ρ):=⟨by kernel_rfl,fun p v b a=>by kernel_rfl⟩
def TW (x:bl) (k:Int->CK ρ) :
    ę (tQ ρ) 21 [Â] [tI] x k=Kz x k:=by kernel_rfl
def X6:(L7 ρ).Ok (P8 ρ):=⟨by kernel_rfl,fun p v b a=>by kernel_rfl⟩
def adF (x:ly) (k:Int->CK ρ) :
    ę (P8 ρ) 38 [ab,tI] [tI] x k=adG x.1 x.2 k:=by kernel_rfl
end Go.Proofs.ZzM
end
