/- lemmas -/
import Derived.Test.YtiochmbenflhhaaGreatMdMA
set_option linter.all false
set_option linter.unusedSectionVars false
set_option linter.unusedVariables false
set_option linter.unusedSimpArgs false
noncomputable section
variable {ρ:Type}
set_option maxRecDepth 100000
namespace Go.Proofs.ZzM
open Go Go.Am
def Mv (x:Val (.pair tI (.pair tI (.pair ak (.pair (.ptr tI) (.pair aW (.ptr tI))))))) (k:Val Ą→Option ρ) :
    đ (BM ρ) 170 (ĉ [tI,tI,ak,(.ptr tI),aW,(.ptr tI)] x) (fun h v=>Â (Đ [Ą] h v) k)=yd x.1 x.2.1 x.2.2.1 x.2.2.2.1 x.2.2.2.2.1 x.2.2.2.2.2 k:=by kernel_rfl
def Mu:(yb ρ).Ok (qQ ρ):=⟨by kernel_rfl,fun p v kn kx=>by kernel_rfl⟩
def SK (x:Val (.pair ak aZ)) (k:(Val (.pair Ŭ tI))→Option ρ) :
    đ (qQ ρ) 98 (ĉ [ak,Ã,Ì] x) (fun h v=>Â (Đ [Ŭ,tI] h v) k)=Jd x.1 x.2.1 x.2.2 k:=by kernel_rfl
def Je (x:Val Ą) (k:(Val ab)→Option ρ) :
    đ (yf ρ) 101 (ĉ [Ą] x) (fun h v=>Â (Đ [ab] h v) k)=uU x k:=by kernel_rfl
def SL (x:Val (.pair Ą tI)) (k:Int→Option ρ) :
    đ (K5 ρ) 172 (ĉ [Ą,tI] x) (fun h v=>Â (Đ [tI] h v) k)=Jg x.1 x.2 k:=by kernel_rfl
def FA (x:Val (.pair Ŭ tI)) (k:Val Ã→Option ρ) :
    đ (wn ρ) 105 (ĉ [Ŭ,tI] x) (fun h v=>Â (Đ [Ã] h v) k)=rJ x.1 x.2 k:=by kernel_rfl
def AH:(oX ρ).Ok (j1 ρ):=⟨by kernel_rfl,fun p v kn kx=>by kernel_rfl⟩
def AI:(oZ ρ).Ok (j1 ρ):=⟨by kernel_rfl,fun p v kn kx=>by kernel_rfl⟩
def FB (x:Val (.pair Ŭ ab)) (k:(Val ab)→Option ρ) :
    đ (j1 ρ) 106 (ĉ [Ŭ,ab] x) (fun h v=>Â (Đ [ab] h v) k)=rK x.1 x.2 k:=by kernel_rfl
def xV:(nE ρ).Ok (l5 ρ):=⟨by kernel_rfl,fun p v kn kx=>by kernel_rfl⟩
def Df (x:Val Ŭ) (k:Int→Option ρ) :
    đ (l5 ρ) 99 (ĉ [Ŭ] x) (fun h v=>Â (Đ [tI] h v) k)=oW x k:=by kernel_rfl
def Pq:(BP ρ).Ok (DJ ρ):=⟨by kernel_rfl,fun p v kn kx=>by kernel_rfl⟩
def WW (x:Val (.pair Ä aZ)) (k:Val Ã→Option ρ) :
    đ (DJ ρ) 37 (ĉ [Ä,Ã,Ì] x) (fun h v=>Â (Đ [tI,tI] h v) k)=Pr x.1 x.2.1 x.2.2 k:=by kernel_rfl
def Jl (x:Val tI) (k:Int→Option ρ) :
    đ (yi ρ) 102 (ĉ [tI] x) (fun h v=>Â (Đ [tI] h v) k)=uY x k:=by kernel_rfl
def Jf (x:Val (.pair Ą tI)) (k:(Val ab)→Option ρ) :
    đ (yg ρ) 103 (ĉ [Ą,tI] x) (fun h v=>Â (Đ [ab] h v) k)=uV x.1 x.2 k:=by kernel_rfl
def Gi:(((rD (Ē ρ).P 41).elim [] (ð 0)).filter fun y=>Nat.beq y.1 0).length=1:=by kernel_rfl
def Gj (p:Val az) (v:Val aF) (kn:Val az→Val aF→Option ρ) (kx:(i:Nat)→Val az→Val (tyL (Ι.zs i))→Option ρ) :
    goC (Ē ρ) (jW (Ē ρ) (10-2 / 2)) 41 [1,3] 5 0 (LG (rD (Ē ρ).P 41) 0) (je Ι.head Ι.cs Ι.vs p v) (YT Ι kn kx)=(nv ρ).bF p v (kn p) (fun i=>kx i p):=by kernel_rfl
def Jk:(nv ρ).Ok (Ē ρ):=⟨Gi,Gj⟩
def Gg:(((rD (Ē ρ).P 115).elim [] (ð 0)).filter fun y=>Nat.beq y.1 0).length=1:=by kernel_rfl
def Gh (p:Val aq) (v:Val tI) (kn:Val aq→Val tI→Option ρ) (kx:(i:Nat)→Val aq→Val (tyL (Θ.zs i))→Option ρ) :
    goC (Ē ρ) (jW (Ē ρ) (10-4 / 2)) 115 [18,4,1,2] 12 0 (LG (rD (Ē ρ).P 115) 0) (je Θ.head Θ.cs Θ.vs p v) (YT Θ kn kx)=(nu ρ).bF p v (kn p) (fun i=>kx i p):=by kernel_rfl
def Jj:(nu ρ).Ok (Ē ρ):=⟨Gg,Gh⟩
def Ps (x:Val (.pair Ä (.pair Ã aZ))) (k:(Val aS)→Option ρ) :
    đ (uX ρ) 38 (ĉ [Ä,Ã,Ã,Ì] x) (fun h v=>Â (Đ [.bool,tI] h v) k)=DK x.1 x.2.1 x.2.2.1 x.2.2.2 k:=by kernel_rfl
def Jw:(wM ρ).Ok (vg ρ):=⟨by kernel_rfl,fun p v kn kx=>by kernel_rfl⟩
def PE (x:Val bh) (k:Int→Option ρ) :
    đ (vg ρ) 155 (ĉ [Ò,ab] x) (fun h v=>Â (Đ [tI] h v) k)=DP x.1 x.2 k:=by kernel_rfl
def SX:(Gt ρ).Ok (Ju ρ):=⟨by kernel_rfl,fun p v kn kx=>by kernel_rfl⟩
def aaB (x:Val (.pair Ò ay)) (k:(Val (.pair tI (.pair tI .bool)))→Option ρ) :
    đ (Ju ρ) 156 (ĉ [Ò,tI,ab] x) (fun h v=>Â (Đ [tI,tI,.bool] h v) k)=W7 x.1 x.2.1 x.2.2 k:=by kernel_rfl
def GG (x:Val bh) (k:Int→Option ρ) :
    đ (wO ρ) 81 (ĉ [Ò,ab] x) (fun h v=>Â (Đ [tI] h v) k)=rW x.1 x.2 k:=by kernel_rfl
def Gs (x:Val ι) (k:Int→Option ρ) :
    đ (wE ρ) 25 (ĉ [ι] x) (fun h v=>Â (Đ [tI] h v) k)=rQ x k:=by kernel_rfl
def GH (x:Val (.pair Ò (.pair tI ay))) (k:Val Ã→Option ρ) :
    đ (wP ρ) 107 (ĉ [Ò,tI,tI,ab] x) (fun h v=>Â (Đ [tI,tI] h v) k)=rX x.1 x.2.1 x.2.2.1 x.2.2.2 k:=by kernel_rfl
def Jp (x:Val ι) (k:Int→Option ρ) :
    đ (yw ρ) 40 (ĉ [ι] x) (fun h v=>Â (Đ [tI] h v) k)=vc x k:=by kernel_rfl
def j9:(Ž ρ).Ok (ņ ρ):=⟨by kernel_rfl,fun p v kn kx=>by kernel_rfl⟩
def kQ (x:Val (.pair ae Ð)) (k:Int→Option ρ) :
    đ (ņ ρ) 233 (ĉ [ae,Ð] x) (fun h v=>Â (Đ [tI] h v) k)=Ş x.1 x.2 k:=by kernel_rfl
def jO (x:Val (.pair ae Ð)) (k:Bool→Option ρ) :
    đ (Β ρ) 190 (ĉ [ae,Ð] x) (fun h v=>Â (Đ [.bool] h v) k)=Ł x.1 x.2 k:=by kernel_rfl
def lW:(ij ρ).Ok (ů ρ):=⟨by kernel_rfl,fun p v kn kx=>by kernel_rfl⟩
def nr (x:Val ba) (k:Int→Option ρ) :
    đ (ů ρ) 235 (ĉ [aa,Ã] x) (fun h v=>Â (Đ [tI] h v) k)=Ω x.1 x.2 k:=by kernel_rfl
def lK (x:Val ba) (k:Bool→Option ρ) :
    đ (ik ρ) 193 (ĉ [aa,Ã] x) (fun h v=>Â (Đ [.bool] h v) k)=Ť x.1 x.2 k:=by kernel_rfl
def kP:(ς ρ).Ok (ŝ ρ):=⟨by kernel_rfl,fun p v kn kx=>by kernel_rfl⟩
def lY (x:Val (.pair af Ń)) (k:Int→Option ρ) :
    đ (ŝ ρ) 237 (ĉ [af,Ń] x) (fun h v=>Â (Đ [tI] h v) k)=ű x.1 x.2 k:=by kernel_rfl
def kJ (x:Val (.pair af Ń)) (k:Bool→Option ρ) :
    đ (χ ρ) 196 (ĉ [af,Ń] x) (fun h v=>Â (Đ [.bool] h v) k)=Ő x.1 x.2 k:=by kernel_rfl
def SI:(F9 ρ).Ok (Η ρ):=⟨by kernel_rfl,fun p v kn kx=>by kernel_rfl⟩
def SF:(F3 ρ).Ok (Η ρ):=⟨by kernel_rfl,fun p v kn kx=>by kernel_rfl⟩
def SE:(F1 ρ).Ok (Η ρ):=⟨by kernel_rfl,fun p v kn kx=>by kernel_rfl⟩
def SG:(F5 ρ).Ok (Η ρ):=⟨by kernel_rfl,fun p v kn kx=>by kernel_rfl⟩
def SH:(F7 ρ).Ok (Η ρ):=⟨by kernel_rfl,fun p v kn kx=>by kernel_rfl⟩
def SD:(FZ ρ).Ok (Η ρ):=⟨by kernel_rfl,fun p v kn kx=>by kernel_rfl⟩
def SC:(FX ρ).Ok (Η ρ):=⟨by kernel_rfl,fun p v kn kx=>by kernel_rfl⟩
def SB:(FV ρ).Ok (Η ρ):=⟨by kernel_rfl,fun p v kn kx=>by kernel_rfl⟩
def SA:(FT ρ).Ok (Η ρ):=⟨by kernel_rfl,fun p v kn kx=>by kernel_rfl⟩
def Sz:(FR ρ).Ok (Η ρ):=⟨by kernel_rfl,fun p v kn kx=>by kernel_rfl⟩
def aam (x:Val (.pair Ä Ä)) (k:Bool→Option ρ) :
    đ (Η ρ) 55 (ĉ [Ä,Ä] x) (fun h v=>Â (Đ [.bool] h v) k)=WL x.1 x.2 k:=by kernel_rfl
def SP (x:Val (.pair Ä ι)) (k:(Val aS)→Option ρ) :
    đ (La ρ) 39 (ĉ [Ä,ι] x) (fun h v=>Â (Đ [.bool,tI] h v) k)=Ji x.1 x.2 k:=by kernel_rfl
def Ou (x:Unit) (k:Bool→Option ρ) :
    đ (E4 ρ) 8 (ĉ [] x) (fun h v=>Â (Đ [.bool] h v) k)=C1 k:=by kernel_rfl
def DE:(qM ρ).Ok (à ρ):=⟨by kernel_rfl,fun p v kn kx=>by kernel_rfl⟩
def Dt:(qL ρ).Ok (à ρ):=⟨by kernel_rfl,fun p v kn kx=>by kernel_rfl⟩
def Dp:(qJ ρ).Ok (à ρ):=⟨by kernel_rfl,fun p v kn kx=>by kernel_rfl⟩
def Dn:(qI ρ).Ok (à ρ):=⟨by kernel_rfl,fun p v kn kx=>by kernel_rfl⟩
def Dl:(qG ρ).Ok (à ρ):=⟨by kernel_rfl,fun p v kn kx=>by kernel_rfl⟩
def Dk:(qF ρ).Ok (à ρ):=⟨by kernel_rfl,fun p v kn kx=>by kernel_rfl⟩
def Di:(qD ρ).Ok (à ρ):=⟨by kernel_rfl,fun p v kn kx=>by kernel_rfl⟩
def Dj:(qE ρ).Ok (à ρ):=⟨by kernel_rfl,fun p v kn kx=>by kernel_rfl⟩
def Dm:(qH ρ).Ok (à ρ):=⟨by kernel_rfl,fun p v kn kx=>by kernel_rfl⟩
def AZ:(pp ρ).Ok (à ρ):=⟨by kernel_rfl,fun p v kn kx=>by kernel_rfl⟩
def AX:(pn ρ).Ok (à ρ):=⟨by kernel_rfl,fun p v kn kx=>by kernel_rfl⟩
def AY:(po ρ).Ok (à ρ):=⟨by kernel_rfl,fun p v kn kx=>by kernel_rfl⟩
def Dq:(qK ρ).Ok (à ρ):=⟨by kernel_rfl,fun p v kn kx=>by kernel_rfl⟩
def AW:(pm ρ).Ok (à ρ):=⟨by kernel_rfl,fun p v kn kx=>by kernel_rfl⟩
def AR:(pk ρ).Ok (à ρ):=⟨by kernel_rfl,fun p v kn kx=>by kernel_rfl⟩
def AQ:(pj ρ).Ok (à ρ):=⟨by kernel_rfl,fun p v kn kx=>by kernel_rfl⟩
def AO:(pf ρ).Ok (à ρ):=⟨by kernel_rfl,fun p v kn kx=>by kernel_rfl⟩
def AP:(ph ρ).Ok (à ρ):=⟨by kernel_rfl,fun p v kn kx=>by kernel_rfl⟩
def AU:(pl ρ).Ok (à ρ):=⟨by kernel_rfl,fun p v kn kx=>by kernel_rfl⟩
def AM:(pd ρ).Ok (à ρ):=⟨by kernel_rfl,fun p v kn kx=>by kernel_rfl⟩
def AJ:(o9 ρ).Ok (à ρ):=⟨by kernel_rfl,fun p v kn kx=>by kernel_rfl⟩
def AK:(pb ρ).Ok (à ρ):=⟨by kernel_rfl,fun p v kn kx=>by kernel_rfl⟩
def Ja (x:Val (.pair ak aL)) (k:Int→Option ρ) :
    đ (à ρ) 51 (ĉ [ak,ab,ab] x) (fun h v=>Â (Đ [tI] h v) k)=FN x.1 x.2.1 x.2.2 k:=by kernel_rfl
def ME:(yu ρ).Ok (kw ρ):=⟨by kernel_rfl,fun p v kn kx=>by kernel_rfl⟩
def MD:(yq ρ).Ok (kw ρ):=⟨by kernel_rfl,fun p v kn kx=>by kernel_rfl⟩
def MC:(yo ρ).Ok (kw ρ):=⟨by kernel_rfl,fun p v kn kx=>by kernel_rfl⟩
def MB:(ym ρ).Ok (kw ρ):=⟨by kernel_rfl,fun p v kn kx=>by kernel_rfl⟩
def SU (x:Val (.pair Ä (.pair tI aL))) (k:Val ħ→Option ρ) :
    đ (kw ρ) 11 (ĉ [Ä,tI,ab,ab] x) (fun h v=>Â (Đ [Ã,tI] h v) k)=Jn x.1 x.2.1 x.2.2.1 x.2.2.2 k:=by kernel_rfl
def Ot:(Bj ρ).Ok (C0 ρ):=⟨by kernel_rfl,fun p v kn kx=>by kernel_rfl⟩
def V1 (x:Val (.pair Ä aa)) (k:(Val (.pair Ä .bool))→Option ρ) :
    đ (C0 ρ) 13 (ĉ [Ä,aa] x) (fun h v=>Â (Đ [Ä,.bool] h v) k)=EZ x.1 x.2 k:=by kernel_rfl
def aay (x:Val (.pair Ä Ä)) (k:(Val aS)→Option ρ) :
    đ (Jm ρ) 14 (ĉ [Ä,Ä] x) (fun h v=>Â (Đ [.bool,tI] h v) k)=WZ x.1 x.2 k:=by kernel_rfl
def Ma (x:Val è) (k:Bool→Option ρ) :
    đ (Bn ρ) 56 (ĉ [Ã,tI,tI] x) (fun h v=>Â (Đ [.bool] h v) k)=xA x.1 x.2.1 x.2.2 k:=by kernel_rfl
def acO (x:Val Ą) (k:Bool→Option ρ) :
    đ (Z7 ρ) 132 (ĉ [tI,tI,tI] x) (fun h v=>Â (Đ [.bool] h v) k)=acP x.1 x.2.1 x.2.2 k:=by kernel_rfl
def aaa (x:Val tI) (k:Bool→Option ρ) :
    đ (Ul ρ) 62 (ĉ [tI] x) (fun h v=>Â (Đ [.bool] h v) k)=Wv x k:=by kernel_rfl
def Su:(Fx ρ).Ok (I5 ρ):=⟨by kernel_rfl,fun p v kn kx=>by kernel_rfl⟩
def aah (x:Val Ã) (k:Int→Option ρ) :
    đ (I5 ρ) 197 (ĉ [tI,tI] x) (fun h v=>Â (Đ [tI] h v) k)=WF x.1 x.2 k:=by kernel_rfl
def aak (x:Val tI) (k:Int→Option ρ) :
    đ (Uq ρ) 198 (ĉ [tI] x) (fun h v=>Â (Đ [tI] h v) k)=WJ x k:=by kernel_rfl
def Sr (x:Val Ã) (k:Bool→Option ρ) :
    đ (KR ρ) 131 (ĉ [Ã] x) (fun h v=>Â (Đ [.bool] h v) k)=I3 x k:=by kernel_rfl
def RU (x:Val Ð) (k:Bool→Option ρ) :
    đ (KL ρ) 57 (ĉ [Ð] x) (fun h v=>Â (Đ [.bool] h v) k)=IV x k:=by kernel_rfl
def O0:(BD ρ).Ok (Dc ρ):=⟨by kernel_rfl,fun p v kn kx=>by kernel_rfl⟩
def Wt (x:Val aM) (k:Int→Option ρ) :
    đ (Dc ρ) 134 (ĉ [Ä,tI] x) (fun h v=>Â (Đ [tI] h v) k)=O1 x.1 x.2 k:=by kernel_rfl
def Sb (x:Val aJ) (k:Int→Option ρ) :
    đ (KN ρ) 63 (ĉ [Ä,tI,tI] x) (fun h v=>Â (Đ [tI] h v) k)=IX x.1 x.2.1 x.2.2 k:=by kernel_rfl
def Ow:(Bm ρ).Ok (C2 ρ):=⟨by kernel_rfl,fun p v kn kx=>by kernel_rfl⟩
def V5 (x:Val Ä) (k:Int→Option ρ) :
    đ (C2 ρ) 58 (ĉ [Ä] x) (fun h v=>Â (Đ [tI] h v) k)=Ox x k:=by kernel_rfl
def Mc:(xC ρ).Ok (mP ρ):=⟨by kernel_rfl,fun p v kn kx=>by kernel_rfl⟩
def Mb:(xB ρ).Ok (mP ρ):=⟨by kernel_rfl,fun p v kn kx=>by kernel_rfl⟩
def Md:(xD ρ).Ok (mP ρ):=⟨by kernel_rfl,fun p v kn kx=>by kernel_rfl⟩
def RS (x:Val Ä) (k:Int→Option ρ) :
    đ (mP ρ) 59 (ĉ [Ä] x) (fun h v=>Â (Đ [tI] h v) k)=IT x k:=by kernel_rfl
def OK:(Bw ρ).Ok (C7 ρ):=⟨by kernel_rfl,fun p v kn kx=>by kernel_rfl⟩
def Wk (x:Val ab) (k:Bool→Option ρ) :
    đ (C7 ρ) 133 (ĉ [ab] x) (fun h v=>Â (Đ [.bool] h v) k)=OL x k:=by kernel_rfl
def RQ (x:Val Ì) (k:Bool→Option ρ) :
    đ (KI ρ) 60 (ĉ [Ì] x) (fun h v=>Â (Đ [.bool] h v) k)=IR x k:=by kernel_rfl
def OT:(BA ρ).Ok (C9 ρ):=⟨by kernel_rfl,fun p v kn kx=>by kernel_rfl⟩
def Wo (x:Val aJ) (k:(Val bf)→Option ρ) :
    đ (C9 ρ) 135 (ĉ [Ä,tI,tI] x) (fun h v=>Â (Đ [Ń,.bool] h v) k)=OU x.1 x.2.1 x.2.2 k:=by kernel_rfl
def Si:(Fr ρ).Ok (I0 ρ):=⟨by kernel_rfl,fun p v kn kx=>by kernel_rfl⟩
def Z8 (x:Val aK) (k:Bool→Option ρ) :
    đ (I0 ρ) 199 (ĉ [ab,tI] x) (fun h v=>Â (Đ [.bool] h v) k)=Ws x.1 x.2 k:=by kernel_rfl
def OV:(BB ρ).Ok (Da ρ):=⟨by kernel_rfl,fun p v kn kx=>by kernel_rfl⟩
def Wp (x:Val aL) (k:(Val ab)→Option ρ) :
    đ (Da ρ) 136 (ĉ [ab,ab] x) (fun h v=>Â (Đ [ab] h v) k)=OW x.1 x.2 k:=by kernel_rfl
def C5:(qt ρ).Ok (jh ρ):=⟨by kernel_rfl,fun p v kn kx=>by kernel_rfl⟩
def C4:(qr ρ).Ok (jh ρ):=⟨by kernel_rfl,fun p v kn kx=>by kernel_rfl⟩
def C3:(qq ρ).Ok (jh ρ):=⟨by kernel_rfl,fun p v kn kx=>by kernel_rfl⟩
def IW (x:Val aE) (k:Int→Option ρ) :
    đ (jh ρ) 61 (ĉ [Ä,Ì] x) (fun h v=>Â (Đ [tI] h v) k)=uL x.1 x.2 k:=by kernel_rfl
def ZY (x:Val aL) (k:Int→Option ρ) :
    đ (Uk ρ) 139 (ĉ [ab,ab] x) (fun h v=>Â (Đ [tI] h v) k)=V7 x.1 x.2 k:=by kernel_rfl
def OD:(Bt ρ).Ok (uM ρ):=⟨by kernel_rfl,fun p v kn kx=>by kernel_rfl⟩
def OC:(Bs ρ).Ok (uM ρ):=⟨by kernel_rfl,fun p v kn kx=>by kernel_rfl⟩
def Wc (x:Val (.pair Ä (.pair Ð tI))) (k:Bool→Option ρ) :
    đ (uM ρ) 137 (ĉ [Ä,Ð,tI] x) (fun h v=>Â (Đ [.bool] h v) k)=OE x.1 x.2.1 x.2.2 k:=by kernel_rfl
def Ml:(xM ρ).Ok (il ρ):=⟨by kernel_rfl,fun p v kn kx=>by kernel_rfl⟩
def Mk:(xL ρ).Ok (il ρ):=⟨by kernel_rfl,fun p v kn kx=>by kernel_rfl⟩
def Mj:(xK ρ).Ok (il ρ):=⟨by kernel_rfl,fun p v kn kx=>by kernel_rfl⟩
def Mg:(xE ρ).Ok (il ρ):=⟨by kernel_rfl,fun p v kn kx=>by kernel_rfl⟩
def Mh:(xG ρ).Ok (il ρ):=⟨by kernel_rfl,fun p v kn kx=>by kernel_rfl⟩
def Mi:(xI ρ).Ok (il ρ):=⟨by kernel_rfl,fun p v kn kx=>by kernel_rfl⟩
def Se (x:Val Ä) (k:(Val aa)→Option ρ) :
    đ (il ρ) 64 (ĉ [Ä] x) (fun h v=>Â (Đ [aa] h v) k)=IY x k:=by kernel_rfl
def Mm:(xN ρ).Ok (xO ρ):=⟨by kernel_rfl,fun p v kn kx=>by kernel_rfl⟩
def Sh (x:Val aJ) (k:Int→Option ρ) :
    đ (xO ρ) 85 (ĉ [Ä,Ã] x) (fun h v=>Â (Đ [tI] h v) k)=IZ x.1 x.2 k:=by kernel_rfl
def OG:(Bu ρ).Ok (C6 ρ):=⟨by kernel_rfl,fun p v kn kx=>by kernel_rfl⟩
def Wd (x:Val aJ) (k:Bool→Option ρ) :
    đ (C6 ρ) 200 (ĉ [Ä,tI,tI] x) (fun h v=>Â (Đ [.bool] h v) k)=OH x.1 x.2.1 x.2.2 k:=by kernel_rfl
def OQ:(By ρ).Ok (C8 ρ):=⟨by kernel_rfl,fun p v kn kx=>by kernel_rfl⟩
def Wn (x:Val (.pair Ä Ą)) (k:Int→Option ρ) :
    đ (C8 ρ) 138 (ĉ [Ä,tI,tI,tI] x) (fun h v=>Â (Đ [tI] h v) k)=OS x.1 x.2.1 x.2.2.1 x.2.2.2 k:=by kernel_rfl
def O7 (x:Val Ã) (k:Val ħ→Option ρ) :
    đ (Fu ρ) 274 (ĉ [tI,tI] x) (fun h v=>Â (Đ [ħ] h v) k)=De x.1 x.2 k:=by kernel_rfl
def aaj (x:Val è) (k:Val ħ→Option ρ) :
    đ (Up ρ) 254 (ĉ [Ã,Ã] x) (fun h v=>Â (Đ [ħ] h v) k)=WI x.1 x.2 k:=by kernel_rfl
def aaf (x:Val Ã) (k:Val Ã→Option ρ) :
    đ (Un ρ) 255 (ĉ [Ã] x) (fun h v=>Â (Đ [Ã] h v) k)=WC x k:=by kernel_rfl
def aae (x:Val è) (k:Val ħ→Option ρ) :
    đ (Um ρ) 238 (ĉ [Ã,Ã] x) (fun h v=>Â (Đ [ħ] h v) k)=WA x.1 x.2 k:=by kernel_rfl
def RT (x:Val aM) (k:Val Ã→Option ρ) :
    đ (KK ρ) 239 (ĉ [Ä,tI] x) (fun h v=>Â (Đ [Ã] h v) k)=IU x.1 x.2 k:=by kernel_rfl
def Wy (x:Val (.pair ħ ħ)) (k:Val sr→Option ρ) :
    đ (Pa ρ) 256 (ĉ [ħ,ħ] x) (fun h v=>Â (Đ [sr] h v) k)=Pb x.1 x.2 k:=by kernel_rfl
def aag (x:Val è) (k:Val ħ→Option ρ) :
    đ (Uo ρ) 257 (ĉ [Ã,Ã] x) (fun h v=>Â (Đ [ħ] h v) k)=WD x.1 x.2 k:=by kernel_rfl
end Go.Proofs.ZzM
end
