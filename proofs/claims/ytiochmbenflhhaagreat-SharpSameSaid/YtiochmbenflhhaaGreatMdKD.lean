/- lemmas -/
import Derived.Test.YtiochmbenflhhaaGreatMdMA
set_option linter.all false
set_option linter.unusedSectionVars false
set_option linter.unusedVariables false
set_option linter.unusedSimpArgs false
noncomputable section
variable {ρ:Type}
set_option maxRecDepth 100000
namespace Go.Proofs.ZzM
open Go Go.Am
def Tn (x:Val è) (k:Bool→Option ρ) :
    đ (Lw ρ) 109 (ĉ [Ã,tI,tI] x) (fun h v=>Â (Đ [.bool] h v) k)=JK x.1 x.2.1 x.2.2 k:=by kernel_rfl
def Ta (x:Val Ą) (k:Bool→Option ρ) :
    đ (Lr ρ) 144 (ĉ [tI,tI,tI] x) (fun h v=>Â (Đ [.bool] h v) k)=JE x.1 x.2.1 x.2.2 k:=by kernel_rfl
def Xz (x:Val tI) (k:Bool→Option ρ) :
    đ (Qm ρ) 176 (ĉ [tI] x) (fun h v=>Â (Đ [.bool] h v) k)=Qn x k:=by kernel_rfl
def aaK (x:Val tI) (k:Int→Option ρ) :
    đ (UA ρ) 249 (ĉ [tI] x) (fun h v=>Â (Đ [(.int .u64)] h v) k)=Xh x k:=by kernel_rfl
def Xi:(Lm ρ).Ok (P0 ρ):=⟨by kernel_rfl,fun p v kn kx=>by kernel_rfl⟩
def adf (x:Val bg) (k:Int→Option ρ) :
    đ (P0 ρ) 250 (ĉ [(.int .u64),(.int .u64)] x) (fun h v=>Â (Đ [(.int .u64)] h v) k)=adg x.1 x.2 k:=by kernel_rfl
def Xk (x:Val Ã) (k:Bool→Option ρ) :
    đ (P3 ρ) 218 (ĉ [Ã] x) (fun h v=>Â (Đ [.bool] h v) k)=P4 x k:=by kernel_rfl
def Ql (x:Val Ð) (k:Bool→Option ρ) :
    đ (Ha ρ) 174 (ĉ [Ð] x) (fun h v=>Â (Đ [.bool] h v) k)=DZ x k:=by kernel_rfl
def yV:(nI ρ).Ok (me ρ):=⟨by kernel_rfl,fun p v kn kx=>by kernel_rfl⟩
def D2 (x:Val Ä) (k:Int→Option ρ) :
    đ (me ρ) 110 (ĉ [Ä] x) (fun h v=>Â (Đ [tI] h v) k)=pD x k:=by kernel_rfl
def JF:(wR ρ).Ok (vn ρ):=⟨by kernel_rfl,fun p v kn kx=>by kernel_rfl⟩
def Qe (x:Val Ä) (k:(Val aw)→Option ρ) :
    đ (vn ρ) 111 (ĉ [Ä] x) (fun h v=>Â (Đ [aw] h v) k)=DW x k:=by kernel_rfl
def uI:(lN ρ).Ok (j8 ρ):=⟨by kernel_rfl,fun p v kn kx=>by kernel_rfl⟩
def xy (x:Val aK) (k:Int→Option ρ) :
    đ (j8 ρ) 116 (ĉ [ab,tI] x) (fun h v=>Â (Đ [tI] h v) k)=lV x.1 x.2 k:=by kernel_rfl
def sN (x:Val aK) (k:Bool→Option ρ) :
    đ (lO ρ) 49 (ĉ [ab,tI] x) (fun h v=>Â (Đ [.bool] h v) k)=jH x.1 x.2 k:=by kernel_rfl
def Tr:(Hg ρ).Ok (zU ρ):=⟨by kernel_rfl,fun p v kn kx=>by kernel_rfl⟩
def Tq:(He ρ).Ok (zU ρ):=⟨by kernel_rfl,fun p v kn kx=>by kernel_rfl⟩
def aa3 (x:Val (.pair Ä Ð)) (k:(Val ab)→Option ρ) :
    đ (zU ρ) 181 (ĉ [Ä,Ð] x) (fun h v=>Â (Đ [ab] h v) k)=XE x.1 x.2 k:=by kernel_rfl
def Qg:(Ck ρ).Ok (vr ρ):=⟨by kernel_rfl,fun p v kn kx=>by kernel_rfl⟩
def Qh:(Cm ρ).Ok (vr ρ):=⟨by kernel_rfl,fun p v kn kx=>by kernel_rfl⟩
def Xs (x:Val Ä) (k:(Val aa)→Option ρ) :
    đ (vr ρ) 113 (ĉ [Ä] x) (fun h v=>Â (Đ [aa] h v) k)=Qi x k:=by kernel_rfl
def GV (x:Val (.pair aw Ã)) (k:Int→Option ρ) :
    đ (wS ρ) 177 (ĉ [aw,tI,tI] x) (fun h v=>Â (Đ [tI] h v) k)=rZ x.1 x.2.1 x.2.2 k:=by kernel_rfl
def Qf (x:Val (.pair tI (.pair tI (.ptr aw)))) (k:Int→Option ρ) :
    đ (GW ρ) 175 (ĉ [tI,tI,(.ptr aw)] x) (fun h v=>Â (Đ [tI] h v) k)=DY x.1 x.2.1 x.2.2 k:=by kernel_rfl
def D1:(rq ρ).Ok (lf ρ):=⟨by kernel_rfl,fun p v kn kx=>by kernel_rfl⟩
def D0:(ro ρ).Ok (lf ρ):=⟨by kernel_rfl,fun p v kn kx=>by kernel_rfl⟩
def JM (x:Val bj) (k:Int→Option ρ) :
    đ (lf ρ) 179 (ĉ [Ä,aw,tI] x) (fun h v=>Â (Đ [tI] h v) k)=vB x.1 x.2.1 x.2.2 k:=by kernel_rfl
def sP:(kT ρ).Ok (gS ρ):=⟨by kernel_rfl,fun p v kn kx=>by kernel_rfl⟩
def sO:(kS ρ).Ok (gS ρ):=⟨by kernel_rfl,fun p v kn kx=>by kernel_rfl⟩
def wZ (x:Val ar) (k:(Val ab)→Option ρ) :
    đ (gS ρ) 100 (ĉ [ar] x) (fun h v=>Â (Đ [ab] h v) k)=ja x k:=by kernel_rfl
def MS:(yS ρ).Ok (yT ρ):=⟨by kernel_rfl,fun p v kn kx=>by kernel_rfl⟩
def Tl (x:Val ab) (k:Bool→Option ρ) :
    đ (yT ρ) 182 (ĉ [ab] x) (fun h v=>Â (Đ [.bool] h v) k)=JJ x k:=by kernel_rfl
def Tk:(G9 ρ).Ok (zT ρ):=⟨by kernel_rfl,fun p v kn kx=>by kernel_rfl⟩
def Tj:(G8 ρ).Ok (zT ρ):=⟨by kernel_rfl,fun p v kn kx=>by kernel_rfl⟩
def aa0 (x:Val aL) (k:(Val ab)→Option ρ) :
    đ (zT ρ) 183 (ĉ [ab,ab] x) (fun h v=>Â (Đ [ab] h v) k)=Xx x.1 x.2 k:=by kernel_rfl
def Ts:(Hm ρ).Ok (JN ρ):=⟨by kernel_rfl,fun p v kn kx=>by kernel_rfl⟩
def aa4 (x:Val aJ) (k:(Val bf)→Option ρ) :
    đ (JN ρ) 222 (ĉ [Ä,tI,tI] x) (fun h v=>Â (Đ [Ń,.bool] h v) k)=XF x.1 x.2.1 x.2.2 k:=by kernel_rfl
def xa:(m7 ρ).Ok (ř ρ):=⟨by kernel_rfl,fun p v kn kx=>by kernel_rfl⟩
def w8:(mW ρ).Ok (ř ρ):=⟨by kernel_rfl,fun p v kn kx=>by kernel_rfl⟩
def w9:(mY ρ).Ok (ř ρ):=⟨by kernel_rfl,fun p v kn kx=>by kernel_rfl⟩
def w7:(mU ρ).Ok (ř ρ):=⟨by kernel_rfl,fun p v kn kx=>by kernel_rfl⟩
def A4 (x:Val bj) (k:Int→Option ρ) :
    đ (ř ρ) 180 (ĉ [Ä,aw,tI] x) (fun h v=>Â (Đ [tI] h v) k)=ny x.1 x.2.1 x.2.2 k:=by kernel_rfl
def WU:(K8 ρ).Ok (Ų ρ):=⟨by kernel_rfl,fun p v kn kx=>by kernel_rfl⟩
def WV:(K9 ρ).Ok (Ų ρ):=⟨by kernel_rfl,fun p v kn kx=>by kernel_rfl⟩
def WT:(K7 ρ).Ok (Ų ρ):=⟨by kernel_rfl,fun p v kn kx=>by kernel_rfl⟩
def WS:(qV ρ).Ok (Ų ρ):=⟨by kernel_rfl,fun p v kn kx=>by kernel_rfl⟩
def WR:(qU ρ).Ok (Ų ρ):=⟨by kernel_rfl,fun p v kn kx=>by kernel_rfl⟩
def WQ:(qT ρ).Ok (Ų ρ):=⟨by kernel_rfl,fun p v kn kx=>by kernel_rfl⟩
def ac3 (x:Val (.pair Ä (.pair aa aa))) (kA:Val aV→Val ai→Option ρ):goC (Ų ρ) (jW (Ų ρ) 10) 79 [] 0 0 (preC 7 Ġ) {t:=ĉ [Ä,aa,aa] x++List.replicate 127 .any,h:=[]} (matK tf 0 iX md kA)=Ge x.1 x.2.1 x.2.2 kA:=by kernel_rfl
def agf (p:Val aV) (v:Val ai) (x:Val Ð) (kk:Val aV→Val (.pair tI (.pair tI (.pair ae (.pair aa (.pair af (.pair ac (.pair aa (.pair tI (.pair tI (.pair ae (.pair aa (.pair af (.pair ac (.pair aa (.pair tI (.pair tI (.pair ae (.pair aa (.pair af (.pair ac (.pair aa (.pair ao (.pair ao (.pair ae au))))))))))))))))))))))))→Option ρ):goC (Ĝ ρ) (jW (Ĝ ρ) 10) 79 [] 9 4 (rfA (rfC 7 Ġ)) {t:=upd (je tf iX md p v).t 60 (.agg (flat Ð x)),h:=(je tf iX md p v).h} (matK Pp 9 iX zN kk)=kk p (DI v x):=by kernel_rfl
def age (p:Val aV) (v:Val ai) (x:Val Ð) (kk:Val aV→Val ai→Option ρ):goC (Ĝ ρ) (jW (Ĝ ρ) 10) 79 [] 9 4 (rfB (rfC 7 Ġ)) (je Pp iX zN p (DI v x)) (matK tf 9 iX md kk)=ë (ì ((List.length (uW v))+(List.length [x]))) (kk p (ğ v (uW v++[x]))):=by kernel_rfl
def aap (p:Val aV) (v:Val ai) (k:Val ah→Option ρ):goC (Ĝ ρ) (jW (Ĝ ρ) 10) 79 [] 0 0 (postC 7 Ġ) (je tf iX md p v) (matR pw 0 jy k)=mT p v (fun y=>k (kv y)):=by kernel_rfl
def ac2 (y:Val Ä):oP Tryz.prog Tryz.f79 (je pw [] jy () (kv y))=some (enc Ä y):=by kernel_rfl
def agd:rfC 7 Ġ=Code.block 4 (Code.rangeFunc (.tmp 59) #[60] (rfA (rfC 7 Ġ)) (rfB (rfC 7 Ġ))):=by kernel_rfl
def Gd:Vm 7 Ġ=true:=by kernel_rfl
def qS:Tryz.f79.body=some Ġ:=by kernel_rfl
def SO:(qV ρ).Ok (Ĝ ρ):=⟨by kernel_rfl,fun p v kn kx=>by kernel_rfl⟩
def SN:(qU ρ).Ok (Ĝ ρ):=⟨by kernel_rfl,fun p v kn kx=>by kernel_rfl⟩
def SM:(qT ρ).Ok (Ĝ ρ):=⟨by kernel_rfl,fun p v kn kx=>by kernel_rfl⟩
end Go.Proofs.ZzM
end
