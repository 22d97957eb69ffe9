/- lemmas -/
import Derived.Test.YtiochmbenflhhaaGreatMdMA
set_option linter.all false
set_option linter.unusedSectionVars false
set_option linter.unusedVariables false
set_option linter.unusedSimpArgs false
noncomputable section
variable {ρ:Type}
set_option maxRecDepth 100000
namespace Go.Proofs.ZzM
open Go Go.Am
def Vv (x:Val è) (k:Bool→Option ρ) :
    Ĉ (MQ ρ) 109 (Ā [Â,tI,tI] x) (fun h v=>Ã (ą [.bool] h v) k)=Ll x.1 x.2.1 x.2.2 k:=by kernel_rfl
def Vg (x:Val ć) (k:Bool→Option ρ) :
    Ĉ (MP ρ) 144 (Ā [tI,tI,tI] x) (fun h v=>Ã (ą [.bool] h v) k)=Lc x.1 x.2.1 x.2.2 k:=by kernel_rfl
def aaA (x:Val tI) (k:Bool→Option ρ) :
    Ĉ (Sb ρ) 176 (Ā [tI] x) (fun h v=>Ã (ą [.bool] h v) k)=Sd x k:=by kernel_rfl
def aed (x:Val tI) (k:Int→Option ρ) :
    Ĉ (WW ρ) 249 (Ā [tI] x) (fun h v=>Ã (ą [(.int .u64)] h v) k)=aab x k:=by kernel_rfl
def aac:(MM ρ).Ok (RE ρ):=⟨by kernel_rfl,fun p v kn kx=>by kernel_rfl⟩
def ag6 (x:Val bj) (k:Int→Option ρ) :
    Ĉ (RE ρ) 250 (Ā [(.int .u64),(.int .u64)] x) (fun h v=>Ã (ą [(.int .u64)] h v) k)=ag7 x.1 x.2 k:=by kernel_rfl
def aag (x:Val Â) (k:Bool→Option ρ) :
    Ĉ (RG ρ) 218 (Ā [Â] x) (fun h v=>Ã (ą [.bool] h v) k)=RH x k:=by kernel_rfl
def R0 (x:Val Ï) (k:Bool→Option ρ) :
    Ĉ (IC ρ) 174 (Ā [Ï] x) (fun h v=>Ã (ą [.bool] h v) k)=FJ x k:=by kernel_rfl
def AZ:(pj ρ).Ok (nv ρ):=⟨by kernel_rfl,fun p v kn kx=>by kernel_rfl⟩
def FN (x:Val Ä) (k:Int→Option ρ) :
    Ĉ (nv ρ) 110 (Ā [Ä] x) (fun h v=>Ã (ą [tI] h v) k)=rh x k:=by kernel_rfl
def Ld:(yp ρ).Ok (wV ρ):=⟨by kernel_rfl,fun p v kn kx=>by kernel_rfl⟩
def RQ (x:Val Ä) (k:(Val ax)→Option ρ) :
    Ĉ (wV ρ) 111 (Ā [Ä] x) (fun h v=>Ã (ą [ax] h v) k)=FG x k:=by kernel_rfl
def wj:(mM ρ).Ok (kW ρ):=⟨by kernel_rfl,fun p v kn kx=>by kernel_rfl⟩
def zj (x:Val aK) (k:Int→Option ρ) :
    Ĉ (kW ρ) 116 (Ā [ab,tI] x) (fun h v=>Ã (ą [tI] h v) k)=m9 x.1 x.2 k:=by kernel_rfl
def uJ (x:Val aK) (k:Bool→Option ρ) :
    Ĉ (mN ρ) 49 (Ā [ab,tI] x) (fun h v=>Ã (ą [.bool] h v) k)=kp x.1 x.2 k:=by kernel_rfl
def Vz:(IG ρ).Ok (BS ρ):=⟨by kernel_rfl,fun p v kn kx=>by kernel_rfl⟩
def Vy:(IE ρ).Ok (BS ρ):=⟨by kernel_rfl,fun p v kn kx=>by kernel_rfl⟩
def aeC (x:Val (.pair Ä Ï)) (k:(Val ab)→Option ρ) :
    Ĉ (BS ρ) 181 (Ā [Ä,Ï] x) (fun h v=>Ã (ą [ab] h v) k)=aaG x.1 x.2 k:=by kernel_rfl
def RU:(DU ρ).Ok (wY ρ):=⟨by kernel_rfl,fun p v kn kx=>by kernel_rfl⟩
def RV:(DX ρ).Ok (wY ρ):=⟨by kernel_rfl,fun p v kn kx=>by kernel_rfl⟩
def aas (x:Val Ä) (k:(Val aa)→Option ρ) :
    Ĉ (wY ρ) 113 (Ā [Ä] x) (fun h v=>Ã (ą [aa] h v) k)=RW x k:=by kernel_rfl
def Il (x:Val (.pair ax Â)) (k:Int→Option ρ) :
    Ĉ (yq ρ) 177 (Ā [ax,tI,tI] x) (fun h v=>Ã (ą [tI] h v) k)=tT x.1 x.2.1 x.2.2 k:=by kernel_rfl
def RT (x:Val (.pair tI (.pair tI (.ptr ax)))) (k:Int→Option ρ) :
    Ĉ (Im ρ) 175 (Ā [tI,tI,(.ptr ax)] x) (fun h v=>Ã (ą [tI] h v) k)=FI x.1 x.2.1 x.2.2 k:=by kernel_rfl
def FL:(s7 ρ).Ok (mg ρ):=⟨by kernel_rfl,fun p v kn kx=>by kernel_rfl⟩
def FK:(sY ρ).Ok (mg ρ):=⟨by kernel_rfl,fun p v kn kx=>by kernel_rfl⟩
def Lp (x:Val bo) (k:Int→Option ρ) :
    Ĉ (mg ρ) 179 (Ā [Ä,ax,tI] x) (fun h v=>Ã (ą [tI] h v) k)=xe x.1 x.2.1 x.2.2 k:=by kernel_rfl
def uL:(lU ρ).Ok (iE ρ):=⟨by kernel_rfl,fun p v kn kx=>by kernel_rfl⟩
def uK:(lT ρ).Ok (iE ρ):=⟨by kernel_rfl,fun p v kn kx=>by kernel_rfl⟩
def yA (x:Val am) (k:(Val ab)→Option ρ) :
    Ĉ (iE ρ) 100 (Ā [am] x) (fun h v=>Ã (ą [ab] h v) k)=jE x k:=by kernel_rfl
def Oo:(AX ρ).Ok (AY ρ):=⟨by kernel_rfl,fun p v kn kx=>by kernel_rfl⟩
def Vs (x:Val ab) (k:Bool→Option ρ) :
    Ĉ (AY ρ) 182 (Ā [ab] x) (fun h v=>Ã (ą [.bool] h v) k)=Lj x k:=by kernel_rfl
def Vq:(IB ρ).Ok (BQ ρ):=⟨by kernel_rfl,fun p v kn kx=>by kernel_rfl⟩
def Vp:(IA ρ).Ok (BQ ρ):=⟨by kernel_rfl,fun p v kn kx=>by kernel_rfl⟩
def aey (x:Val aE) (k:(Val ab)→Option ρ) :
    Ĉ (BQ ρ) 183 (Ā [ab,ab] x) (fun h v=>Ã (ą [ab] h v) k)=aax x.1 x.2 k:=by kernel_rfl
def VA:(II ρ).Ok (Lq ρ):=⟨by kernel_rfl,fun p v kn kx=>by kernel_rfl⟩
def aeE (x:Val aJ) (k:(Val bi)→Option ρ) :
    Ĉ (Lq ρ) 222 (Ā [Ä,tI,tI] x) (fun h v=>Ã (ą [Ŏ,.bool] h v) k)=aaH x.1 x.2.1 x.2.2 k:=by kernel_rfl
def yJ:(ov ρ).Ok (ū ρ):=⟨by kernel_rfl,fun p v kn kx=>by kernel_rfl⟩
def yH:(oo ρ).Ok (ū ρ):=⟨by kernel_rfl,fun p v kn kx=>by kernel_rfl⟩
def yI:(ot ρ).Ok (ū ρ):=⟨by kernel_rfl,fun p v kn kx=>by kernel_rfl⟩
def yG:(oj ρ).Ok (ū ρ):=⟨by kernel_rfl,fun p v kn kx=>by kernel_rfl⟩
def CW (x:Val bo) (k:Int→Option ρ) :
    Ĉ (ū ρ) 180 (Ā [Ä,ax,tI] x) (fun h v=>Ã (ą [tI] h v) k)=oT x.1 x.2.1 x.2.2 k:=by kernel_rfl
def ZI:(MD ρ).Ok (Δ ρ):=⟨by kernel_rfl,fun p v kn kx=>by kernel_rfl⟩
def ZJ:(ME ρ).Ok (Δ ρ):=⟨by kernel_rfl,fun p v kn kx=>by kernel_rfl⟩
def ZH:(MC ρ).Ok (Δ ρ):=⟨by kernel_rfl,fun p v kn kx=>by kernel_rfl⟩
def ZG:(sP ρ).Ok (Δ ρ):=⟨by kernel_rfl,fun p v kn kx=>by kernel_rfl⟩
def ZF:(sO ρ).Ok (Δ ρ):=⟨by kernel_rfl,fun p v kn kx=>by kernel_rfl⟩
def ZE:(sN ρ).Ok (Δ ρ):=⟨by kernel_rfl,fun p v kn kx=>by kernel_rfl⟩
def agV (x:Val (.pair Ä (.pair aa aa))) (kA:Val aW→Val aj→Option ρ):goC (Δ ρ) (kr (Δ ρ) 10) 79 [] 0 0 (preC 7 ģ) {t:=Ā [Ä,aa,aa] x++List.replicate 127 .any,h:=[]} (matK uZ 0 jw nu kA)=HK x.1 x.2.1 x.2.2 kA:=by kernel_rfl
def akk (p:Val aW) (v:Val aj) (x:Val Ï) (kk:Val aW→Val (.pair tI (.pair tI (.pair ae (.pair aa (.pair af (.pair ac (.pair aa (.pair tI (.pair tI (.pair ae (.pair aa (.pair af (.pair ac (.pair aa (.pair tI (.pair tI (.pair ae (.pair aa (.pair af (.pair ac (.pair aa (.pair aq (.pair aq (.pair ae aw))))))))))))))))))))))))→Option ρ):goC (ğ ρ) (kr (ğ ρ) 10) 79 [] 9 4 (rfA (rfC 7 ģ)) {t:=upd (jA uZ jw nu p v).t 60 (.agg (flat Ï x)),h:=(jA uZ jw nu p v).h} (matK Q2 9 jw BK kk)=kk p (Fu v x):=by kernel_rfl
def akj (p:Val aW) (v:Val aj) (x:Val Ï) (kk:Val aW→Val aj→Option ρ):goC (ğ ρ) (kr (ğ ρ) 10) 79 [] 9 4 (rfB (rfC 7 ģ)) (jA Q2 jw BK p (Fu v x)) (matK uZ 9 jw nu kk)=Þ (â ((List.length (wI v))+(List.length [x]))) (kk p (Ģ v (wI v++[x]))):=by kernel_rfl
def adQ (p:Val aW) (v:Val aj) (k:Val ai→Option ρ):goC (ğ ρ) (kr (ğ ρ) 10) 79 [] 0 0 (postC 7 ģ) (jA uZ jw nu p v) (matR rc 0 j8 k)=oi p v (fun y=>k (lv y)):=by kernel_rfl
def agU (y:Val Ä):qu Tryz.prog Tryz.f79 (jA rc [] j8 () (lv y))=some (enc Ä y):=by kernel_rfl
def aki:rfC 7 ģ=Code.block 4 (Code.rangeFunc (.tmp 59) #[60] (rfA (rfC 7 ģ)) (rfB (rfC 7 ģ))):=by kernel_rfl
def HJ:XO 7 ģ=true:=by kernel_rfl
def sM:Tryz.f79.body=some ģ:=by kernel_rfl
def UX:(sP ρ).Ok (ğ ρ):=⟨by kernel_rfl,fun p v kn kx=>by kernel_rfl⟩
def UW:(sO ρ).Ok (ğ ρ):=⟨by kernel_rfl,fun p v kn kx=>by kernel_rfl⟩
def UV:(sN ρ).Ok (ğ ρ):=⟨by kernel_rfl,fun p v kn kx=>by kernel_rfl⟩
end Go.Proofs.ZzM
end
