/- lemmas -/
import Derived.Test.YtmadligicacpkaaGreatMdMA
set_option linter.all false
set_option linter.unusedSectionVars false
set_option linter.unusedVariables false
set_option linter.unusedSimpArgs false
noncomputable section
variable {ρ:Type}
set_option maxRecDepth 100000
namespace Go.Proofs.ZzM
open Go Go.Am
def tf:(ld ρ).Ok (gY ρ):=⟨by kernel_rfl,fun p v kn kx=>by kernel_rfl⟩
def td:(la ρ).Ok (gY ρ):=⟨by kernel_rfl,fun p v kn kx=>by kernel_rfl⟩
def xm (x:Val am) (k:(Val ae)→Option ρ) :
    Ċ (gY ρ) 81 (Ă [am] x) (fun h v=>Ä (Ć [ae] h v) k)=i7 x k:=by kernel_rfl
def Xs:(K6 ρ).Ok (ž ρ):=⟨by kernel_rfl,fun p v kn kx=>by kernel_rfl⟩
def Xt:(K7 ρ).Ok (ž ρ):=⟨by kernel_rfl,fun p v kn kx=>by kernel_rfl⟩
def Xr:(K5 ρ).Ok (ž ρ):=⟨by kernel_rfl,fun p v kn kx=>by kernel_rfl⟩
def Xq:(ro ρ).Ok (ž ρ):=⟨by kernel_rfl,fun p v kn kx=>by kernel_rfl⟩
def Xp:(rn ρ).Ok (ž ρ):=⟨by kernel_rfl,fun p v kn kx=>by kernel_rfl⟩
def Xo:(rm ρ).Ok (ž ρ):=⟨by kernel_rfl,fun p v kn kx=>by kernel_rfl⟩
def adP (x:Val (.pair Å (.pair aa aa))) (kA:Val aR→Val aj→Option ρ):goC (ž ρ) (jZ (ž ρ) 10) 62 [] 0 0 (preC 7 Ģ) {t:=Ă [Å,aa,aa] x++List.replicate 127 .any,h:=[]} (matK tp 0 iW mC kA)=F0 x.1 x.2.1 x.2.2 kA:=by kernel_rfl
def ag6 (p:Val aR) (v:Val aj) (x:Val Ð) (kk:Val aR→Val (.pair tI (.pair tI (.pair ac (.pair aa (.pair af (.pair ab (.pair aa (.pair tI (.pair tI (.pair ac (.pair aa (.pair af (.pair ab (.pair aa (.pair tI (.pair tI (.pair ac (.pair aa (.pair af (.pair ab (.pair aa (.pair ak (.pair ak (.pair ac kR))))))))))))))))))))))))→Option ρ):goC (Ğ ρ) (jZ (Ğ ρ) 10) 62 [] 9 4 (rfA (rfC 7 Ģ)) {t:=upd (jb tp iW mC p v).t 60 (.agg (flat Ð x)),h:=(jb tp iW mC p v).h} (matK PH 9 iW Ag kk)=kk p (Dy v x):=by kernel_rfl
def ag5 (p:Val aR) (v:Val aj) (x:Val Ð) (kk:Val aR→Val aj→Option ρ):goC (Ğ ρ) (jZ (Ğ ρ) 10) 62 [] 9 4 (rfB (rfC 7 Ģ)) (jb PH iW Ag p (Dy v x)) (matK tp 9 iW mC kk)=ì (ê ((List.length (vm v))+(List.length [x]))) (kk p (ġ v (vm v++[x]))):=by kernel_rfl
def aaZ (p:Val aR) (v:Val aj) (k:Val ai→Option ρ):goC (Ğ ρ) (jZ (Ğ ρ) 10) 62 [] 0 0 (postC 7 Ģ) (jb tp iW mC p v) (matR pV 0 jz k)=nz p v (fun y=>k (kE y)):=by kernel_rfl
def adO (y:Val Å):pG Tryz.prog Tryz.f62 (jb pV [] jz () (kE y))=some (enc Å y):=by kernel_rfl
def ag4:rfC 7 Ģ=Code.block 4 (Code.rangeFunc (.tmp 59) #[60] (rfA (rfC 7 Ģ)) (rfB (rfC 7 Ģ))):=by kernel_rfl
def FZ:VN 7 Ģ=true:=by kernel_rfl
def rl:Tryz.f62.body=some Ģ:=by kernel_rfl
def Tj:(ro ρ).Ok (Ğ ρ):=⟨by kernel_rfl,fun p v kn kx=>by kernel_rfl⟩
def Ti:(rn ρ).Ok (Ğ ρ):=⟨by kernel_rfl,fun p v kn kx=>by kernel_rfl⟩
def Th:(rm ρ).Ok (Ğ ρ):=⟨by kernel_rfl,fun p v kn kx=>by kernel_rfl⟩
def TM (x:Val è) (k:Bool→Option ρ) :
    Ċ (Lu ρ) 131 (Ă [Ã,tI,tI] x) (fun h v=>Ä (Ć [.bool] h v) k)=JB x.1 x.2.1 x.2.2 k:=by kernel_rfl
def Tz (x:Val Ĉ) (k:Bool→Option ρ) :
    Ċ (Lp ρ) 227 (Ă [tI,tI,tI] x) (fun h v=>Ä (Ć [.bool] h v) k)=Ju x.1 x.2.1 x.2.2 k:=by kernel_rfl
def X2 (x:Val tI) (k:Bool→Option ρ) :
    Ċ (QB ρ) 189 (Ă [tI] x) (fun h v=>Ä (Ć [.bool] h v) k)=QC x k:=by kernel_rfl
def abj (x:Val tI) (k:Int→Option ρ) :
    Ċ (UV ρ) 258 (Ă [tI] x) (fun h v=>Ä (Ć [(.int .u64)] h v) k)=XK x k:=by kernel_rfl
def XL:(Lj ρ).Ok (Qf ρ):=⟨by kernel_rfl,fun p v kn kx=>by kernel_rfl⟩
def adZ (x:Val bf) (k:Int→Option ρ) :
    Ċ (Qf ρ) 259 (Ă [(.int .u64),(.int .u64)] x) (fun h v=>Ä (Ć [(.int .u64)] h v) k)=ad0 x.1 x.2 k:=by kernel_rfl
def XN (x:Val Ã) (k:Bool→Option ρ) :
    Ċ (Qi ρ) 226 (Ă [Ã] x) (fun h v=>Ä (Ć [.bool] h v) k)=Qj x k:=by kernel_rfl
def QA (x:Val Ð) (k:Bool→Option ρ) :
    Ċ (GW ρ) 187 (Ă [Ð] x) (fun h v=>Ä (Ć [.bool] h v) k)=DN x k:=by kernel_rfl
def zn:(ov ρ).Ok (mD ρ):=⟨by kernel_rfl,fun p v kn kx=>by kernel_rfl⟩
def DR (x:Val Å) (k:Int→Option ρ) :
    Ċ (mD ρ) 132 (Ă [Å] x) (fun h v=>Ä (Ć [tI] h v) k)=pZ x k:=by kernel_rfl
def Jv:(xc ρ).Ok (vC ρ):=⟨by kernel_rfl,fun p v kn kx=>by kernel_rfl⟩
def Qt (x:Val Å) (k:(Val aq)→Option ρ) :
    Ċ (vC ρ) 133 (Ă [Å] x) (fun h v=>Ä (Ć [aq] h v) k)=DK x k:=by kernel_rfl
def uU:(l6 ρ).Ok (kg ρ):=⟨by kernel_rfl,fun p v kn kx=>by kernel_rfl⟩
def xM (x:Val aH) (k:Int→Option ρ) :
    Ċ (kg ρ) 78 (Ă [ae,tI] x) (fun h v=>Ä (Ć [tI] h v) k)=mj x.1 x.2 k:=by kernel_rfl
def tc (x:Val aH) (k:Bool→Option ρ) :
    Ċ (l7 ρ) 121 (Ă [ae,tI] x) (fun h v=>Ä (Ć [.bool] h v) k)=jI x.1 x.2 k:=by kernel_rfl
def TP:(G0 ρ).Ok (Ap ρ):=⟨by kernel_rfl,fun p v kn kx=>by kernel_rfl⟩
def TO:(GZ ρ).Ok (Ap ρ):=⟨by kernel_rfl,fun p v kn kx=>by kernel_rfl⟩
def abD (x:Val (.pair Å Ð)) (k:(Val ae)→Option ρ) :
    Ċ (Ap ρ) 194 (Ă [Å,Ð] x) (fun h v=>Ä (Ć [ae] h v) k)=X8 x.1 x.2 k:=by kernel_rfl
def Qv:(Cw ρ).Ok (vF ρ):=⟨by kernel_rfl,fun p v kn kx=>by kernel_rfl⟩
def Qw:(Cy ρ).Ok (vF ρ):=⟨by kernel_rfl,fun p v kn kx=>by kernel_rfl⟩
def XV (x:Val Å) (k:(Val aa)→Option ρ) :
    Ċ (vF ρ) 135 (Ă [Å] x) (fun h v=>Ä (Ć [aa] h v) k)=Qx x k:=by kernel_rfl
def GF (x:Val (.pair aq Ã)) (k:Int→Option ρ) :
    Ċ (xd ρ) 190 (Ă [aq,tI,tI] x) (fun h v=>Ä (Ć [tI] h v) k)=sv x.1 x.2.1 x.2.2 k:=by kernel_rfl
def Qu (x:Val (.pair tI (.pair tI (.ptr aq)))) (k:Int→Option ρ) :
    Ċ (GG ρ) 188 (Ă [tI,tI,(.ptr aq)] x) (fun h v=>Ä (Ć [tI] h v) k)=DM x.1 x.2.1 x.2.2 k:=by kernel_rfl
def DQ:(rM ρ).Ok (lE ρ):=⟨by kernel_rfl,fun p v kn kx=>by kernel_rfl⟩
def DP:(rK ρ).Ok (lE ρ):=⟨by kernel_rfl,fun p v kn kx=>by kernel_rfl⟩
def JD (x:Val bi) (k:Int→Option ρ) :
    Ċ (lE ρ) 192 (Ă [Å,aq,tI] x) (fun h v=>Ä (Ć [tI] h v) k)=vO x.1 x.2.1 x.2.2 k:=by kernel_rfl
def TJ:(GV ρ).Ok (Ao ρ):=⟨by kernel_rfl,fun p v kn kx=>by kernel_rfl⟩
def TI:(GU ρ).Ok (Ao ρ):=⟨by kernel_rfl,fun p v kn kx=>by kernel_rfl⟩
def abA (x:Val aY) (k:(Val ae)→Option ρ) :
    Ċ (Ao ρ) 199 (Ă [ae,ae] x) (fun h v=>Ä (Ć [ae] h v) k)=X0 x.1 x.2 k:=by kernel_rfl
def MT:(zk ρ).Ok (zl ρ):=⟨by kernel_rfl,fun p v kn kx=>by kernel_rfl⟩
def TK (x:Val ae) (k:Bool→Option ρ) :
    Ċ (zl ρ) 204 (Ă [ae] x) (fun h v=>Ä (Ć [.bool] h v) k)=JA x k:=by kernel_rfl
def TQ:(G2 ρ).Ok (JE ρ):=⟨by kernel_rfl,fun p v kn kx=>by kernel_rfl⟩
def abE (x:Val aC) (k:(Val ba)→Option ρ) :
    Ċ (JE ρ) 231 (Ă [Å,tI,tI] x) (fun h v=>Ä (Ć [ō,.bool] h v) k)=X9 x.1 x.2.1 x.2.2 k:=by kernel_rfl
def xq:(nI ρ).Ok (ŝ ρ):=⟨by kernel_rfl,fun p v kn kx=>by kernel_rfl⟩
def xo:(nD ρ).Ok (ŝ ρ):=⟨by kernel_rfl,fun p v kn kx=>by kernel_rfl⟩
def xp:(nF ρ).Ok (ŝ ρ):=⟨by kernel_rfl,fun p v kn kx=>by kernel_rfl⟩
def xn:(nA ρ).Ok (ŝ ρ):=⟨by kernel_rfl,fun p v kn kx=>by kernel_rfl⟩
def Be (x:Val bi) (k:Int→Option ρ) :
    Ċ (ŝ ρ) 193 (Ă [Å,aq,tI] x) (fun h v=>Ä (Ć [tI] h v) k)=oj x.1 x.2.1 x.2.2 k:=by kernel_rfl
end Go.Proofs.ZzM
end
