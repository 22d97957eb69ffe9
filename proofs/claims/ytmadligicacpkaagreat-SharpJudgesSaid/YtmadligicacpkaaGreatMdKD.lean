/- lemmas -/
import Derived.Test.YtmadligicacpkaaGreatMdMA
set_option linter.all false
set_option linter.unusedSectionVars false
set_option linter.unusedVariables false
set_option linter.unusedSimpArgs false
noncomputable section
variable {ρ:Type}
set_option maxRecDepth 100000
namespace Go.Proofs.ZzM
open Go Go.Am
def sH:(kV ρ).Ok (gW ρ):=⟨by kernel_rfl,fun p v kn kx=>by kernel_rfl⟩
def sG:(kU ρ).Ok (gW ρ):=⟨by kernel_rfl,fun p v kn kx=>by kernel_rfl⟩
def wT (x:Val am) (k:(Val ae)→Option ρ) :
    ĉ (gW ρ) 81 (Ă [am] x) (fun h v=>Ã (Ć [ae] h v) k)=iY x k:=by kernel_rfl
def WW:(KH ρ).Ok (ż ρ):=⟨by kernel_rfl,fun p v kn kx=>by kernel_rfl⟩
def WX:(KI ρ).Ok (ż ρ):=⟨by kernel_rfl,fun p v kn kx=>by kernel_rfl⟩
def WV:(KG ρ).Ok (ż ρ):=⟨by kernel_rfl,fun p v kn kx=>by kernel_rfl⟩
def WU:(qN ρ).Ok (ż ρ):=⟨by kernel_rfl,fun p v kn kx=>by kernel_rfl⟩
def WT:(qM ρ).Ok (ż ρ):=⟨by kernel_rfl,fun p v kn kx=>by kernel_rfl⟩
def WS:(qL ρ).Ok (ż ρ):=⟨by kernel_rfl,fun p v kn kx=>by kernel_rfl⟩
def adh (x:Val (.pair Ä (.pair aa aa))) (kA:Val ba→Val aj→Option ρ):goC (ż ρ) (jX (ż ρ) 10) 62 [] 0 0 (preC 7 Ģ) {t:=Ă [Ä,aa,aa] x++List.replicate 127 .any,h:=[]} (matK sP 0 iS ml kA)=FI x.1 x.2.1 x.2.2 kA:=by kernel_rfl
def agG (p:Val ba) (v:Val aj) (x:Val Ñ) (kk:Val ba→Val (.pair tI (.pair tI (.pair ac (.pair aa (.pair af (.pair ab (.pair aa (.pair tI (.pair tI (.pair ac (.pair aa (.pair af (.pair ab (.pair aa (.pair tI (.pair tI (.pair ac (.pair aa (.pair af (.pair ab (.pair aa (.pair ak (.pair ak (.pair ac MM))))))))))))))))))))))))→Option ρ):goC (Ĝ ρ) (jX (Ĝ ρ) 10) 62 [] 9 4 (rfA (rfC 7 Ģ)) {t:=upd (i7 sP iS ml p v).t 60 (.agg (flat Ñ x)),h:=(i7 sP iS ml p v).h} (matK Pl 9 iS zO kk)=kk p (Df v x):=by kernel_rfl
def agF (p:Val ba) (v:Val aj) (x:Val Ñ) (kk:Val ba→Val aj→Option ρ):goC (Ĝ ρ) (jX (Ĝ ρ) 10) 62 [] 9 4 (rfB (rfC 7 Ģ)) (i7 Pl iS zO p (Df v x)) (matK sP 9 iS ml kk)=ã (å ((List.length (uK v))+(List.length [x]))) (kk p (ġ v (uK v++[x]))):=by kernel_rfl
def aar (p:Val ba) (v:Val aj) (k:Val ai→Option ρ):goC (Ĝ ρ) (jX (Ĝ ρ) 10) 62 [] 0 0 (postC 7 Ģ) (i7 sP iS ml p v) (matR pv 0 ju k)=m5 p v (fun y=>k (kz y)):=by kernel_rfl
def adg (y:Val Ä):oZ Tryz.prog Tryz.f62 (i7 pv [] ju () (kz y))=some (enc Ä y):=by kernel_rfl
def agE:rfC 7 Ģ=Code.block 4 (Code.rangeFunc (.tmp 59) #[60] (rfA (rfC 7 Ģ)) (rfB (rfC 7 Ģ))):=by kernel_rfl
def FH:Vn 7 Ģ=true:=by kernel_rfl
def qK:Tryz.f62.body=some Ģ:=by kernel_rfl
def SM:(qN ρ).Ok (Ĝ ρ):=⟨by kernel_rfl,fun p v kn kx=>by kernel_rfl⟩
def SL:(qM ρ).Ok (Ĝ ρ):=⟨by kernel_rfl,fun p v kn kx=>by kernel_rfl⟩
def SK:(qL ρ).Ok (Ĝ ρ):=⟨by kernel_rfl,fun p v kn kx=>by kernel_rfl⟩
def Tm (x:Val ä) (k:Bool→Option ρ) :
    ĉ (K6 ρ) 131 (Ă [Â,tI,tI] x) (fun h v=>Ã (Ć [.bool] h v) k)=Jk x.1 x.2.1 x.2.2 k:=by kernel_rfl
def S9 (x:Val ÿ) (k:Bool→Option ρ) :
    ĉ (KY ρ) 227 (Ă [tI,tI,tI] x) (fun h v=>Ã (Ć [.bool] h v) k)=Je x.1 x.2.1 x.2.2 k:=by kernel_rfl
def Xz (x:Val tI) (k:Bool→Option ρ) :
    ĉ (Qj ρ) 189 (Ă [tI] x) (fun h v=>Ã (Ć [.bool] h v) k)=Qk x k:=by kernel_rfl
def aaL (x:Val tI) (k:Int→Option ρ) :
    ĉ (Uz ρ) 258 (Ă [tI] x) (fun h v=>Ã (Ć [(.int .u64)] h v) k)=Xh x k:=by kernel_rfl
def Xi:(KU ρ).Ok (PX ρ):=⟨by kernel_rfl,fun p v kn kx=>by kernel_rfl⟩
def adr (x:Val bg) (k:Int→Option ρ) :
    ĉ (PX ρ) 259 (Ă [(.int .u64),(.int .u64)] x) (fun h v=>Ã (Ć [(.int .u64)] h v) k)=ads x.1 x.2 k:=by kernel_rfl
def Xk (x:Val Â) (k:Bool→Option ρ) :
    ĉ (P0 ρ) 226 (Ă [Â] x) (fun h v=>Ã (Ć [.bool] h v) k)=P1 x k:=by kernel_rfl
def Qi (x:Val Ñ) (k:Bool→Option ρ) :
    ĉ (GB ρ) 187 (Ă [Ñ] x) (fun h v=>Ã (Ć [.bool] h v) k)=Dw x k:=by kernel_rfl
def yT:(nT ρ).Ok (mm ρ):=⟨by kernel_rfl,fun p v kn kx=>by kernel_rfl⟩
def Dz (x:Val Ä) (k:Int→Option ρ) :
    ĉ (mm ρ) 132 (Ă [Ä] x) (fun h v=>Ã (Ć [tI] h v) k)=pB x k:=by kernel_rfl
def Jf:(wM ρ).Ok (uZ ρ):=⟨by kernel_rfl,fun p v kn kx=>by kernel_rfl⟩
def Qb (x:Val Ä) (k:(Val aq)→Option ρ) :
    ĉ (uZ ρ) 133 (Ă [Ä] x) (fun h v=>Ã (Ć [aq] h v) k)=Dt x k:=by kernel_rfl
def uj:(lU ρ).Ok (kd ρ):=⟨by kernel_rfl,fun p v kn kx=>by kernel_rfl⟩
def xr (x:Val aE) (k:Int→Option ρ) :
    ĉ (kd ρ) 78 (Ă [ae,tI] x) (fun h v=>Ã (Ć [tI] h v) k)=l8 x.1 x.2 k:=by kernel_rfl
def sF (x:Val aE) (k:Bool→Option ρ) :
    ĉ (lV ρ) 121 (Ă [ae,tI] x) (fun h v=>Ã (Ć [.bool] h v) k)=jG x.1 x.2 k:=by kernel_rfl
def Tq:(GG ρ).Ok (zV ρ):=⟨by kernel_rfl,fun p v kn kx=>by kernel_rfl⟩
def Tp:(GF ρ).Ok (zV ρ):=⟨by kernel_rfl,fun p v kn kx=>by kernel_rfl⟩
def aa4 (x:Val (.pair Ä Ñ)) (k:(Val ae)→Option ρ) :
    ĉ (zV ρ) 194 (Ă [Ä,Ñ] x) (fun h v=>Ã (Ć [ae] h v) k)=XF x.1 x.2 k:=by kernel_rfl
def Qd:(B8 ρ).Ok (ve ρ):=⟨by kernel_rfl,fun p v kn kx=>by kernel_rfl⟩
def Qe:(Ca ρ).Ok (ve ρ):=⟨by kernel_rfl,fun p v kn kx=>by kernel_rfl⟩
def Xs (x:Val Ä) (k:(Val aa)→Option ρ) :
    ĉ (ve ρ) 135 (Ă [Ä] x) (fun h v=>Ã (Ć [aa] h v) k)=Qf x k:=by kernel_rfl
def Gl (x:Val (.pair aq Â)) (k:Int→Option ρ) :
    ĉ (wN ρ) 190 (Ă [aq,tI,tI] x) (fun h v=>Ã (Ć [tI] h v) k)=rS x.1 x.2.1 x.2.2 k:=by kernel_rfl
def Qc (x:Val (.pair tI (.pair tI (.ptr aq)))) (k:Int→Option ρ) :
    ĉ (Gm ρ) 188 (Ă [tI,tI,(.ptr aq)] x) (fun h v=>Ã (Ć [tI] h v) k)=Dv x.1 x.2.1 x.2.2 k:=by kernel_rfl
def Dy:(rh ρ).Ok (lr ρ):=⟨by kernel_rfl,fun p v kn kx=>by kernel_rfl⟩
def Dx:(rf ρ).Ok (lr ρ):=⟨by kernel_rfl,fun p v kn kx=>by kernel_rfl⟩
def Jm (x:Val bi) (k:Int→Option ρ) :
    ĉ (lr ρ) 192 (Ă [Ä,aq,tI] x) (fun h v=>Ã (Ć [tI] h v) k)=vq x.1 x.2.1 x.2.2 k:=by kernel_rfl
def Tj:(GA ρ).Ok (zU ρ):=⟨by kernel_rfl,fun p v kn kx=>by kernel_rfl⟩
def Ti:(Gz ρ).Ok (zU ρ):=⟨by kernel_rfl,fun p v kn kx=>by kernel_rfl⟩
def aa1 (x:Val bc) (k:(Val ae)→Option ρ) :
    ĉ (zU ρ) 199 (Ă [ae,ae] x) (fun h v=>Ã (Ć [ae] h v) k)=Xx x.1 x.2 k:=by kernel_rfl
def MA:(yQ ρ).Ok (yR ρ):=⟨by kernel_rfl,fun p v kn kx=>by kernel_rfl⟩
def Tk (x:Val ae) (k:Bool→Option ρ) :
    ĉ (yR ρ) 204 (Ă [ae] x) (fun h v=>Ã (Ć [.bool] h v) k)=Jj x k:=by kernel_rfl
def Tr:(GI ρ).Ok (Jn ρ):=⟨by kernel_rfl,fun p v kn kx=>by kernel_rfl⟩
def aa5 (x:Val aD) (k:(Val bf)→Option ρ) :
    ĉ (Jn ρ) 231 (Ă [Ä,tI,tI] x) (fun h v=>Ã (Ć [ō,.bool] h v) k)=XG x.1 x.2.1 x.2.2 k:=by kernel_rfl
def wY:(ng ρ).Ok (Ť ρ):=⟨by kernel_rfl,fun p v kn kx=>by kernel_rfl⟩
def wW:(m8 ρ).Ok (Ť ρ):=⟨by kernel_rfl,fun p v kn kx=>by kernel_rfl⟩
def wX:(nc ρ).Ok (Ť ρ):=⟨by kernel_rfl,fun p v kn kx=>by kernel_rfl⟩
def wV:(m6 ρ).Ok (Ť ρ):=⟨by kernel_rfl,fun p v kn kx=>by kernel_rfl⟩
def AP (x:Val bi) (k:Int→Option ρ) :
    ĉ (Ť ρ) 193 (Ă [Ä,aq,tI] x) (fun h v=>Ã (Ć [tI] h v) k)=nI x.1 x.2.1 x.2.2 k:=by kernel_rfl
end Go.Proofs.ZzM
end
