/- lemmas -/
import Derived.Test.YtmadligicacpkaaGreatMdMA
set_option linter.all false
set_option linter.unusedSectionVars false
set_option linter.unusedVariables false
set_option linter.unusedSimpArgs false
noncomputable section
variable {ρ:Type}
set_option maxRecDepth 100000
namespace Go.Proofs.ZzM
open Go Go.Am
def uf:(lJ ρ).Ok (iu ρ):=⟨by kernel_rfl,fun p v kn kx=>by kernel_rfl⟩
def ue:(lI ρ).Ok (iu ρ):=⟨by kernel_rfl,fun p v kn kx=>by kernel_rfl⟩
def ya (x:Val am) (k:(Val ae)→Option ρ) :
    ċ (iu ρ) 81 (ą [am] x) (fun h v=>Ã (Ċ [ae] h v) k)=jm x k:=by kernel_rfl
def YC:(Mb ρ).Ok (Η ρ):=⟨by kernel_rfl,fun p v kn kx=>by kernel_rfl⟩
def YD:(Mc ρ).Ok (Η ρ):=⟨by kernel_rfl,fun p v kn kx=>by kernel_rfl⟩
def YB:(Ma ρ).Ok (Η ρ):=⟨by kernel_rfl,fun p v kn kx=>by kernel_rfl⟩
def YA:(sf ρ).Ok (Η ρ):=⟨by kernel_rfl,fun p v kn kx=>by kernel_rfl⟩
def Yz:(se ρ).Ok (Η ρ):=⟨by kernel_rfl,fun p v kn kx=>by kernel_rfl⟩
def Yy:(sd ρ).Ok (Η ρ):=⟨by kernel_rfl,fun p v kn kx=>by kernel_rfl⟩
def ae5 (x:Val (.pair Å (.pair aa aa))) (kA:Val aS→Val aj→Option ρ):goC (Η ρ) (kr (Η ρ) 10) 62 [] 0 0 (preC 7 Ĩ) {t:=ą [Å,aa,aa] x++List.replicate 127 .any,h:=[]} (matK un 0 jf mV kA)=GW x.1 x.2.1 x.2.2 kA:=by kernel_rfl
def aiv (p:Val aS) (v:Val aj) (x:Val Ó) (kk:Val aS→Val (.pair tI (.pair tI (.pair ac (.pair aa (.pair af (.pair ab (.pair aa (.pair tI (.pair tI (.pair ac (.pair aa (.pair af (.pair ab (.pair aa (.pair tI (.pair tI (.pair ac (.pair aa (.pair af (.pair ab (.pair aa (.pair ak (.pair ak (.pair ac ŧ))))))))))))))))))))))))→Option ρ):goC (Ĥ ρ) (kr (Ĥ ρ) 10) 62 [] 9 4 (rfA (rfC 7 Ĩ)) {t:=upd (jq un jf mV p v).t 60 (.agg (flat Ó x)),h:=(jq un jf mV p v).h} (matK QM 9 jf A6 kk)=kk p (Ep v x):=by kernel_rfl
def aiu (p:Val aS) (v:Val aj) (x:Val Ó) (kk:Val aS→Val aj→Option ρ):goC (Ĥ ρ) (kr (Ĥ ρ) 10) 62 [] 9 4 (rfB (rfC 7 Ĩ)) (jq QM jf A6 p (Ep v x)) (matK un 9 jf mV kk)=ë (î ((List.length (vZ v))+(List.length [x]))) (kk p (ħ v (vZ v++[x]))):=by kernel_rfl
def ab7 (p:Val aS) (v:Val aj) (k:Val ai→Option ρ):goC (Ĥ ρ) (kr (Ĥ ρ) 10) 62 [] 0 0 (postC 7 Ĩ) (jq un jf mV p v) (matR qF 0 jS k)=oa p v (fun y=>k (kY y)):=by kernel_rfl
def ae4 (y:Val Å):qo Tryz.prog Tryz.f62 (jq qF [] jS () (kY y))=some (enc Å y):=by kernel_rfl
def ait:rfC 7 Ĩ=Code.block 4 (Code.rangeFunc (.tmp 59) #[60] (rfA (rfC 7 Ĩ)) (rfB (rfC 7 Ĩ))):=by kernel_rfl
def GV:W5 7 Ĩ=true:=by kernel_rfl
def sc:Tryz.f62.body=some Ĩ:=by kernel_rfl
def Ur:(sf ρ).Ok (Ĥ ρ):=⟨by kernel_rfl,fun p v kn kx=>by kernel_rfl⟩
def Uq:(se ρ).Ok (Ĥ ρ):=⟨by kernel_rfl,fun p v kn kx=>by kernel_rfl⟩
def Up:(sd ρ).Ok (Ĥ ρ):=⟨by kernel_rfl,fun p v kn kx=>by kernel_rfl⟩
def UV (x:Val í) (k:Bool→Option ρ) :
    ċ (MA ρ) 131 (ą [Ä,tI,tI] x) (fun h v=>Ã (Ċ [.bool] h v) k)=KA x.1 x.2.1 x.2.2 k:=by kernel_rfl
def UI (x:Val ú) (k:Bool→Option ρ) :
    ċ (Mv ρ) 227 (ą [tI,tI,tI] x) (fun h v=>Ã (Ċ [.bool] h v) k)=Ku x.1 x.2.1 x.2.2 k:=by kernel_rfl
def Zd (x:Val tI) (k:Bool→Option ρ) :
    ċ (RH ρ) 189 (ą [tI] x) (fun h v=>Ã (Ċ [.bool] h v) k)=RI x k:=by kernel_rfl
def act (x:Val tI) (k:Int→Option ρ) :
    ċ (V6 ρ) 258 (ą [tI] x) (fun h v=>Ã (Ċ [(.int .u64)] h v) k)=YV x k:=by kernel_rfl
def YW:(Mq ρ).Ok (Rl ρ):=⟨by kernel_rfl,fun p v kn kx=>by kernel_rfl⟩
def afg (x:Val bg) (k:Int→Option ρ) :
    ċ (Rl ρ) 259 (ą [(.int .u64),(.int .u64)] x) (fun h v=>Ã (Ċ [(.int .u64)] h v) k)=afh x.1 x.2 k:=by kernel_rfl
def YY (x:Val Ä) (k:Bool→Option ρ) :
    ċ (Ro ρ) 226 (ą [Ä] x) (fun h v=>Ã (Ċ [.bool] h v) k)=Rp x k:=by kernel_rfl
def RG (x:Val Ó) (k:Bool→Option ρ) :
    ċ (HX ρ) 187 (ą [Ó] x) (fun h v=>Ã (Ċ [.bool] h v) k)=EH x k:=by kernel_rfl
def Ae:(oY ρ).Ok (mX ρ):=⟨by kernel_rfl,fun p v kn kx=>by kernel_rfl⟩
def EK (x:Val Å) (k:Int→Option ρ) :
    ċ (mX ρ) 132 (ą [Å] x) (fun h v=>Ã (Ċ [tI] h v) k)=qJ x k:=by kernel_rfl
def Kv:(xR ρ).Ok (ww ρ):=⟨by kernel_rfl,fun p v kn kx=>by kernel_rfl⟩
def Rz (x:Val Å) (k:(Val aq)→Option ρ) :
    ċ (ww ρ) 133 (ą [Å] x) (fun h v=>Ã (Ċ [aq] h v) k)=EE x k:=by kernel_rfl
def vK:(mq ρ).Ok (kH ρ):=⟨by kernel_rfl,fun p v kn kx=>by kernel_rfl⟩
def yB (x:Val aI) (k:Int→Option ρ) :
    ċ (kH ρ) 78 (ą [ae,tI] x) (fun h v=>Ã (Ċ [tI] h v) k)=mH x.1 x.2 k:=by kernel_rfl
def ud (x:Val aI) (k:Bool→Option ρ) :
    ċ (mr ρ) 121 (ą [ae,tI] x) (fun h v=>Ã (Ċ [.bool] h v) k)=j4 x.1 x.2 k:=by kernel_rfl
def UY:(H5 ρ).Ok (Bf ρ):=⟨by kernel_rfl,fun p v kn kx=>by kernel_rfl⟩
def UX:(H4 ρ).Ok (Bf ρ):=⟨by kernel_rfl,fun p v kn kx=>by kernel_rfl⟩
def acM (x:Val (.pair Å Ó)) (k:(Val ae)→Option ρ) :
    ċ (Bf ρ) 194 (ą [Å,Ó] x) (fun h v=>Ã (Ċ [ae] h v) k)=Zj x.1 x.2 k:=by kernel_rfl
def RB:(Dn ρ).Ok (wz ρ):=⟨by kernel_rfl,fun p v kn kx=>by kernel_rfl⟩
def RC:(Dq ρ).Ok (wz ρ):=⟨by kernel_rfl,fun p v kn kx=>by kernel_rfl⟩
def Y6 (x:Val Å) (k:(Val aa)→Option ρ) :
    ċ (wz ρ) 135 (ą [Å] x) (fun h v=>Ã (Ċ [aa] h v) k)=RD x k:=by kernel_rfl
def HH (x:Val (.pair aq Ä)) (k:Int→Option ρ) :
    ċ (xS ρ) 190 (ą [aq,tI,tI] x) (fun h v=>Ã (Ċ [tI] h v) k)=tq x.1 x.2.1 x.2.2 k:=by kernel_rfl
def RA (x:Val (.pair tI (.pair tI (.ptr aq)))) (k:Int→Option ρ) :
    ċ (HI ρ) 188 (ą [tI,tI,(.ptr aq)] x) (fun h v=>Ã (Ċ [tI] h v) k)=EG x.1 x.2.1 x.2.2 k:=by kernel_rfl
def EJ:(sI ρ).Ok (lW ρ):=⟨by kernel_rfl,fun p v kn kx=>by kernel_rfl⟩
def EI:(sG ρ).Ok (lW ρ):=⟨by kernel_rfl,fun p v kn kx=>by kernel_rfl⟩
def KC (x:Val bj) (k:Int→Option ρ) :
    ċ (lW ρ) 192 (ą [Å,aq,tI] x) (fun h v=>Ã (Ċ [tI] h v) k)=wI x.1 x.2.1 x.2.2 k:=by kernel_rfl
def US:(HW ρ).Ok (Be ρ):=⟨by kernel_rfl,fun p v kn kx=>by kernel_rfl⟩
def UR:(HV ρ).Ok (Be ρ):=⟨by kernel_rfl,fun p v kn kx=>by kernel_rfl⟩
def acJ (x:Val aZ) (k:(Val ae)→Option ρ) :
    ċ (Be ρ) 199 (ą [ae,ae] x) (fun h v=>Ã (Ċ [ae] h v) k)=Zb x.1 x.2 k:=by kernel_rfl
def N0:(Ab ρ).Ok (Ac ρ):=⟨by kernel_rfl,fun p v kn kx=>by kernel_rfl⟩
def UT (x:Val ae) (k:Bool→Option ρ) :
    ċ (Ac ρ) 204 (ą [ae] x) (fun h v=>Ã (Ċ [.bool] h v) k)=Kz x k:=by kernel_rfl
def UZ:(H7 ρ).Ok (KD ρ):=⟨by kernel_rfl,fun p v kn kx=>by kernel_rfl⟩
def acN (x:Val aE) (k:(Val bc)→Option ρ) :
    ċ (KD ρ) 231 (ą [Å,tI,tI] x) (fun h v=>Ã (Ċ [ő,.bool] h v) k)=Zk x.1 x.2.1 x.2.2 k:=by kernel_rfl
def yf:(oi ρ).Ok (ū ρ):=⟨by kernel_rfl,fun p v kn kx=>by kernel_rfl⟩
def yd:(od ρ).Ok (ū ρ):=⟨by kernel_rfl,fun p v kn kx=>by kernel_rfl⟩
def ye:(og ρ).Ok (ū ρ):=⟨by kernel_rfl,fun p v kn kx=>by kernel_rfl⟩
def yc:(ob ρ).Ok (ū ρ):=⟨by kernel_rfl,fun p v kn kx=>by kernel_rfl⟩
def B4 (x:Val bj) (k:Int→Option ρ) :
    ċ (ū ρ) 193 (ą [Å,aq,tI] x) (fun h v=>Ã (Ċ [tI] h v) k)=oO x.1 x.2.1 x.2.2 k:=by kernel_rfl
end Go.Proofs.ZzM
end
