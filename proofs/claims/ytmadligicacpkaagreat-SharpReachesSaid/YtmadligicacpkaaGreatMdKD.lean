/- lemmas -/
import Derived.Test.YtmadligicacpkaaGreatMdMA
set_option linter.all false
set_option linter.unusedSectionVars false
set_option linter.unusedVariables false
set_option linter.unusedSimpArgs false
noncomputable section
variable {ρ:Type}
set_option maxRecDepth 100000
namespace Go.Proofs.ZzM
open Go Go.Am
def sc:(ku ρ).Ok (ς ρ):=⟨by kernel_rfl,fun p v kn kx=>by kernel_rfl⟩
def sa:(ks ρ).Ok (ς ρ):=⟨by kernel_rfl,fun p v kn kx=>by kernel_rfl⟩
def wy (x:Val am) (k:(Val ae)→Option ρ) :
    Ĉ (ς ρ) 81 (ÿ [am] x) (fun h v=>Ã (ą [ae] h v) k)=iE x k:=by kernel_rfl
def Wg:(Kb ρ).Ok (ų ρ):=⟨by kernel_rfl,fun p v kn kx=>by kernel_rfl⟩
def Wh:(Kc ρ).Ok (ų ρ):=⟨by kernel_rfl,fun p v kn kx=>by kernel_rfl⟩
def Wf:(Ka ρ).Ok (ų ρ):=⟨by kernel_rfl,fun p v kn kx=>by kernel_rfl⟩
def We:(qt ρ).Ok (ų ρ):=⟨by kernel_rfl,fun p v kn kx=>by kernel_rfl⟩
def Wd:(qr ρ).Ok (ų ρ):=⟨by kernel_rfl,fun p v kn kx=>by kernel_rfl⟩
def Wc:(qq ρ).Ok (ų ρ):=⟨by kernel_rfl,fun p v kn kx=>by kernel_rfl⟩
def acF (x:Val (.pair Ä (.pair aa aa))) (kA:Val aS→Val aj→Option ρ):goC (ų ρ) (jD (ų ρ) 10) 62 [] 0 0 (preC 7 ĝ) {t:=ÿ [Ä,aa,aa] x++List.replicate 127 .any,h:=[]} (matK sj 0 iy lS kA)=Ff x.1 x.2.1 x.2.2 kA:=by kernel_rfl
def af0 (p:Val aS) (v:Val aj) (x:Val Ð) (kk:Val aS→Val (.pair tI (.pair tI (.pair ac (.pair aa (.pair af (.pair ab (.pair aa (.pair tI (.pair tI (.pair ac (.pair aa (.pair af (.pair ab (.pair aa (.pair tI (.pair tI (.pair ac (.pair aa (.pair af (.pair ab (.pair aa (.pair ak (.pair ak (.pair ac Mc))))))))))))))))))))))))→Option ρ):goC (ę ρ) (jD (ę ρ) 10) 62 [] 9 4 (rfA (rfC 7 ĝ)) {t:=upd (iI sj iy lS p v).t 60 (.agg (flat Ð x)),h:=(iI sj iy lS p v).h} (matK OJ 9 iy zu kk)=kk p (CS v x):=by kernel_rfl
def afZ (p:Val aS) (v:Val aj) (x:Val Ð) (kk:Val aS→Val aj→Option ρ):goC (ę ρ) (jD (ę ρ) 10) 62 [] 9 4 (rfB (rfC 7 ĝ)) (iI OJ iy zu p (CS v x)) (matK sj 9 iy lS kk)=è (ç ((List.length (uh v))+(List.length [x]))) (kk p (Ĝ v (uh v++[x]))):=by kernel_rfl
def ZQ (p:Val aS) (v:Val aj) (k:Val ai→Option ρ):goC (ę ρ) (jD (ę ρ) 10) 62 [] 0 0 (postC 7 ĝ) (iI sj iy lS p v) (matR o9 0 jb k)=mK p v (fun y=>k (j5 y)):=by kernel_rfl
def acE (y:Val Ä):oJ Tryz.prog Tryz.f62 (iI o9 [] jb () (j5 y))=some (enc Ä y):=by kernel_rfl
def afY:rfC 7 ĝ=Code.block 4 (Code.rangeFunc (.tmp 59) #[60] (rfA (rfC 7 ĝ)) (rfB (rfC 7 ĝ))):=by kernel_rfl
def Fe:UL 7 ĝ=true:=by kernel_rfl
def qp:Tryz.f62.body=some ĝ:=by kernel_rfl
def RY:(qt ρ).Ok (ę ρ):=⟨by kernel_rfl,fun p v kn kx=>by kernel_rfl⟩
def RX:(qr ρ).Ok (ę ρ):=⟨by kernel_rfl,fun p v kn kx=>by kernel_rfl⟩
def RW:(qq ρ).Ok (ę ρ):=⟨by kernel_rfl,fun p v kn kx=>by kernel_rfl⟩
def SF (x:Val ã) (k:Bool→Option ρ) :
    Ĉ (Ky ρ) 131 (ÿ [Â,tI,tI] x) (fun h v=>Ã (ą [.bool] h v) k)=IR x.1 x.2.1 x.2.2 k:=by kernel_rfl
def Sr (x:Val Ą) (k:Bool→Option ρ) :
    Ĉ (Kt ρ) 227 (ÿ [tI,tI,tI] x) (fun h v=>Ã (ą [.bool] h v) k)=IJ x.1 x.2.1 x.2.2 k:=by kernel_rfl
def WU (x:Val tI) (k:Bool→Option ρ) :
    Ĉ (PK ρ) 189 (ÿ [tI] x) (fun h v=>Ã (ą [.bool] h v) k)=PL x k:=by kernel_rfl
def aab (x:Val tI) (k:Int→Option ρ) :
    Ĉ (T0 ρ) 258 (ÿ [tI] x) (fun h v=>Ã (ą [(.int .u64)] h v) k)=WB x k:=by kernel_rfl
def WC:(Ko ρ).Ok (Pn ρ):=⟨by kernel_rfl,fun p v kn kx=>by kernel_rfl⟩
def acP (x:Val bf) (k:Int→Option ρ) :
    Ĉ (Pn ρ) 259 (ÿ [(.int .u64),(.int .u64)] x) (fun h v=>Ã (ą [(.int .u64)] h v) k)=acQ x.1 x.2 k:=by kernel_rfl
def WE (x:Val Â) (k:Bool→Option ρ) :
    Ĉ (Pq ρ) 226 (ÿ [Â] x) (fun h v=>Ã (ą [.bool] h v) k)=Pr x k:=by kernel_rfl
def PJ (x:Val Ð) (k:Bool→Option ρ) :
    Ĉ (Gb ρ) 187 (ÿ [Ð] x) (fun h v=>Ã (ą [.bool] h v) k)=C8 x k:=by kernel_rfl
def yB:(nz ρ).Ok (lT ρ):=⟨by kernel_rfl,fun p v kn kx=>by kernel_rfl⟩
def Db (x:Val Ä) (k:Int→Option ρ) :
    Ĉ (lT ρ) 132 (ÿ [Ä] x) (fun h v=>Ã (ą [tI] h v) k)=ph x k:=by kernel_rfl
def IK:(wo ρ).Ok (uG ρ):=⟨by kernel_rfl,fun p v kn kx=>by kernel_rfl⟩
def PC (x:Val Ä) (k:(Val aq)→Option ρ) :
    Ĉ (uG ρ) 133 (ÿ [Ä] x) (fun h v=>Ã (ą [aq] h v) k)=C5 x k:=by kernel_rfl
def tP:(lq ρ).Ok (jM ρ):=⟨by kernel_rfl,fun p v kn kx=>by kernel_rfl⟩
def w8 (x:Val aE) (k:Int→Option ρ) :
    Ĉ (jM ρ) 78 (ÿ [ae,tI] x) (fun h v=>Ã (ą [tI] h v) k)=lI x.1 x.2 k:=by kernel_rfl
def rZ (x:Val aE) (k:Bool→Option ρ) :
    Ĉ (lr ρ) 121 (ÿ [ae,tI] x) (fun h v=>Ã (ą [.bool] h v) k)=jn x.1 x.2 k:=by kernel_rfl
def SI:(Gf ρ).Ok (zC ρ):=⟨by kernel_rfl,fun p v kn kx=>by kernel_rfl⟩
def SH:(Ge ρ).Ok (zC ρ):=⟨by kernel_rfl,fun p v kn kx=>by kernel_rfl⟩
def aau (x:Val (.pair Ä Ð)) (k:(Val ae)→Option ρ) :
    Ĉ (zC ρ) 194 (ÿ [Ä,Ð] x) (fun h v=>Ã (ą [ae] h v) k)=W0 x.1 x.2 k:=by kernel_rfl
def PE:(BN ρ).Ok (uJ ρ):=⟨by kernel_rfl,fun p v kn kx=>by kernel_rfl⟩
def PF:(BP ρ).Ok (uJ ρ):=⟨by kernel_rfl,fun p v kn kx=>by kernel_rfl⟩
def WN (x:Val Ä) (k:(Val aa)→Option ρ) :
    Ĉ (uJ ρ) 135 (ÿ [Ä] x) (fun h v=>Ã (ą [aa] h v) k)=PG x k:=by kernel_rfl
def FW (x:Val (.pair aq Â)) (k:Int→Option ρ) :
    Ĉ (wp ρ) 190 (ÿ [aq,tI,tI] x) (fun h v=>Ã (ą [tI] h v) k)=ru x.1 x.2.1 x.2.2 k:=by kernel_rfl
def PD (x:Val (.pair tI (.pair tI (.ptr aq)))) (k:Int→Option ρ) :
    Ĉ (FX ρ) 188 (ÿ [tI,tI,(.ptr aq)] x) (fun h v=>Ã (ą [tI] h v) k)=C7 x.1 x.2.1 x.2.2 k:=by kernel_rfl
def Da:(qK ρ).Ok (kK ρ):=⟨by kernel_rfl,fun p v kn kx=>by kernel_rfl⟩
def C9:(qI ρ).Ok (kK ρ):=⟨by kernel_rfl,fun p v kn kx=>by kernel_rfl⟩
def IU (x:Val bh) (k:Int→Option ρ) :
    Ĉ (kK ρ) 192 (ÿ [Ä,aq,tI] x) (fun h v=>Ã (ą [tI] h v) k)=uS x.1 x.2.1 x.2.2 k:=by kernel_rfl
def SC:(Ga ρ).Ok (zB ρ):=⟨by kernel_rfl,fun p v kn kx=>by kernel_rfl⟩
def SB:(F9 ρ).Ok (zB ρ):=⟨by kernel_rfl,fun p v kn kx=>by kernel_rfl⟩
def aar (x:Val ba) (k:(Val ae)→Option ρ) :
    Ĉ (zB ρ) 199 (ÿ [ae,ae] x) (fun h v=>Ã (ą [ae] h v) k)=WS x.1 x.2 k:=by kernel_rfl
def LZ:(yy ρ).Ok (yz ρ):=⟨by kernel_rfl,fun p v kn kx=>by kernel_rfl⟩
def SD (x:Val ae) (k:Bool→Option ρ) :
    Ĉ (yz ρ) 204 (ÿ [ae] x) (fun h v=>Ã (ą [.bool] h v) k)=IQ x k:=by kernel_rfl
def SJ:(Gh ρ).Ok (IV ρ):=⟨by kernel_rfl,fun p v kn kx=>by kernel_rfl⟩
def aav (x:Val aD) (k:(Val bc)→Option ρ) :
    Ĉ (IV ρ) 231 (ÿ [Ä,tI,tI] x) (fun h v=>Ã (ą [ņ,.bool] h v) k)=W4 x.1 x.2.1 x.2.2 k:=by kernel_rfl
def wD:(mR ρ).Ok (ŝ ρ):=⟨by kernel_rfl,fun p v kn kx=>by kernel_rfl⟩
def wB:(mN ρ).Ok (ŝ ρ):=⟨by kernel_rfl,fun p v kn kx=>by kernel_rfl⟩
def wC:(mP ρ).Ok (ŝ ρ):=⟨by kernel_rfl,fun p v kn kx=>by kernel_rfl⟩
def wA:(mL ρ).Ok (ŝ ρ):=⟨by kernel_rfl,fun p v kn kx=>by kernel_rfl⟩
def Au (x:Val bh) (k:Int→Option ρ) :
    Ĉ (ŝ ρ) 193 (ÿ [Ä,aq,tI] x) (fun h v=>Ã (ą [tI] h v) k)=np x.1 x.2.1 x.2.2 k:=by kernel_rfl
end Go.Proofs.ZzM
end
