/- lemmas -/
import Derived.Test.YtmadligicacpkaaGreatMdMA
set_option linter.all false
set_option linter.unusedSectionVars false
set_option linter.unusedVariables false
set_option linter.unusedSimpArgs false
noncomputable section
variable {ρ:Type}
set_option maxRecDepth 100000
namespace Go.Proofs.ZzM
open Go Go.Am
def tW:(lz ρ).Ok (hZ ρ):=⟨by kernel_rfl,fun p v kn kx=>by kernel_rfl⟩
def tV:(lv ρ).Ok (hZ ρ):=⟨by kernel_rfl,fun p v kn kx=>by kernel_rfl⟩
def xU (x:Val am) (k:(Val af)→Option ρ) :
    Ć (hZ ρ) 81 (ā [am] x) (fun h v=>Ã (ă [af] h v) k)=jf x k:=by kernel_rfl
def Zp:(Mx ρ).Ok (ź ρ):=⟨by kernel_rfl,fun p v kn kx=>by kernel_rfl⟩
def Zq:(My ρ).Ok (ź ρ):=⟨by kernel_rfl,fun p v kn kx=>by kernel_rfl⟩
def Zo:(Mw ρ).Ok (ź ρ):=⟨by kernel_rfl,fun p v kn kx=>by kernel_rfl⟩
def Zn:(rW ρ).Ok (ź ρ):=⟨by kernel_rfl,fun p v kn kx=>by kernel_rfl⟩
def Zm:(rV ρ).Ok (ź ρ):=⟨by kernel_rfl,fun p v kn kx=>by kernel_rfl⟩
def Zl:(rU ρ).Ok (ź ρ):=⟨by kernel_rfl,fun p v kn kx=>by kernel_rfl⟩
def afY (x:Val (.pair Ä (.pair aa aa))) (kA:Val aV→Val aj→Option ρ):goC (ź ρ) (kg (ź ρ) 10) 62 [] 0 0 (preC 7 Ĥ) {t:=ā [Ä,aa,aa] x++List.replicate 127 .any,h:=[]} (matK ug 0 i8 mJ kA)=Hk x.1 x.2.1 x.2.2 kA:=by kernel_rfl
def ajr (p:Val aV) (v:Val aj) (x:Val Ð) (kk:Val aV→Val (.pair tI (.pair tI (.pair ac (.pair aa (.pair ae (.pair ab (.pair aa (.pair tI (.pair tI (.pair ac (.pair aa (.pair ae (.pair ab (.pair aa (.pair tI (.pair tI (.pair ac (.pair aa (.pair ae (.pair ab (.pair aa (.pair ak (.pair ak (.pair ac OJ))))))))))))))))))))))))→Option ρ):goC (ğ ρ) (kg (ğ ρ) 10) 62 [] 9 4 (rfA (rfC 7 Ĥ)) {t:=upd (jj ug i8 mJ p v).t 60 (.agg (flat Ð x)),h:=(jj ug i8 mJ p v).h} (matK Ri 9 i8 A8 kk)=kk p (EF v x):=by kernel_rfl
def ajq (p:Val aV) (v:Val aj) (x:Val Ð) (kk:Val aV→Val aj→Option ρ):goC (ğ ρ) (kg (ğ ρ) 10) 62 [] 9 4 (rfB (rfC 7 Ĥ)) (jj Ri i8 A8 p (EF v x)) (matK ug 9 i8 mJ kk)=í (ë ((List.length (wa v))+(List.length [x]))) (kk p (ģ v (wa v++[x]))):=by kernel_rfl
def adf (p:Val aV) (v:Val aj) (k:Val ah→Option ρ):goC (ğ ρ) (kg (ğ ρ) 10) 62 [] 0 0 (postC 7 Ĥ) (jj ug i8 mJ p v) (matR qe 0 jG k)=nB p v (fun y=>k (kU y)):=by kernel_rfl
def afX (y:Val Ä):pH Tryz.prog Tryz.f62 (jj qe [] jG () (kU y))=some (enc Ä y):=by kernel_rfl
def ajp:rfC 7 Ĥ=Code.block 4 (Code.rangeFunc (.tmp 59) #[60] (rfA (rfC 7 Ĥ)) (rfB (rfC 7 Ĥ))):=by kernel_rfl
def Hj:XO 7 Ĥ=true:=by kernel_rfl
def rS:Tryz.f62.body=some Ĥ:=by kernel_rfl
def Vc:(rW ρ).Ok (ğ ρ):=⟨by kernel_rfl,fun p v kn kx=>by kernel_rfl⟩
def Vb:(rV ρ).Ok (ğ ρ):=⟨by kernel_rfl,fun p v kn kx=>by kernel_rfl⟩
def Va:(rU ρ).Ok (ğ ρ):=⟨by kernel_rfl,fun p v kn kx=>by kernel_rfl⟩
def VD (x:Val ç) (k:Bool→Option ρ) :
    Ć (MT ρ) 131 (ā [Â,tI,tI] x) (fun h v=>Ã (ă [.bool] h v) k)=K7 x.1 x.2.1 x.2.2 k:=by kernel_rfl
def Vq (x:Val ć) (k:Bool→Option ρ) :
    Ć (MO ρ) 227 (ā [tI,tI,tI] x) (fun h v=>Ã (ă [.bool] h v) k)=KY x.1 x.2.1 x.2.2 k:=by kernel_rfl
def ZZ (x:Val tI) (k:Bool→Option ρ) :
    Ć (Sr ρ) 189 (ā [tI] x) (fun h v=>Ã (ă [.bool] h v) k)=Ss x k:=by kernel_rfl
def adz (x:Val tI) (k:Int→Option ρ) :
    Ć (WY ρ) 258 (ā [tI] x) (fun h v=>Ã (ă [(.int .u64)] h v) k)=ZH x k:=by kernel_rfl
def ZI:(MK ρ).Ok (RQ ρ):=⟨by kernel_rfl,fun p v kn kx=>by kernel_rfl⟩
def af8 (x:Val bi) (k:Int→Option ρ) :
    Ć (RQ ρ) 259 (ā [(.int .u64),(.int .u64)] x) (fun h v=>Ã (ă [(.int .u64)] h v) k)=af9 x.1 x.2 k:=by kernel_rfl
def ZK (x:Val Â) (k:Bool→Option ρ) :
    Ć (RU ρ) 226 (ā [Â] x) (fun h v=>Ã (ă [.bool] h v) k)=RV x k:=by kernel_rfl
def Sq (x:Val Ð) (k:Bool→Option ρ) :
    Ć (Ii ρ) 187 (ā [Ð] x) (fun h v=>Ã (ă [.bool] h v) k)=EU x k:=by kernel_rfl
def Af:(oB ρ).Ok (mK ρ):=⟨by kernel_rfl,fun p v kn kx=>by kernel_rfl⟩
def EX (x:Val Ä) (k:Int→Option ρ) :
    Ć (mK ρ) 132 (ā [Ä] x) (fun h v=>Ã (ă [tI] h v) k)=qj x k:=by kernel_rfl
def KZ:(xM ρ).Ok (wu ρ):=⟨by kernel_rfl,fun p v kn kx=>by kernel_rfl⟩
def Sg (x:Val Ä) (k:(Val ar)→Option ρ) :
    Ć (wu ρ) 133 (ā [Ä] x) (fun h v=>Ã (ă [ar] h v) k)=ER x k:=by kernel_rfl
def vG:(mh ρ).Ok (kE ρ):=⟨by kernel_rfl,fun p v kn kx=>by kernel_rfl⟩
def yA (x:Val aH) (k:Int→Option ρ) :
    Ć (kE ρ) 78 (ā [af,tI] x) (fun h v=>Ã (ă [tI] h v) k)=mu x.1 x.2 k:=by kernel_rfl
def tU (x:Val aH) (k:Bool→Option ρ) :
    Ć (mi ρ) 121 (ā [af,tI] x) (fun h v=>Ã (ă [.bool] h v) k)=jV x.1 x.2 k:=by kernel_rfl
def VG:(Im ρ).Ok (Bg ρ):=⟨by kernel_rfl,fun p v kn kx=>by kernel_rfl⟩
def VF:(Il ρ).Ok (Bg ρ):=⟨by kernel_rfl,fun p v kn kx=>by kernel_rfl⟩
def adS (x:Val (.pair Ä Ð)) (k:(Val af)→Option ρ) :
    Ć (Bg ρ) 194 (ā [Ä,Ð] x) (fun h v=>Ã (ă [af] h v) k)=Z4 x.1 x.2 k:=by kernel_rfl
def Si:(Dx ρ).Ok (wy ρ):=⟨by kernel_rfl,fun p v kn kx=>by kernel_rfl⟩
def Sj:(Dz ρ).Ok (wy ρ):=⟨by kernel_rfl,fun p v kn kx=>by kernel_rfl⟩
def ZS (x:Val Ä) (k:(Val aa)→Option ρ) :
    Ć (wy ρ) 135 (ā [Ä] x) (fun h v=>Ã (ă [aa] h v) k)=Sk x k:=by kernel_rfl
def HY (x:Val (.pair ar Â)) (k:Int→Option ρ) :
    Ć (xN ρ) 190 (ā [ar,tI,tI] x) (fun h v=>Ã (ă [tI] h v) k)=td x.1 x.2.1 x.2.2 k:=by kernel_rfl
def Sh (x:Val (.pair tI (.pair tI (.ptr ar)))) (k:Int→Option ρ) :
    Ć (HZ ρ) 188 (ā [tI,tI,(.ptr ar)] x) (fun h v=>Ã (ă [tI] h v) k)=ET x.1 x.2.1 x.2.2 k:=by kernel_rfl
def EW:(sq ρ).Ok (lP ρ):=⟨by kernel_rfl,fun p v kn kx=>by kernel_rfl⟩
def EV:(sm ρ).Ok (lP ρ):=⟨by kernel_rfl,fun p v kn kx=>by kernel_rfl⟩
def K9 (x:Val bn) (k:Int→Option ρ) :
    Ć (lP ρ) 192 (ā [Ä,ar,tI] x) (fun h v=>Ã (ă [tI] h v) k)=wH x.1 x.2.1 x.2.2 k:=by kernel_rfl
def VA:(Ih ρ).Ok (Bf ρ):=⟨by kernel_rfl,fun p v kn kx=>by kernel_rfl⟩
def Vz:(Ig ρ).Ok (Bf ρ):=⟨by kernel_rfl,fun p v kn kx=>by kernel_rfl⟩
def adP (x:Val aJ) (k:(Val af)→Option ρ) :
    Ć (Bf ρ) 199 (ā [af,af] x) (fun h v=>Ã (ă [af] h v) k)=ZX x.1 x.2 k:=by kernel_rfl
def Oq:(Ac ρ).Ok (Ad ρ):=⟨by kernel_rfl,fun p v kn kx=>by kernel_rfl⟩
def VB (x:Val af) (k:Bool→Option ρ) :
    Ć (Ad ρ) 204 (ā [af] x) (fun h v=>Ã (ă [.bool] h v) k)=K6 x k:=by kernel_rfl
def VH:(Iq ρ).Ok (La ρ):=⟨by kernel_rfl,fun p v kn kx=>by kernel_rfl⟩
def adT (x:Val aE) (k:(Val bh)→Option ρ) :
    Ć (La ρ) 231 (ā [Ä,tI,tI] x) (fun h v=>Ã (ă [ő,.bool] h v) k)=Z5 x.1 x.2.1 x.2.2 k:=by kernel_rfl
def xZ:(nM ρ).Ok (ş ρ):=⟨by kernel_rfl,fun p v kn kx=>by kernel_rfl⟩
def xX:(nF ρ).Ok (ş ρ):=⟨by kernel_rfl,fun p v kn kx=>by kernel_rfl⟩
def xY:(nI ρ).Ok (ş ρ):=⟨by kernel_rfl,fun p v kn kx=>by kernel_rfl⟩
def xW:(nD ρ).Ok (ş ρ):=⟨by kernel_rfl,fun p v kn kx=>by kernel_rfl⟩
def B4 (x:Val bn) (k:Int→Option ρ) :
    Ć (ş ρ) 193 (ā [Ä,ar,tI] x) (fun h v=>Ã (ă [tI] h v) k)=oq x.1 x.2.1 x.2.2 k:=by kernel_rfl
end Go.Proofs.ZzM
end
