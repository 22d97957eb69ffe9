/- lemmas -/
import Derived.Test.YtdmegkgjpgcfgaaGreatMdMA
set_option linter.all false
noncomputable section
variable {ρ:Type}
set_option maxRecDepth 100000
namespace Go.Proofs.ZzM
open Go Go.Am
def wj:(mH ρ).Ok (ψ ρ):=⟨by kernel_rfl,fun p v b a=>by kernel_rfl⟩
def wi:(mG ρ).Ok (ψ ρ):=⟨by kernel_rfl,fun p v b a=>by kernel_rfl⟩
def zi (x:b5) (k:an->CK ρ) :
    ę (ψ ρ) 93 [ag] [ab] x k=mI x k:=by kernel_rfl
def Fk {al:b5} {a:an->CK (b5)}:(((ğ (Ą al a ρ).P 272).elim [] (ß 0)).filter fun y=>Nat.beq y.1 2).length=1:=by kernel_rfl
def G5 {al:b5} {a:an->CK (b5)}:W0 (np (ğ (Ą al a ρ).P 272) 2)=true:=by kernel_rfl
def G3 (p:Val bg) (v a:b5):(ú iG [ab,tI,tI,ab,tI] [ag] p a).t=(ú iG [ab,tI,tI,ab,tI] [ag] p v).t:=by kernel_rfl
def G4 (p:Val bg) (v:b5):(ú iG [ab,tI,tI,ab,tI] [ag] p v).t.all (st3 4)=true:=by kernel_rfl
def Fl {al:b5} {a:an->CK (b5)} (p:Val bg) (v:b5) (y:an) (b:Val bg->b5->CK ρ):Dl (Ą al a ρ) (Ţ (Ą al a ρ) (10-0 / 2)) 272 [] 4 2 (np (ğ (Ą al a ρ).P 272) 2) (ú iG [ab,tI,tI,ab,tI] [ag] p v) (enc ab y) ((ka al a ρ).back b)=(ka al a ρ).bF p v y (b p):=by kernel_rfl
def G6 {al:b5} {a:an->CK (b5)} (b:lm Tryz.prog ⟨272,ab,ab,a⟩):(ka al a ρ).Ok (Ą al a ρ):=⟨Fk,b,G3,G4,Fl⟩
def Fm {al:b5} {a:an->CK (b5)}:(((ğ (Ą al a ρ).P 272).elim [] (ß 0)).filter fun y=>Nat.beq y.1 0).length=1:=by kernel_rfl
def Fo {al:b5} {a:an->CK (b5)} (p:Val bn) (v:px) (c:Val bn->px->CK ρ) (b:(i:Nat)->Val bn->Val (tyL (ů.zs i))->CK ρ) :
    goC (Ą al a ρ) (Ţ (Ą al a ρ) (10-0 / 2)) 272 [] 2 0 (rX (ğ (Ą al a ρ).P 272) 0) (ú ů.head ů.cs ů.vs p v) (EM ů c b)=(nD al a ρ).bF p v (c p) (fun i=>b i p):=by kernel_rfl
def G7 {al:b5} {a:an->CK (b5)}:(nD al a ρ).Ok (Ą al a ρ):=⟨Fm,Fo⟩
def MQ {al:b5} {a:an->CK (b5)} (b:an) (F:an->CK (Do an)):wU (Ą al a _) (Ţ (Ą al a _) 10) [] 272 Ck (ω ⟨272,ab,ab,F⟩ b) (RC ⟨272,ab,ab,F⟩)=Ah al a b some:=by kernel_rfl
def Ak {al:a7} {a:c9->CK (a7)}:(((ğ (í al a ρ).P 231).elim [] (ß 0)).filter fun y=>Nat.beq y.1 2).length=1:=by kernel_rfl
def CY {al:a7} {a:c9->CK (a7)}:W0 (np (ğ (í al a ρ).P 231) 2)=true:=by kernel_rfl
def CW (p:Val br) (v a:a7):(ú Ŵ [ab,ai,ab] [aj] p a).t=(ú Ŵ [ab,ai,ab] [aj] p v).t:=by kernel_rfl
def CX (p:Val br) (v:a7):(ú Ŵ [ab,ai,ab] [aj] p v).t.all (st3 4)=true:=by kernel_rfl
def Al {al:a7} {a:c9->CK (a7)} (p:Val br) (v:a7) (y:b5) (b:Val br->a7->CK ρ):Dl (í al a ρ) (Ţ (í al a ρ) (10-0 / 2)) 231 [] 4 2 (np (ğ (í al a ρ).P 231) 2) (ú Ŵ [ab,ai,ab] [aj] p v) (enc ag y) ((jc al a ρ).back b)=(jc al a ρ).bF p v y (b p):=by kernel_rfl
def CZ {al:a7} {a:c9->CK (a7)} (b:lm Tryz.prog ⟨231,ai,ag,a⟩):(jc al a ρ).Ok (í al a ρ):=⟨Ak,b,CW,CX,Al⟩
def Ao {al:a7} {a:c9->CK (a7)}:(((ğ (í al a ρ).P 231).elim [] (ß 0)).filter fun y=>Nat.beq y.1 0).length=1:=by kernel_rfl
def C2 {al:a7} {a:c9->CK (a7)}:W0 (np (ğ (í al a ρ).P 231) 0)=true:=by kernel_rfl
def C0 (p:c9) (v a:a7):(ú ŵ [ai] [aj] p a).t=(ú ŵ [ai] [aj] p v).t:=by kernel_rfl
def C1 (p:c9) (v:a7):(ú ŵ [ai] [aj] p v).t.all (st3 3)=true:=by kernel_rfl
def Ap {al:a7} {a:c9->CK (a7)} (p:c9) (v:a7) (y:an) (b:c9->a7->CK ρ):Dl (í al a ρ) (Ţ (í al a ρ) (10-0 / 2)) 231 [] 3 0 (np (ğ (í al a ρ).P 231) 0) (ú ŵ [ai] [aj] p v) (enc ab y) ((jd al a ρ).back b)=(jd al a ρ).bF p v y (b p):=by kernel_rfl
def C3 {al:a7} {a:c9->CK (a7)} (b:lm Tryz.prog RD):(jd al a ρ).Ok (í al a ρ):=⟨Ao,b,C0,C1,Ap⟩
def Hj {al:a7} {a:c9->CK (a7)} (b:c9) (F:c9->CK (Do b5)):wU (í al a _) (Ţ (í al a _) 10) [] 231 Ck (ω ⟨231,ai,ag,F⟩ b) (RC ⟨231,ai,ag,F⟩)=uV al a b some:=by kernel_rfl
def rE {al:an} {a:an->CK (an)}:(((ğ (Ď al a ρ).P 268).elim [] (ß 0)).filter fun y=>Nat.beq y.1 0).length=1:=by kernel_rfl
def rG {al:an} {a:an->CK (an)} (p:Val bn) (v:f4) (c:Val bn->f4->CK ρ) (b:(i:Nat)->Val bn->Val (tyL (Ĝ.zs i))->CK ρ) :
    goC (Ď al a ρ) (Ţ (Ď al a ρ) (10-0 / 2)) 268 [] 2 0 (rX (ğ (Ď al a ρ).P 268) 0) (ú Ĝ.head Ĝ.cs Ĝ.vs p v) (EM Ĝ c b)=(κ al a ρ).bF p v (c p) (fun i=>b i p):=by kernel_rfl
def sO {al:an} {a:an->CK (an)}:(κ al a ρ).Ok (Ď al a ρ):=⟨rE,rG⟩
def we {al:an} {a:an->CK (an)} (b:an) (F:an->CK (Do Int)):wU (Ď al a _) (Ţ (Ď al a _) 10) [] 268 Ck (ω ⟨268,ab,tI,F⟩ b) (RC ⟨268,ab,tI,F⟩)=kM al a b some:=by kernel_rfl
def xC:(nk ρ).Ok (lQ ρ):=⟨by kernel_rfl,fun p v b a=>by kernel_rfl⟩
def AA (x:ly) (k:Int->CK ρ) :
    ę (lQ ρ) 173 [ab,tI] [tI] x k=nJ x.1 x.2 k:=by kernel_rfl
def wg (x:ly) (k:Bool->CK ρ) :
    ę (nl ρ) 92 [ab,tI] [.bool] x k=kO x.1 x.2 k:=by kernel_rfl
def UI:(Ix ρ).Ok (Cg ρ):=⟨by kernel_rfl,fun p v b a=>by kernel_rfl⟩
def UH:(Iw ρ).Ok (Cg ρ):=⟨by kernel_rfl,fun p v b a=>by kernel_rfl⟩
def abY (x:Val (.pair È Ö)) (k:an->CK ρ) :
    ę (Cg ρ) 201 [È,Ö] [ab] x k=Y0 x.1 x.2 k:=by kernel_rfl
def Rj:(Ey ρ).Ok (yb ρ):=⟨by kernel_rfl,fun p v b a=>by kernel_rfl⟩
def Rk:(EA ρ).Ok (yb ρ):=⟨by kernel_rfl,fun p v b a=>by kernel_rfl⟩
def YQ (x:b6) (k:bx->CK ρ) :
    ę (yb ρ) 136 [È] [aa] x k=Rl x k:=by kernel_rfl
def UF (x:ge) (k:Bool->CK ρ) :
    ę (Mm ρ) 141 [Ã,tI,tI] [.bool] x k=K6 x.1 x.2.1 x.2.2 k:=by kernel_rfl
def Uw (x:rm) (k:Bool->CK ρ) :
    ę (Ml ρ) 212 [tI,tI,tI] [.bool] x k=KY x.1 x.2.1 x.2.2 k:=by kernel_rfl
def YW (x:Int) (k:Bool->CK ρ) :
    ę (Ro ρ) 205 [tI] [.bool] x k=Rp x k:=by kernel_rfl
def abN (x:Int) (k:Int->CK ρ) :
    ę (V5 ρ) 291 [tI] [(.int .u64)] x k=YI x k:=by kernel_rfl
def YJ:(Mi ρ).Ok (Q9 ρ):=⟨by kernel_rfl,fun p v b a=>by kernel_rfl⟩
def adP (x:Val bu) (k:Int->CK ρ) :
    ę (Q9 ρ) 292 [(.int .u64),(.int .u64)] [(.int .u64)] x k=adQ x.1 x.2 k:=by kernel_rfl
def YL (x:a8) (k:Bool->CK ρ) :
    ę (Rb ρ) 253 [Ã] [.bool] x k=Rc x k:=by kernel_rfl
def Rn (x:nm) (k:Bool->CK ρ) :
    ę (Iv ρ) 203 [Ö] [.bool] x k=FY x k:=by kernel_rfl
def Br:(pL ρ).Ok (nQ ρ):=⟨by kernel_rfl,fun p v b a=>by kernel_rfl⟩
def F3 (x:b6) (k:Int->CK ρ) :
    ę (nQ ρ) 142 [È] [tI] x k=rW x k:=by kernel_rfl
def KZ:(za ρ).Ok (xY ρ):=⟨by kernel_rfl,fun p v b a=>by kernel_rfl⟩
def Rh (x:b6) (k:qs->CK ρ) :
    ę (xY ρ) 143 [È] [ao] x k=FW x k:=by kernel_rfl
def Ie (x:Val (.pair ao Ã)) (k:Int->CK ρ) :
    ę (zb ρ) 206 [ao,tI,tI] [tI] x k=vk x.1 x.2.1 x.2.2 k:=by kernel_rfl
def Ri (x:Val (.pair tI (.pair tI (.ptr ao)))) (k:Int->CK ρ) :
    ę (If ρ) 204 [tI,tI,(.ptr ao)] [tI] x k=FX x.1 x.2.1 x.2.2 k:=by kernel_rfl
def F0:(uD ρ).Ok (mN ρ):=⟨by kernel_rfl,fun p v b a=>by kernel_rfl⟩
def FZ:(uC ρ).Ok (mN ρ):=⟨by kernel_rfl,fun p v b a=>by kernel_rfl⟩
def K8 (x:Val bz) (k:Int->CK ρ) :
    ę (mN ρ) 208 [È,ao,tI] [tI] x k=yl x.1 x.2.1 x.2.2 k:=by kernel_rfl
def UD:(Iu ρ).Ok (Cf ρ):=⟨by kernel_rfl,fun p v b a=>by kernel_rfl⟩
def UC:(Ir ρ).Ok (Cf ρ):=⟨by kernel_rfl,fun p v b a=>by kernel_rfl⟩
def abX (x:u5) (k:an->CK ρ) :
    ę (Cf ρ) 148 [ab,ab] [ab] x k=YV x.1 x.2 k:=by kernel_rfl
def Nz:(Bp ρ).Ok (Bq ρ):=⟨by kernel_rfl,fun p v b a=>by kernel_rfl⟩
def UE (x:an) (k:Bool->CK ρ) :
    ę (Bq ρ) 172 [ab] [.bool] x k=K5 x k:=by kernel_rfl
def UJ:(IA ρ).Ok (K9 ρ):=⟨by kernel_rfl,fun p v b a=>by kernel_rfl⟩
def abZ (x:nn) (k:(Val bp)->CK ρ) :
    ę (K9 ρ) 259 [È,tI,tI] [iE,.bool] x k=Y3 x.1 x.2.1 x.2.2 k:=by kernel_rfl
def zm:(pe ρ).Ok (Ŝ ρ):=⟨by kernel_rfl,fun p v b a=>by kernel_rfl⟩
def zk:(o8 ρ).Ok (Ŝ ρ):=⟨by kernel_rfl,fun p v b a=>by kernel_rfl⟩
def zl:(pb ρ).Ok (Ŝ ρ):=⟨by kernel_rfl,fun p v b a=>by kernel_rfl⟩
def zj:(oY ρ).Ok (Ŝ ρ):=⟨by kernel_rfl,fun p v b a=>by kernel_rfl⟩
def Dc (x:Val bz) (k:Int->CK ρ) :
    ę (Ŝ ρ) 209 [È,ao,tI] [tI] x k=pF x.1 x.2.1 x.2.2 k:=by kernel_rfl
end Go.Proofs.ZzM
end
