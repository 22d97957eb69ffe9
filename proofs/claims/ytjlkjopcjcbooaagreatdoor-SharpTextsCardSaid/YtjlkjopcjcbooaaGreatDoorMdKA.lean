/- lemmas -/
import Derived.Test.YtjlkjopcjcbooaaGreatDoorMdMA
set_option linter.all false
noncomputable section
variable {ρ:Type}
set_option maxRecDepth 100000
namespace Go.Proofs.ZzM
open Go Go.Am
def ml:(gh ρ).Ok (ζ ρ):=⟨by kernel_rfl,fun p v kn a=>by kernel_rfl⟩
def mj:(gg ρ).Ok (ζ ρ):=⟨by kernel_rfl,fun p v kn a=>by kernel_rfl⟩
def F8:(xX ρ).Ok (ī ρ):=⟨by kernel_rfl,fun p v kn a=>by kernel_rfl⟩
def F9:(xY ρ).Ok (ī ρ):=⟨by kernel_rfl,fun p v kn a=>by kernel_rfl⟩
def F7:(xW ρ).Ok (ī ρ):=⟨by kernel_rfl,fun p v kn a=>by kernel_rfl⟩
def F6:(lu ρ).Ok (ī ρ):=⟨by kernel_rfl,fun p v kn a=>by kernel_rfl⟩
def F5:(lr ρ).Ok (ī ρ):=⟨by kernel_rfl,fun p v kn a=>by kernel_rfl⟩
def F4:(lq ρ).Ok (ī ρ):=⟨by kernel_rfl,fun p v kn a=>by kernel_rfl⟩
def K7 (x:Val (.pair Ã (.pair aa aa))) (a:ey->nR->so ρ):goC (ī ρ) (Ō (ī ρ) 10) 51 [] 0 0 (preC 7 ā) {t:=zx [Ã,aa,aa] x++List.replicate 127 .any,h:=[]} (matK mm 0 Ű gW a)=vq x.1 x.2.1 x.2.2 a:=by kernel_rfl
def OC (p:ey) (v:nR) (x:bl) (a:ey->Val (.pair tI (.pair tI (.pair ac (.pair aa (.pair ae (.pair ab (.pair aa (.pair tI (.pair tI (.pair ac (.pair aa (.pair ae (.pair ab (.pair aa (.pair tI (.pair tI (.pair ac (.pair aa (.pair ae (.pair ab (.pair aa (.pair am (.pair am (.pair ac (.pair tI (.pair tI aq))))))))))))))))))))))))))->so ρ):goC (Ĉ ρ) (Ō (Ĉ ρ) 10) 51 [] 9 4 (rfA (rfC 7 ā)) {t:=upd (à mm Ű gW p v).t 60 (.agg (flat Ì x)),h:=(à mm Ű gW p v).h} (matK Br 9 Ű qA a)=a p (tB v x):=by kernel_rfl
def OB (p:ey) (v:nR) (x:bl) (a:ey->nR->so ρ):goC (Ĉ ρ) (Ō (Ĉ ρ) 10) 51 [] 9 4 (rfB (rfC 7 ā)) (à Br Ű qA p (tB v x)) (matK mm 9 Ű gW a)=ð (Ñ ((List.length (nn v))+(List.length [x]))) (a p (Ā v (nn v++[x]))):=by kernel_rfl
def IW (p:ey) (v:nR) (k:gv->so ρ):goC (Ĉ ρ) (Ō (Ĉ ρ) 10) 51 [] 0 0 (postC 7 ā) (à mm Ű gW p v) (matR mn 0 fS k)=iz p v (fun y=>k (gX y)):=by kernel_rfl
def K6 (y:an):f5 Tryz.prog Tryz.f51 (à mn [] fS () (gX y))=some (enc Ã y):=by kernel_rfl
def OA:rfC 7 ā=Code.block 4 (Code.rangeFunc (.tmp 59) #[60] (rfA (rfC 7 ā)) (rfB (rfC 7 ā))):=by kernel_rfl
def vp:Fy 7 ā=true:=by kernel_rfl
def ln:Tryz.f51.body=some ā:=by kernel_rfl
def Du:(lu ρ).Ok (Ĉ ρ):=⟨by kernel_rfl,fun p v kn a=>by kernel_rfl⟩
def Dt:(lr ρ).Ok (Ĉ ρ):=⟨by kernel_rfl,fun p v kn a=>by kernel_rfl⟩
def Ds:(lq ρ).Ok (Ĉ ρ):=⟨by kernel_rfl,fun p v kn a=>by kernel_rfl⟩
def Gc:(xZ ρ).Ok (I5 ρ):=⟨by kernel_rfl,fun p v kn a=>by kernel_rfl⟩
def BC (x:bl) (k:Bool->so ρ) :
    Kl (vx ρ) 183 [Ì] [.bool] x k=tE x k:=by kernel_rfl
def pK:(i6 ρ).Ok (mz ρ):=⟨by kernel_rfl,fun p v kn a=>by kernel_rfl⟩
def wQ:(og ρ).Ok (vt ρ):=⟨by kernel_rfl,fun p v kn a=>by kernel_rfl⟩
def m9:(gL ρ).Ok (kg ρ):=⟨by kernel_rfl,fun p v kn a=>by kernel_rfl⟩
def DB:(vA ρ).Ok (wT ρ):=⟨by kernel_rfl,fun p v kn a=>by kernel_rfl⟩
def DA:(vy ρ).Ok (wT ρ):=⟨by kernel_rfl,fun p v kn a=>by kernel_rfl⟩
def BA:(sl ρ).Ok (tD ρ):=⟨by kernel_rfl,fun p v kn a=>by kernel_rfl⟩
def BB:(sn ρ).Ok (tD ρ):=⟨by kernel_rfl,fun p v kn a=>by kernel_rfl⟩
def tG:(lF ρ).Ok (gx ρ):=⟨by kernel_rfl,fun p v kn a=>by kernel_rfl⟩
def tF:(lE ρ).Ok (gx ρ):=⟨by kernel_rfl,fun p v kn a=>by kernel_rfl⟩
def wU (x:Val aL) (k:Int->so ρ) :
    Kl (gx ρ) 188 [Ã,ar,tI] [tI] x k=nw x.1 x.2.1 x.2.2 k:=by kernel_rfl
def yT:(pI ρ).Ok (ya ρ):=⟨by kernel_rfl,fun p v kn a=>by kernel_rfl⟩
def Dz:(vw ρ).Ok (wS ρ):=⟨by kernel_rfl,fun p v kn a=>by kernel_rfl⟩
def Dy:(vv ρ).Ok (wS ρ):=⟨by kernel_rfl,fun p v kn a=>by kernel_rfl⟩
def DC:(vD ρ).Ok (EM ρ):=⟨by kernel_rfl,fun p v kn a=>by kernel_rfl⟩
def oC:(iH ρ).Ok (Ġ ρ):=⟨by kernel_rfl,fun p v kn a=>by kernel_rfl⟩
def oA:(iD ρ).Ok (Ġ ρ):=⟨by kernel_rfl,fun p v kn a=>by kernel_rfl⟩
def oB:(iF ρ).Ok (Ġ ρ):=⟨by kernel_rfl,fun p v kn a=>by kernel_rfl⟩
def oz:(iB ρ).Ok (Ġ ρ):=⟨by kernel_rfl,fun p v kn a=>by kernel_rfl⟩
def ry (x:Val aL) (k:Int->so ρ) :
    Kl (Ġ ρ) 189 [Ã,ar,tI] [tI] x k=iW x.1 x.2.1 x.2.2 k:=by kernel_rfl
def C1:(uR ρ).Ok (Ep ρ):=⟨by kernel_rfl,fun p v kn a=>by kernel_rfl⟩
def Dx:(vu ρ).Ok (EJ ρ):=⟨by kernel_rfl,fun p v kn a=>by kernel_rfl⟩
def BI:(sw ρ).Ok (fL ρ):=⟨by kernel_rfl,fun p v kn a=>by kernel_rfl⟩
def BH:(sv ρ).Ok (fL ρ):=⟨by kernel_rfl,fun p v kn a=>by kernel_rfl⟩
def BG:(su ρ).Ok (fL ρ):=⟨by kernel_rfl,fun p v kn a=>by kernel_rfl⟩
def BF:(sr ρ).Ok (fL ρ):=⟨by kernel_rfl,fun p v kn a=>by kernel_rfl⟩
def BD:(sq ρ).Ok (fL ρ):=⟨by kernel_rfl,fun p v kn a=>by kernel_rfl⟩
def Gj (x:an) (k:dy->so ρ) :
    Kl (fL ρ) 24 [Ã] [.str,tI] x k=vF x k:=by kernel_rfl
def Dr:(vn ρ).Ok (EH ρ):=⟨by kernel_rfl,fun p v kn a=>by kernel_rfl⟩
def Ga (x:lx) (k:dy->so ρ) :
    Kl (Bs ρ) 7 [ĩ] [.str,tI] x k=Bt x k:=by kernel_rfl
def Dp:(vm ρ).Ok (EF ρ):=⟨by kernel_rfl,fun p v kn a=>by kernel_rfl⟩
def Bf:(se ρ).Ok (Bg ρ):=⟨by kernel_rfl,fun p v kn a=>by kernel_rfl⟩
def AC:(rN ρ).Ok (AD ρ):=⟨by kernel_rfl,fun p v kn a=>by kernel_rfl⟩
def yw:(o9 ρ).Ok (kK ρ):=⟨by kernel_rfl,fun p v kn a=>by kernel_rfl⟩
def yv:(o8 ρ).Ok (kK ρ):=⟨by kernel_rfl,fun p v kn a=>by kernel_rfl⟩
def yx:(pb ρ).Ok (kK ρ):=⟨by kernel_rfl,fun p v kn a=>by kernel_rfl⟩
def A1:(rY ρ).Ok (A2 ρ):=⟨by kernel_rfl,fun p v kn a=>by kernel_rfl⟩
def A8:(sc ρ).Ok (A9 ρ):=⟨by kernel_rfl,fun p v kn a=>by kernel_rfl⟩
def Dl:(vg ρ).Ok (EB ρ):=⟨by kernel_rfl,fun p v kn a=>by kernel_rfl⟩
def Ba:(sd ρ).Ok (Bb ρ):=⟨by kernel_rfl,fun p v kn a=>by kernel_rfl⟩
def tg:(kP ρ).Ok (Ż ρ):=⟨by kernel_rfl,fun p v kn a=>by kernel_rfl⟩
def tf:(kO ρ).Ok (Ż ρ):=⟨by kernel_rfl,fun p v kn a=>by kernel_rfl⟩
def td:(kM ρ).Ok (Ż ρ):=⟨by kernel_rfl,fun p v kn a=>by kernel_rfl⟩
def wM (x:Val aK) (k:Int->so ρ) :
    Kl (Ż ρ) 32 [Ã,Ú] [tI] x k=ng x.1 x.2 k:=by kernel_rfl
def AK:(rQ ρ).Ok (tj ρ):=⟨by kernel_rfl,fun p v kn a=>by kernel_rfl⟩
def AJ:(rP ρ).Ok (tj ρ):=⟨by kernel_rfl,fun p v kn a=>by kernel_rfl⟩
def yI:(pA ρ).Ok (ż ρ):=⟨by kernel_rfl,fun p v kn a=>by kernel_rfl⟩
def yH:(pz ρ).Ok (ż ρ):=⟨by kernel_rfl,fun p v kn a=>by kernel_rfl⟩
def yG:(pw ρ).Ok (ż ρ):=⟨by kernel_rfl,fun p v kn a=>by kernel_rfl⟩
def yD:(pn ρ).Ok (ż ρ):=⟨by kernel_rfl,fun p v kn a=>by kernel_rfl⟩
def yE:(pp ρ).Ok (ż ρ):=⟨by kernel_rfl,fun p v kn a=>by kernel_rfl⟩
def yF:(pu ρ).Ok (ż ρ):=⟨by kernel_rfl,fun p v kn a=>by kernel_rfl⟩
def AM:(rR ρ).Ok (AO ρ):=⟨by kernel_rfl,fun p v kn a=>by kernel_rfl⟩
def A6:(rZ ρ).Ok (A7 ρ):=⟨by kernel_rfl,fun p v kn a=>by kernel_rfl⟩
def yJ:(pB ρ).Ok (xU ρ):=⟨by kernel_rfl,fun p v kn a=>by kernel_rfl⟩
def Db:(uY ρ).Ok (qz ρ):=⟨by kernel_rfl,fun p v kn a=>by kernel_rfl⟩
def Dc:(uZ ρ).Ok (qz ρ):=⟨by kernel_rfl,fun p v kn a=>by kernel_rfl⟩
def Da:(uX ρ).Ok (qz ρ):=⟨by kernel_rfl,fun p v kn a=>by kernel_rfl⟩
def yO:(pG ρ).Ok (fR ρ):=⟨by kernel_rfl,fun p v kn a=>by kernel_rfl⟩
def yM:(pD ρ).Ok (fR ρ):=⟨by kernel_rfl,fun p v kn a=>by kernel_rfl⟩
def yN:(pE ρ).Ok (fR ρ):=⟨by kernel_rfl,fun p v kn a=>by kernel_rfl⟩
def yL:(pC ρ).Ok (fR ρ):=⟨by kernel_rfl,fun p v kn a=>by kernel_rfl⟩
def Dn (x:an) (k:Int->so ρ) :
    Kl (fR ρ) 8 [Ã] [tI] x k=wN x k:=by kernel_rfl
def tq {a:Int->so ByteArray}:(((ū (ł a ρ).P 157).elim [] (Õ 0)).filter fun y=>Nat.beq y.1 0).length=1:=by kernel_rfl
def tr {a:Int->so ByteArray} (p:Unit) (v:pi) (kn:Unit->pi->so ρ) (b:(i:Nat)->Unit->Val (tyL (ħ.zs i))->so ρ) :
    goC (ł a ρ) (Ō (ł a ρ) (10-0 / 2)) 157 [] 0 0 (sH (ū (ł a ρ).P 157) 0) (à ħ.head ħ.cs ħ.vs p v) (Kt ħ kn b)=(gV a ρ).bF p v (kn p) (fun i=>b i p):=by kernel_rfl
def vh {a:Int->so ByteArray}:(gV a ρ).Ok (ł a ρ):=⟨tq,tr⟩
def yK {a:Int->so ByteArray} (x:Int) (k:ByteArray->so ρ) :
    Kl (ł a ρ) 157 [tI] [.str] x k=Ř a x k:=by kernel_rfl
def AH:(rO ρ).Ok (AI ρ):=⟨by kernel_rfl,fun p v kn a=>by kernel_rfl⟩
def yC:(pm ρ).Ok (fQ ρ):=⟨by kernel_rfl,fun p v kn a=>by kernel_rfl⟩
def yB:(pk ρ).Ok (fQ ρ):=⟨by kernel_rfl,fun p v kn a=>by kernel_rfl⟩
def yA:(pj ρ).Ok (fQ ρ):=⟨by kernel_rfl,fun p v kn a=>by kernel_rfl⟩
def yz:(ph ρ).Ok (fQ ρ):=⟨by kernel_rfl,fun p v kn a=>by kernel_rfl⟩
def yy:(pf ρ).Ok (fQ ρ):=⟨by kernel_rfl,fun p v kn a=>by kernel_rfl⟩
def AA {a:Int->so ByteArray} (x:Int) (k:ByteArray->so ρ) :
    Kl (uS a ρ) 92 [tI] [.str] x k=gU a x k:=by kernel_rfl
def yu:(oX ρ).Ok (oZ ρ):=⟨by kernel_rfl,fun p v kn a=>by kernel_rfl⟩
def C3 (x:lx) (k:ByteArray->so ρ) :
    Kl (oZ ρ) 9 [ĩ] [.str] x k=wL x k:=by kernel_rfl
end Go.Proofs.ZzM
end
