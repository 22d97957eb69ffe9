/- lemmas -/
import Derived.Test.YtbfmlbheofblcaaGreatMdMA
set_option linter.all false
noncomputable section
variable {ρ:Type}
set_option maxRecDepth 100000
namespace Go.Proofs.ZzM
open Go Go.Am
variable [ë] [LC]
def LD:(Bo ρ).Ok (NG ρ):=⟨by kernel_rfl,fun p v b a=>by kernel_rfl⟩
def LY:(By ρ).Ok (NX ρ):=⟨by kernel_rfl,fun p v b a=>by kernel_rfl⟩
def I0:(yz ρ).Ok (I1 ρ):=⟨by kernel_rfl,fun p v b a=>by kernel_rfl⟩
def Ip:(yn ρ).Ok (Iq ρ):=⟨by kernel_rfl,fun p v b a=>by kernel_rfl⟩
def Ga:(vq ρ).Ok (pp ρ):=⟨by kernel_rfl,fun p v b a=>by kernel_rfl⟩
def F9:(vp ρ).Ok (pp ρ):=⟨by kernel_rfl,fun p v b a=>by kernel_rfl⟩
def Gb:(vr ρ).Ok (pp ρ):=⟨by kernel_rfl,fun p v b a=>by kernel_rfl⟩
def IJ:(yu ρ).Ok (IK ρ):=⟨by kernel_rfl,fun p v b a=>by kernel_rfl⟩
def IU:(yx ρ).Ok (IV ρ):=⟨by kernel_rfl,fun p v b a=>by kernel_rfl⟩
def LU:(Bv ρ).Ok (NS ρ):=⟨by kernel_rfl,fun p v b a=>by kernel_rfl⟩
def IW:(yy ρ).Ok (IX ρ):=⟨by kernel_rfl,fun p v b a=>by kernel_rfl⟩
def zV:(pv ρ).Ok (iI ρ):=⟨by kernel_rfl,fun p v b a=>by kernel_rfl⟩
def zU:(pu ρ).Ok (iI ρ):=⟨by kernel_rfl,fun p v b a=>by kernel_rfl⟩
def zT:(pr ρ).Ok (iI ρ):=⟨by kernel_rfl,fun p v b a=>by kernel_rfl⟩
def Ee (x:At) (k:Int->AN ρ) :
    MY (iI ρ) 17 [Å,É] [tI] x k=sG x.1 x.2 k:=by kernel_rfl
def Iz:(yq ρ).Ok (zW ρ):=⟨by kernel_rfl,fun p v b a=>by kernel_rfl⟩
def Iy:(yp ρ).Ok (zW ρ):=⟨by kernel_rfl,fun p v b a=>by kernel_rfl⟩
def Gp:(vG ρ).Ok (iJ ρ):=⟨by kernel_rfl,fun p v b a=>by kernel_rfl⟩
def Gn:(vF ρ).Ok (iJ ρ):=⟨by kernel_rfl,fun p v b a=>by kernel_rfl⟩
def Gm:(vE ρ).Ok (iJ ρ):=⟨by kernel_rfl,fun p v b a=>by kernel_rfl⟩
def Gi:(vy ρ).Ok (iJ ρ):=⟨by kernel_rfl,fun p v b a=>by kernel_rfl⟩
def Gj:(vA ρ).Ok (iJ ρ):=⟨by kernel_rfl,fun p v b a=>by kernel_rfl⟩
def Gl:(vC ρ).Ok (iJ ρ):=⟨by kernel_rfl,fun p v b a=>by kernel_rfl⟩
def Gq:(vH ρ).Ok (Fw ρ):=⟨by kernel_rfl,fun p v b a=>by kernel_rfl⟩
def IA:(yr ρ).Ok (IB ρ):=⟨by kernel_rfl,fun p v b a=>by kernel_rfl⟩
def IQ:(yv ρ).Ok (IR ρ):=⟨by kernel_rfl,fun p v b a=>by kernel_rfl⟩
def LO:(Bt ρ).Ok (w8 ρ):=⟨by kernel_rfl,fun p v b a=>by kernel_rfl⟩
def LP:(Bu ρ).Ok (w8 ρ):=⟨by kernel_rfl,fun p v b a=>by kernel_rfl⟩
def LN:(Bs ρ).Ok (w8 ρ):=⟨by kernel_rfl,fun p v b a=>by kernel_rfl⟩
def Gv:(vL ρ).Ok (jY ρ):=⟨by kernel_rfl,fun p v b a=>by kernel_rfl⟩
def Gt:(vJ ρ).Ok (jY ρ):=⟨by kernel_rfl,fun p v b a=>by kernel_rfl⟩
def Gu:(vK ρ).Ok (jY ρ):=⟨by kernel_rfl,fun p v b a=>by kernel_rfl⟩
def Gs:(vI ρ).Ok (jY ρ):=⟨by kernel_rfl,fun p v b a=>by kernel_rfl⟩
def LW (x:a8) (k:Int->AN ρ) :
    MY (jY ρ) 5 [Å] [tI] x k=Ef x k:=by kernel_rfl
def kj:(Ż ρ).Ok (gY ρ):=⟨by kernel_rfl,fun p v b a=>by kernel_rfl⟩
def Ci:(rI ρ).Ok (ų ρ):=⟨by kernel_rfl,fun p v b a=>by kernel_rfl⟩
def Ch:(rG ρ).Ok (ų ρ):=⟨by kernel_rfl,fun p v b a=>by kernel_rfl⟩
def Cf:(rB ρ).Ok (ų ρ):=⟨by kernel_rfl,fun p v b a=>by kernel_rfl⟩
def Cg:(rD ρ).Ok (ų ρ):=⟨by kernel_rfl,fun p v b a=>by kernel_rfl⟩
def Ce:(rA ρ).Ok (ų ρ):=⟨by kernel_rfl,fun p v b a=>by kernel_rfl⟩
def GC (x:Val (.pair Î aq)) (k:ry->AN ρ) :
    MY (ų ρ) 91 [Î,aq] [(.fsl tI),.bool] x k=vQ x.1 x.2 k:=by kernel_rfl
def JJ:(yY ρ).Ok (JK ρ):=⟨by kernel_rfl,fun p v b a=>by kernel_rfl⟩
def JC:(yN ρ).Ok (JD ρ):=⟨by kernel_rfl,fun p v b a=>by kernel_rfl⟩
def GJ:(vZ ρ).Ok (iM ρ):=⟨by kernel_rfl,fun p v b a=>by kernel_rfl⟩
def GI:(vX ρ).Ok (iM ρ):=⟨by kernel_rfl,fun p v b a=>by kernel_rfl⟩
def GH:(vV ρ).Ok (iM ρ):=⟨by kernel_rfl,fun p v b a=>by kernel_rfl⟩
def GF:(vR ρ).Ok (iM ρ):=⟨by kernel_rfl,fun p v b a=>by kernel_rfl⟩
def GG:(vT ρ).Ok (iM ρ):=⟨by kernel_rfl,fun p v b a=>by kernel_rfl⟩
def Mo (x:Val (.pair Î (.pair aq tI))) (k:ag->AN ρ) :
    MY (iM ρ) 136 [Î,aq,tI] [ai] x k=Er x.1 x.2.1 x.2.2 k:=by kernel_rfl
def Wp:(N6 ρ).Ok (JB ρ):=⟨by kernel_rfl,fun p v b a=>by kernel_rfl⟩
def Wn:(N3 ρ).Ok (JB ρ):=⟨by kernel_rfl,fun p v b a=>by kernel_rfl⟩
def Wm:(N1 ρ).Ok (JB ρ):=⟨by kernel_rfl,fun p v b a=>by kernel_rfl⟩
def Wo:(N5 ρ).Ok (JB ρ):=⟨by kernel_rfl,fun p v b a=>by kernel_rfl⟩
def JN:(zc ρ).Ok (sT ρ):=⟨by kernel_rfl,fun p v b a=>by kernel_rfl⟩
def JL:(yZ ρ).Ok (sT ρ):=⟨by kernel_rfl,fun p v b a=>by kernel_rfl⟩
def JM:(za ρ).Ok (sT ρ):=⟨by kernel_rfl,fun p v b a=>by kernel_rfl⟩
def JO:(ze ρ).Ok (JP ρ):=⟨by kernel_rfl,fun p v b a=>by kernel_rfl⟩
variable [ë] [LC]
def qY:(kq ρ).Ok (jl ρ):=⟨by kernel_rfl,fun p v b a=>by kernel_rfl⟩
def qX:(kp ρ).Ok (jl ρ):=⟨by kernel_rfl,fun p v b a=>by kernel_rfl⟩
def PX:(FA ρ).Ok (Ř ρ):=⟨by kernel_rfl,fun p v b a=>by kernel_rfl⟩
def PY:(FB ρ).Ok (Ř ρ):=⟨by kernel_rfl,fun p v b a=>by kernel_rfl⟩
def PW:(Fz ρ).Ok (Ř ρ):=⟨by kernel_rfl,fun p v b a=>by kernel_rfl⟩
def PV:(pL ρ).Ok (Ř ρ):=⟨by kernel_rfl,fun p v b a=>by kernel_rfl⟩
def PU:(pK ρ).Ok (Ř ρ):=⟨by kernel_rfl,fun p v b a=>by kernel_rfl⟩
def PT:(pJ ρ).Ok (Ř ρ):=⟨by kernel_rfl,fun p v b a=>by kernel_rfl⟩
def Wg (x:Val (.pair Å (.pair aa aa))) (a:Val aW->th->AN ρ):goC (Ř ρ) (jm (Ř ρ) 10) 37 [] 0 0 (preC 7 ċ) {t:=UL [Å,aa,aa] x++List.replicate 127 .any,h:=[]} (matK rj 0 ik lr a)=B0 x.1 x.2.1 x.2.2 a:=by kernel_rfl
def aan (p:Val aW) (v:th) (x:c9) (a:Val aW->Val (.pair tI (.pair tI (.pair af (.pair aa (.pair ah (.pair ae (.pair aa (.pair tI (.pair tI (.pair af (.pair aa (.pair ah (.pair aL (.pair aa (.pair tI (.pair tI (.pair af (.pair aa (.pair ah (.pair ae (.pair aa (.pair aq (.pair aq (.pair af ax))))))))))))))))))))))))->AN ρ):goC (ē ρ) (jm (ē ρ) 10) 37 [] 9 4 (rfA (rfC 7 ċ)) {t:=upd (ą rj ik lr p v).t 60 (.agg (flat È x)),h:=(ą rj ik lr p v).h} (matK Jl 9 ik w9 a)=a p (Ad v x):=by kernel_rfl
def aam (p:Val aW) (v:th) (x:c9) (a:Val aW->th->AN ρ):goC (ē ρ) (jm (ē ρ) 10) 37 [] 9 4 (rfB (rfC 7 ċ)) (ą Jl ik w9 p (Ad v x)) (matK rj 9 ik lr a)=æ (Û ((List.length (sM v))+(List.length [x]))) (a p (Ċ v (sM v++[x]))):=by kernel_rfl
def TB (p:Val aW) (v:th) (k:Val (.pair tI (.pair tI aw))->AN ρ):goC (ē ρ) (jm (ē ρ) 10) 37 [] 0 0 (postC 7 ċ) (ą rj ik lr p v) (matR rk 0 jZ k)=mh p v (fun y=>k (lu y)):=by kernel_rfl
def Wf (y:(Val bg)):kf Tryz.prog Tryz.f37 (ą rk [] jZ () (lu y))=some (enc bg y):=by kernel_rfl
def aal:rfC 7 ċ=Code.block 4 (Code.rangeFunc (.tmp 59) #[60] (rfA (rfC 7 ċ)) (rfB (rfC 7 ċ))):=by kernel_rfl
def BZ:O4 7 ċ=true:=by kernel_rfl
def pI:Tryz.f37.body=some ċ:=by kernel_rfl
def Mj:(pL ρ).Ok (ē ρ):=⟨by kernel_rfl,fun p v b a=>by kernel_rfl⟩
def Mi:(pK ρ).Ok (ē ρ):=⟨by kernel_rfl,fun p v b a=>by kernel_rfl⟩
def Mh:(pJ ρ).Ok (ē ρ):=⟨by kernel_rfl,fun p v b a=>by kernel_rfl⟩
def P6:(FK ρ).Ok (TV ρ):=⟨by kernel_rfl,fun p v b a=>by kernel_rfl⟩
def JZ (x:c9) (k:Bool->AN ρ) :
    MY (CD ρ) 145 [È] [.bool] x k=Ak x k:=by kernel_rfl
def wd:(mZ ρ).Ok (rK ρ):=⟨by kernel_rfl,fun p v b a=>by kernel_rfl⟩
def Es:(ur ρ).Ok (Cm ρ):=⟨by kernel_rfl,fun p v b a=>by kernel_rfl⟩
def sw:(kZ ρ).Ok (oE ρ):=⟨by kernel_rfl,fun p v b a=>by kernel_rfl⟩
def MG:(CG ρ).Ok (Ew ρ):=⟨by kernel_rfl,fun p v b a=>by kernel_rfl⟩
def MF:(CE ρ).Ok (Ew ρ):=⟨by kernel_rfl,fun p v b a=>by kernel_rfl⟩
def JW:(zi ρ).Ok (Aj ρ):=⟨by kernel_rfl,fun p v b a=>by kernel_rfl⟩
def JX:(zk ρ).Ok (Aj ρ):=⟨by kernel_rfl,fun p v b a=>by kernel_rfl⟩
def Ao:(pU ρ).Ok (kB ρ):=⟨by kernel_rfl,fun p v b a=>by kernel_rfl⟩
def Al:(pT ρ).Ok (kB ρ):=⟨by kernel_rfl,fun p v b a=>by kernel_rfl⟩
def Ex (x:Val bj) (k:Int->AN ρ) :
    MY (kB ρ) 150 [Å,ay,tI] [tI] x k=ta x.1 x.2.1 x.2.2 k:=by kernel_rfl
def GR:(wc ρ).Ok (FO ρ):=⟨by kernel_rfl,fun p v b a=>by kernel_rfl⟩
def ME:(CB ρ).Ok (Eu ρ):=⟨by kernel_rfl,fun p v b a=>by kernel_rfl⟩
def MD:(CA ρ).Ok (Eu ρ):=⟨by kernel_rfl,fun p v b a=>by kernel_rfl⟩
def MH:(CL ρ).Ok (Oc ρ):=⟨by kernel_rfl,fun p v b a=>by kernel_rfl⟩
def uK:(mq ρ).Ok (ń ρ):=⟨by kernel_rfl,fun p v b a=>by kernel_rfl⟩
def uI:(ml ρ).Ok (ń ρ):=⟨by kernel_rfl,fun p v b a=>by kernel_rfl⟩
def uJ:(mn ρ).Ok (ń ρ):=⟨by kernel_rfl,fun p v b a=>by kernel_rfl⟩
def uH:(mi ρ).Ok (ń ρ):=⟨by kernel_rfl,fun p v b a=>by kernel_rfl⟩
def xX (x:Val bj) (k:Int->AN ρ) :
    MY (ń ρ) 151 [Å,ay,tI] [tI] x k=mQ x.1 x.2.1 x.2.2 k:=by kernel_rfl
end Go.Proofs.ZzM
end
