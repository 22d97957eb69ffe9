/- lemmas -/
import Derived.Test.YtdmegkgjpgcfgaaGreatMdMA
set_option linter.all false
set_option linter.unusedSectionVars false
set_option linter.unusedVariables false
set_option linter.unusedSimpArgs false
noncomputable section
variable {ρ:Type}
set_option maxRecDepth 100000
namespace Go.Proofs.ZzM
open Go Go.Am
def s7:(kS ρ).Ok (δ ρ):=⟨by kernel_rfl,fun p v kn kx=>by kernel_rfl⟩
def sZ:(kR ρ).Ok (δ ρ):=⟨by kernel_rfl,fun p v kn kx=>by kernel_rfl⟩
def vY (x:Val aj) (k:(Val aa)→Option ρ) :
    š (δ ρ) 93 [aj] [aa] x k=kX x k:=by kernel_rfl
def A7 {al:(Val aj)} {rec:(Val aa)→Option ((Val aj))}:(((ģ (þ al rec ρ).P 272).elim [] (Ü 0)).filter fun y=>Nat.beq y.1 2).length=1:=by kernel_rfl
def Cu {al:(Val aj)} {rec:(Val aa)→Option ((Val aj))}:Ph (lO (ģ (þ al rec ρ).P 272) 2)=true:=by kernel_rfl
def Cs (p:Val aS) (v v':Val aj):(ö ξ [aa,tI,tI,aa,tI] [aj] p v').t=(ö ξ [aa,tI,tI,aa,tI] [aj] p v).t:=by kernel_rfl
def Ct (p:Val aS) (v:Val aj):(ö ξ [aa,tI,tI,aa,tI] [aj] p v).t.all (st3 4)=true:=by kernel_rfl
def A8 {al:(Val aj)} {rec:(Val aa)→Option ((Val aj))} (p:Val aS) (v:Val aj) (y:(Val aa)) (kn:Val aS→Val aj→Option ρ):zF (þ al rec ρ) (ů (þ al rec ρ) (10-0 / 2)) 272 [] 4 2 (lO (ģ (þ al rec ρ).P 272) 2) (ö ξ [aa,tI,tI,aa,tI] [aj] p v) (enc aa y) ((jc al rec ρ).back kn)=(jc al rec ρ).bF p v y (kn p):=by kernel_rfl
def Cv {al:(Val aj)} {rec:(Val aa)→Option ((Val aj))} (hit:jP Tryz.prog ⟨272,aa,aa,rec⟩):(jc al rec ρ).Ok (þ al rec ρ):=⟨A7,hit,Cs,Ct,A8⟩
def A9 {al:(Val aj)} {rec:(Val aa)→Option ((Val aj))}:(((ģ (þ al rec ρ).P 272).elim [] (Ü 0)).filter fun y=>Nat.beq y.1 0).length=1:=by kernel_rfl
def Ba {al:(Val aj)} {rec:(Val aa)→Option ((Val aj))} (p:Val aU) (v:Val bf) (kn:Val aU→Val bf→Option ρ) (kx:(i:Nat)→Val aU→Val (tyL (ŭ.zs i))→Option ρ) :
    goC (þ al rec ρ) (ů (þ al rec ρ) (10-0 / 2)) 272 [] 2 0 (tr (ģ (þ al rec ρ).P 272) 0) (ö ŭ.head ŭ.cs ŭ.vs p v) (Ex ŭ kn kx)=(l5 al rec ρ).bF p v (kn p) (fun i=>kx i p):=by kernel_rfl
def Cw {al:(Val aj)} {rec:(Val aa)→Option ((Val aj))}:(l5 al rec ρ).Ok (þ al rec ρ):=⟨A9,Ba⟩
def Hg {al:(Val aj)} {rec:(Val aa)→Option ((Val aj))} (mm:(Val aa)) (F:(Val aa)→Option (List (Val aa))):tN (þ al rec _) (ů (þ al rec _) 10) [] 272 yG (ε ⟨272,aa,aa,F⟩ mm) (KR ⟨272,aa,aa,F⟩)=wX al rec mm some:=by kernel_rfl
def xa {al:(Val ag)} {rec:(Val ai)→Option ((Val ag))}:(((ģ (ê al rec ρ).P 231).elim [] (Ü 0)).filter fun y=>Nat.beq y.1 2).length=1:=by kernel_rfl
def zh {al:(Val ag)} {rec:(Val ai)→Option ((Val ag))}:Ph (lO (ģ (ê al rec ρ).P 231) 2)=true:=by kernel_rfl
def zd (p:Val bh) (v v':Val ag):(ö Ų [aa,ai,aa] [ag] p v').t=(ö Ų [aa,ai,aa] [ag] p v).t:=by kernel_rfl
def ze (p:Val bh) (v:Val ag):(ö Ų [aa,ai,aa] [ag] p v).t.all (st3 4)=true:=by kernel_rfl
def xb {al:(Val ag)} {rec:(Val ai)→Option ((Val ag))} (p:Val bh) (v:Val ag) (y:(Val aj)) (kn:Val bh→Val ag→Option ρ):zF (ê al rec ρ) (ů (ê al rec ρ) (10-0 / 2)) 231 [] 4 2 (lO (ģ (ê al rec ρ).P 231) 2) (ö Ų [aa,ai,aa] [ag] p v) (enc aj y) ((ij al rec ρ).back kn)=(ij al rec ρ).bF p v y (kn p):=by kernel_rfl
def zi {al:(Val ag)} {rec:(Val ai)→Option ((Val ag))} (hit:jP Tryz.prog ⟨231,ai,aj,rec⟩):(ij al rec ρ).Ok (ê al rec ρ):=⟨xa,hit,zd,ze,xb⟩
def xc {al:(Val ag)} {rec:(Val ai)→Option ((Val ag))}:(((ģ (ê al rec ρ).P 231).elim [] (Ü 0)).filter fun y=>Nat.beq y.1 0).length=1:=by kernel_rfl
def zl {al:(Val ag)} {rec:(Val ai)→Option ((Val ag))}:Ph (lO (ģ (ê al rec ρ).P 231) 0)=true:=by kernel_rfl
def zj (p:Val ai) (v v':Val ag):(ö ų [ai] [ag] p v').t=(ö ų [ai] [ag] p v).t:=by kernel_rfl
def zk (p:Val ai) (v:Val ag):(ö ų [ai] [ag] p v).t.all (st3 3)=true:=by kernel_rfl
def xd {al:(Val ag)} {rec:(Val ai)→Option ((Val ag))} (p:Val ai) (v:Val ag) (y:(Val aa)) (kn:Val ai→Val ag→Option ρ):zF (ê al rec ρ) (ů (ê al rec ρ) (10-0 / 2)) 231 [] 3 0 (lO (ģ (ê al rec ρ).P 231) 0) (ö ų [ai] [ag] p v) (enc aa y) ((ik al rec ρ).back kn)=(ik al rec ρ).bF p v y (kn p):=by kernel_rfl
def zm {al:(Val ag)} {rec:(Val ai)→Option ((Val ag))} (hit:jP Tryz.prog KS):(ik al rec ρ).Ok (ê al rec ρ):=⟨xc,hit,zj,zk,xd⟩
def CH {al:(Val ag)} {rec:(Val ai)→Option ((Val ag))} (mm:(Val ai)) (F:(Val ai)→Option (List (Val aj))):tN (ê al rec _) (ů (ê al rec _) 10) [] 231 yG (ε ⟨231,ai,aj,F⟩ mm) (KR ⟨231,ai,aj,F⟩)=rI al rec mm some:=by kernel_rfl
def pv {al:(Val aa)} {rec:(Val aa)→Option ((Val aa))}:(((ģ (ć al rec ρ).P 268).elim [] (Ü 0)).filter fun y=>Nat.beq y.1 0).length=1:=by kernel_rfl
def pw {al:(Val aa)} {rec:(Val aa)→Option ((Val aa))} (p:Val aU) (v:Val Ğ) (kn:Val aU→Val Ğ→Option ρ) (kx:(i:Nat)→Val aU→Val (tyL (ē.zs i))→Option ρ) :
    goC (ć al rec ρ) (ů (ć al rec ρ) (10-0 / 2)) 268 [] 2 0 (tr (ģ (ć al rec ρ).P 268) 0) (ö ē.head ē.cs ē.vs p v) (Ex ē kn kx)=(Μ al rec ρ).bF p v (kn p) (fun i=>kx i p):=by kernel_rfl
def pY {al:(Val aa)} {rec:(Val aa)→Option ((Val aa))}:(Μ al rec ρ).Ok (ć al rec ρ):=⟨pv,pw⟩
def sW {al:(Val aa)} {rec:(Val aa)→Option ((Val aa))} (mm:(Val aa)) (F:(Val aa)→Option (List Int)):tN (ć al rec _) (ů (ć al rec _) 10) [] 268 yG (ε ⟨268,aa,tI,F⟩ mm) (KR ⟨268,aa,tI,F⟩)=jy al rec mm some:=by kernel_rfl
def uC:(lM ρ).Ok (j8 ρ):=⟨by kernel_rfl,fun p v kn kx=>by kernel_rfl⟩
def xo (x:Val ax) (k:Int→Option ρ) :
    š (j8 ρ) 173 [aa,tI] [tI] x k=me x.1 x.2 k:=by kernel_rfl
def sY (x:Val ax) (k:Bool→Option ρ) :
    š (lN ρ) 92 [aa,tI] [.bool] x k=jz x.1 x.2 k:=by kernel_rfl
def Nt:(DB ρ).Ok (yB ρ):=⟨by kernel_rfl,fun p v kn kx=>by kernel_rfl⟩
def Ns:(Dz ρ).Ok (yB ρ):=⟨by kernel_rfl,fun p v kn kx=>by kernel_rfl⟩
def Uh (x:Val (.pair È Õ)) (k:(Val aa)→Option ρ) :
    š (yB ρ) 201 [È,Õ] [aa] x k=QT x.1 x.2 k:=by kernel_rfl
def Ks:(Aq ρ).Ok (uQ ρ):=⟨by kernel_rfl,fun p v kn kx=>by kernel_rfl⟩
def Kt:(As ρ).Ok (uQ ρ):=⟨by kernel_rfl,fun p v kn kx=>by kernel_rfl⟩
def QG (x:Val È) (k:(Val ab)→Option ρ) :
    š (uQ ρ) 136 [È] [ab] x k=Ku x k:=by kernel_rfl
def Np (x:Val Ĕ) (k:Bool→Option ρ) :
    š (GJ ρ) 141 [Ä,tI,tI] [.bool] x k=FA x.1 x.2.1 x.2.2 k:=by kernel_rfl
def M9 (x:Val œ) (k:Bool→Option ρ) :
    š (GI ρ) 212 [tI,tI,tI] [.bool] x k=Fs x.1 x.2.1 x.2.2 k:=by kernel_rfl
def QN (x:Val tI) (k:Bool→Option ρ) :
    š (Kz ρ) 205 [tI] [.bool] x k=KA x k:=by kernel_rfl
def TU (x:Val tI) (k:Int→Option ρ) :
    š (Ox ρ) 291 [tI] [(.int .u64)] x k=Qt x k:=by kernel_rfl
def Qu:(GF ρ).Ok (Ke ρ):=⟨by kernel_rfl,fun p v kn kx=>by kernel_rfl⟩
def Ws (x:Val bi) (k:Int→Option ρ) :
    š (Ke ρ) 292 [(.int .u64),(.int .u64)] [(.int .u64)] x k=Wt x.1 x.2 k:=by kernel_rfl
def Qy (x:Val Ä) (k:Bool→Option ρ) :
    š (Ki ρ) 253 [Ä] [.bool] x k=Kj x k:=by kernel_rfl
def Ky (x:Val Õ) (k:Bool→Option ρ) :
    š (Dy ρ) 203 [Õ] [.bool] x k=Bu x k:=by kernel_rfl
def xM:(oc ρ).Ok (mi ρ):=⟨by kernel_rfl,fun p v kn kx=>by kernel_rfl⟩
def By (x:Val È) (k:Int→Option ρ) :
    š (mi ρ) 142 [È] [tI] x k=pC x k:=by kernel_rfl
def Ft:(vM ρ).Ok (uN ρ):=⟨by kernel_rfl,fun p v kn kx=>by kernel_rfl⟩
def Ko (x:Val È) (k:(Val am)→Option ρ) :
    š (uN ρ) 143 [È] [am] x k=Br x k:=by kernel_rfl
def Di (x:Val (.pair am Ä)) (k:Int→Option ρ) :
    š (vN ρ) 206 [am,tI,tI] [tI] x k=rQ x.1 x.2.1 x.2.2 k:=by kernel_rfl
def Kr (x:Val (.pair tI (.pair tI (.ptr am)))) (k:Int→Option ρ) :
    š (Dj ρ) 204 [tI,tI,(.ptr am)] [tI] x k=Bt x.1 x.2.1 x.2.2 k:=by kernel_rfl
def Bw:(qY ρ).Ok (kZ ρ):=⟨by kernel_rfl,fun p v kn kx=>by kernel_rfl⟩
def Bv:(qW ρ).Ok (kZ ρ):=⟨by kernel_rfl,fun p v kn kx=>by kernel_rfl⟩
def FD (x:Val bm) (k:Int→Option ρ) :
    š (kZ ρ) 208 [È,am,tI] [tI] x k=uZ x.1 x.2.1 x.2.2 k:=by kernel_rfl
def Nj:(Dw ρ).Ok (yA ρ):=⟨by kernel_rfl,fun p v kn kx=>by kernel_rfl⟩
def Ni:(Dv ρ).Ok (yA ρ):=⟨by kernel_rfl,fun p v kn kx=>by kernel_rfl⟩
def Ud (x:Val (.pair aa aa)) (k:(Val aa)→Option ρ) :
    š (yA ρ) 148 [aa,aa] [aa] x k=QK x.1 x.2 k:=by kernel_rfl
def HN:(xJ ρ).Ok (xL ρ):=⟨by kernel_rfl,fun p v kn kx=>by kernel_rfl⟩
def Nl (x:Val aa) (k:Bool→Option ρ) :
    š (xL ρ) 172 [aa] [.bool] x k=Fz x k:=by kernel_rfl
def Nu:(DD ρ).Ok (FE ρ):=⟨by kernel_rfl,fun p v kn kx=>by kernel_rfl⟩
def Uj (x:Val aK) (k:(Val (.pair η .bool))→Option ρ) :
    š (FE ρ) 259 [È,tI,tI] [η,.bool] x k=QU x.1 x.2.1 x.2.2 k:=by kernel_rfl
def wg:(nw ρ).Ok (Ś ρ):=⟨by kernel_rfl,fun p v kn kx=>by kernel_rfl⟩
def wd:(nq ρ).Ok (Ś ρ):=⟨by kernel_rfl,fun p v kn kx=>by kernel_rfl⟩
def we:(nt ρ).Ok (Ś ρ):=⟨by kernel_rfl,fun p v kn kx=>by kernel_rfl⟩
def vZ:(nl ρ).Ok (Ś ρ):=⟨by kernel_rfl,fun p v kn kx=>by kernel_rfl⟩
def zw (x:Val bm) (k:Int→Option ρ) :
    š (Ś ρ) 209 [È,am,tI] [tI] x k=nW x.1 x.2.1 x.2.2 k:=by kernel_rfl
end Go.Proofs.ZzM
end
