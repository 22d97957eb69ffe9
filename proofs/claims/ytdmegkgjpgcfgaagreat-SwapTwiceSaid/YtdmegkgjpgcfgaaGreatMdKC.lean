/- lemmas -/
import Derived.Test.YtdmegkgjpgcfgaaGreatMdMA
set_option linter.all false
set_option linter.unusedSectionVars false
set_option linter.unusedVariables false
set_option linter.unusedSimpArgs false
noncomputable section
variable {ρ:Type}
set_option maxRecDepth 100000
namespace Go.Proofs.ZzM
open Go Go.Am
def tp:(kY ρ).Ok (η ρ):=⟨by kernel_rfl,fun p v kn kx=>by kernel_rfl⟩
def tk:(kX ρ).Ok (η ρ):=⟨by kernel_rfl,fun p v kn kx=>by kernel_rfl⟩
def wp (x:Val aj) (k:(Val ab)→Option ρ) :
    ŭ (η ρ) 93 [aj] [ab] x k=la x k:=by kernel_rfl
def Bp {al:(Val aj)} {rec:(Val ab)→Option ((Val aj))}:(((ĥ (þ al rec ρ).P 272).elim [] (Ü 0)).filter fun y=>Nat.beq y.1 2).length=1:=by kernel_rfl
def CL {al:(Val aj)} {rec:(Val ab)→Option ((Val aj))}:Pq (lU (ĥ (þ al rec ρ).P 272) 2)=true:=by kernel_rfl
def CI (p:Val aS) (v v':Val aj):(õ ξ [ab,tI,tI,ab,tI] [aj] p v').t=(õ ξ [ab,tI,tI,ab,tI] [aj] p v).t:=by kernel_rfl
def CJ (p:Val aS) (v:Val aj):(õ ξ [ab,tI,tI,ab,tI] [aj] p v).t.all (st3 4)=true:=by kernel_rfl
def Bq {al:(Val aj)} {rec:(Val ab)→Option ((Val aj))} (p:Val aS) (v:Val aj) (y:(Val ab)) (kn:Val aS→Val aj→Option ρ):zR (þ al rec ρ) (Ű (þ al rec ρ) (10-0 / 2)) 272 [] 4 2 (lU (ĥ (þ al rec ρ).P 272) 2) (õ ξ [ab,tI,tI,ab,tI] [aj] p v) (enc ab y) ((jk al rec ρ).back kn)=(jk al rec ρ).bF p v y (kn p):=by kernel_rfl
def CM {al:(Val aj)} {rec:(Val ab)→Option ((Val aj))} (hit:jR Tryz.prog ⟨272,ab,ab,rec⟩):(jk al rec ρ).Ok (þ al rec ρ):=⟨Bp,hit,CI,CJ,Bq⟩
def Br {al:(Val aj)} {rec:(Val ab)→Option ((Val aj))}:(((ĥ (þ al rec ρ).P 272).elim [] (Ü 0)).filter fun y=>Nat.beq y.1 0).length=1:=by kernel_rfl
def Bs {al:(Val aj)} {rec:(Val ab)→Option ((Val aj))} (p:Val aV) (v:Val bg) (kn:Val aV→Val bg→Option ρ) (kx:(i:Nat)→Val aV→Val (tyL (Ů.zs i))→Option ρ) :
    goC (þ al rec ρ) (Ű (þ al rec ρ) (10-0 / 2)) 272 [] 2 0 (tJ (ĥ (þ al rec ρ).P 272) 0) (õ Ů.head Ů.cs Ů.vs p v) (EM Ů kn kx)=(me al rec ρ).bF p v (kn p) (fun i=>kx i p):=by kernel_rfl
def CN {al:(Val aj)} {rec:(Val ab)→Option ((Val aj))}:(me al rec ρ).Ok (þ al rec ρ):=⟨Br,Bs⟩
def Hy {al:(Val aj)} {rec:(Val ab)→Option ((Val aj))} (mm:(Val ab)) (F:(Val ab)→Option (List (Val ab))):tW (þ al rec _) (Ű (þ al rec _) 10) [] 272 yQ (θ ⟨272,ab,ab,F⟩ mm) (K7 ⟨272,ab,ab,F⟩)=xf al rec mm some:=by kernel_rfl
def xi {al:(Val ag)} {rec:(Val ai)→Option ((Val ag))}:(((ĥ (ç al rec ρ).P 231).elim [] (Ü 0)).filter fun y=>Nat.beq y.1 2).length=1:=by kernel_rfl
def zx {al:(Val ag)} {rec:(Val ai)→Option ((Val ag))}:Pq (lU (ĥ (ç al rec ρ).P 231) 2)=true:=by kernel_rfl
def zu (p:Val bi) (v v':Val ag):(õ ų [ab,ai,ab] [ag] p v').t=(õ ų [ab,ai,ab] [ag] p v).t:=by kernel_rfl
def zw (p:Val bi) (v:Val ag):(õ ų [ab,ai,ab] [ag] p v).t.all (st3 4)=true:=by kernel_rfl
def xj {al:(Val ag)} {rec:(Val ai)→Option ((Val ag))} (p:Val bi) (v:Val ag) (y:(Val aj)) (kn:Val bi→Val ag→Option ρ):zR (ç al rec ρ) (Ű (ç al rec ρ) (10-0 / 2)) 231 [] 4 2 (lU (ĥ (ç al rec ρ).P 231) 2) (õ ų [ab,ai,ab] [ag] p v) (enc aj y) ((iq al rec ρ).back kn)=(iq al rec ρ).bF p v y (kn p):=by kernel_rfl
def zy {al:(Val ag)} {rec:(Val ai)→Option ((Val ag))} (hit:jR Tryz.prog ⟨231,ai,aj,rec⟩):(iq al rec ρ).Ok (ç al rec ρ):=⟨xi,hit,zu,zw,xj⟩
def xm {al:(Val ag)} {rec:(Val ai)→Option ((Val ag))}:(((ĥ (ç al rec ρ).P 231).elim [] (Ü 0)).filter fun y=>Nat.beq y.1 0).length=1:=by kernel_rfl
def zB {al:(Val ag)} {rec:(Val ai)→Option ((Val ag))}:Pq (lU (ĥ (ç al rec ρ).P 231) 0)=true:=by kernel_rfl
def zz (p:Val ai) (v v':Val ag):(õ Ŵ [ai] [ag] p v').t=(õ Ŵ [ai] [ag] p v).t:=by kernel_rfl
def zA (p:Val ai) (v:Val ag):(õ Ŵ [ai] [ag] p v).t.all (st3 3)=true:=by kernel_rfl
def xn {al:(Val ag)} {rec:(Val ai)→Option ((Val ag))} (p:Val ai) (v:Val ag) (y:(Val ab)) (kn:Val ai→Val ag→Option ρ):zR (ç al rec ρ) (Ű (ç al rec ρ) (10-0 / 2)) 231 [] 3 0 (lU (ĥ (ç al rec ρ).P 231) 0) (õ Ŵ [ai] [ag] p v) (enc ab y) ((ir al rec ρ).back kn)=(ir al rec ρ).bF p v y (kn p):=by kernel_rfl
def zD {al:(Val ag)} {rec:(Val ai)→Option ((Val ag))} (hit:jR Tryz.prog K8):(ir al rec ρ).Ok (ç al rec ρ):=⟨xm,hit,zz,zA,xn⟩
def CZ {al:(Val ag)} {rec:(Val ai)→Option ((Val ag))} (mm:(Val ai)) (F:(Val ai)→Option (List (Val aj))):tW (ç al rec _) (Ű (ç al rec _) 10) [] 231 yQ (θ ⟨231,ai,aj,F⟩ mm) (K7 ⟨231,ai,aj,F⟩)=rV al rec mm some:=by kernel_rfl
def pJ {al:(Val ab)} {rec:(Val ab)→Option ((Val ab))}:(((ĥ (ć al rec ρ).P 268).elim [] (Ü 0)).filter fun y=>Nat.beq y.1 0).length=1:=by kernel_rfl
def pK {al:(Val ab)} {rec:(Val ab)→Option ((Val ab))} (p:Val aV) (v:Val Ī) (kn:Val aV→Val Ī→Option ρ) (kx:(i:Nat)→Val aV→Val (tyL (ē.zs i))→Option ρ) :
    goC (ć al rec ρ) (Ű (ć al rec ρ) (10-0 / 2)) 268 [] 2 0 (tJ (ĥ (ć al rec ρ).P 268) 0) (õ ē.head ē.cs ē.vs p v) (EM ē kn kx)=(Ρ al rec ρ).bF p v (kn p) (fun i=>kx i p):=by kernel_rfl
def qn {al:(Val ab)} {rec:(Val ab)→Option ((Val ab))}:(Ρ al rec ρ).Ok (ć al rec ρ):=⟨pJ,pK⟩
def tf {al:(Val ab)} {rec:(Val ab)→Option ((Val ab))} (mm:(Val ab)) (F:(Val ab)→Option (List Int)):tW (ć al rec _) (Ű (ć al rec _) 10) [] 268 yQ (θ ⟨268,ab,tI,F⟩ mm) (K7 ⟨268,ab,tI,F⟩)=jC al rec mm some:=by kernel_rfl
def uJ:(lS ρ).Ok (kd ρ):=⟨by kernel_rfl,fun p v kn kx=>by kernel_rfl⟩
def xy (x:Val ay) (k:Int→Option ρ) :
    ŭ (kd ρ) 173 [ab,tI] [tI] x k=ml x.1 x.2 k:=by kernel_rfl
def tj (x:Val ay) (k:Bool→Option ρ) :
    ŭ (lT ρ) 92 [ab,tI] [.bool] x k=jD x.1 x.2 k:=by kernel_rfl
def NB:(DS ρ).Ok (yL ρ):=⟨by kernel_rfl,fun p v kn kx=>by kernel_rfl⟩
def NA:(DQ ρ).Ok (yL ρ):=⟨by kernel_rfl,fun p v kn kx=>by kernel_rfl⟩
def Uj (x:Val (.pair É Ö)) (k:(Val ab)→Option ρ) :
    ŭ (yL ρ) 201 [É,Ö] [ab] x k=QZ x.1 x.2 k:=by kernel_rfl
def KH:(AF ρ).Ok (uX ρ):=⟨by kernel_rfl,fun p v kn kx=>by kernel_rfl⟩
def KI:(AH ρ).Ok (uX ρ):=⟨by kernel_rfl,fun p v kn kx=>by kernel_rfl⟩
def QM (x:Val É) (k:(Val aa)→Option ρ) :
    ŭ (uX ρ) 136 [É] [aa] x k=KJ x k:=by kernel_rfl
def Nx (x:Val ĕ) (k:Bool→Option ρ) :
    ŭ (G0 ρ) 141 [Ã,tI,tI] [.bool] x k=FN x.1 x.2.1 x.2.2 k:=by kernel_rfl
def Ni (x:Val ŕ) (k:Bool→Option ρ) :
    ŭ (GZ ρ) 212 [tI,tI,tI] [.bool] x k=FF x.1 x.2.1 x.2.2 k:=by kernel_rfl
def QT (x:Val tI) (k:Bool→Option ρ) :
    ŭ (KO ρ) 205 [tI] [.bool] x k=KP x k:=by kernel_rfl
def TW (x:Val tI) (k:Int→Option ρ) :
    ŭ (OE ρ) 291 [tI] [(.int .u64)] x k=Qz x k:=by kernel_rfl
def QA:(GV ρ).Ok (Kt ρ):=⟨by kernel_rfl,fun p v kn kx=>by kernel_rfl⟩
def Wv (x:Val bj) (k:Int→Option ρ) :
    ŭ (Kt ρ) 292 [(.int .u64),(.int .u64)] [(.int .u64)] x k=Ww x.1 x.2 k:=by kernel_rfl
def QE (x:Val Ã) (k:Bool→Option ρ) :
    ŭ (Kw ρ) 253 [Ã] [.bool] x k=Kx x k:=by kernel_rfl
def KN (x:Val Ö) (k:Bool→Option ρ) :
    ŭ (DP ρ) 203 [Ö] [.bool] x k=BM x k:=by kernel_rfl
def xU:(oi ρ).Ok (mr ρ):=⟨by kernel_rfl,fun p v kn kx=>by kernel_rfl⟩
def BQ (x:Val É) (k:Int→Option ρ) :
    ŭ (mr ρ) 142 [É] [tI] x k=pO x k:=by kernel_rfl
def FG:(vU ρ).Ok (uU ρ):=⟨by kernel_rfl,fun p v kn kx=>by kernel_rfl⟩
def KC (x:Val É) (k:(Val am)→Option ρ) :
    ŭ (uU ρ) 143 [É] [am] x k=BJ x k:=by kernel_rfl
def Dz (x:Val (.pair am Ã)) (k:Int→Option ρ) :
    ŭ (vV ρ) 206 [am,tI,tI] [tI] x k=se x.1 x.2.1 x.2.2 k:=by kernel_rfl
def KE (x:Val (.pair tI (.pair tI (.ptr am)))) (k:Int→Option ρ) :
    ŭ (DA ρ) 204 [tI,tI,(.ptr am)] [tI] x k=BL x.1 x.2.1 x.2.2 k:=by kernel_rfl
def BO:(rq ρ).Ok (lg ρ):=⟨by kernel_rfl,fun p v kn kx=>by kernel_rfl⟩
def BN:(rl ρ).Ok (lg ρ):=⟨by kernel_rfl,fun p v kn kx=>by kernel_rfl⟩
def FQ (x:Val bn) (k:Int→Option ρ) :
    ŭ (lg ρ) 208 [É,am,tI] [tI] x k=vl x.1 x.2.1 x.2.2 k:=by kernel_rfl
def Ns:(DM ρ).Ok (yK ρ):=⟨by kernel_rfl,fun p v kn kx=>by kernel_rfl⟩
def Nr:(DL ρ).Ok (yK ρ):=⟨by kernel_rfl,fun p v kn kx=>by kernel_rfl⟩
def Uf (x:Val (.pair ab ab)) (k:(Val ab)→Option ρ) :
    ŭ (yK ρ) 148 [ab,ab] [ab] x k=QQ x.1 x.2 k:=by kernel_rfl
def H5:(xS ρ).Ok (xT ρ):=⟨by kernel_rfl,fun p v kn kx=>by kernel_rfl⟩
def Nu (x:Val ab) (k:Bool→Option ρ) :
    ŭ (xT ρ) 172 [ab] [.bool] x k=FM x k:=by kernel_rfl
def NC:(DU ρ).Ok (FR ρ):=⟨by kernel_rfl,fun p v kn kx=>by kernel_rfl⟩
def Ul (x:Val aK) (k:(Val (.pair ic .bool))→Option ρ) :
    ŭ (FR ρ) 259 [É,tI,tI] [ic,.bool] x k=Q0 x.1 x.2.1 x.2.2 k:=by kernel_rfl
def ww:(nF ρ).Ok (Ś ρ):=⟨by kernel_rfl,fun p v kn kx=>by kernel_rfl⟩
def wt:(nA ρ).Ok (Ś ρ):=⟨by kernel_rfl,fun p v kn kx=>by kernel_rfl⟩
def wu:(nD ρ).Ok (Ś ρ):=⟨by kernel_rfl,fun p v kn kx=>by kernel_rfl⟩
def wq:(ny ρ).Ok (Ś ρ):=⟨by kernel_rfl,fun p v kn kx=>by kernel_rfl⟩
def zK (x:Val bn) (k:Int→Option ρ) :
    ŭ (Ś ρ) 209 [É,am,tI] [tI] x k=oc x.1 x.2.1 x.2.2 k:=by kernel_rfl
end Go.Proofs.ZzM
end
