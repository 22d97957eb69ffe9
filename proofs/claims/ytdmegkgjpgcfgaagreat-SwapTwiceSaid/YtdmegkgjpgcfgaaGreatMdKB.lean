/- lemmas -/
import Derived.Test.YtdmegkgjpgcfgaaGreatMdMA
set_option linter.all false
set_option linter.unusedSectionVars false
set_option linter.unusedVariables false
set_option linter.unusedSimpArgs false
noncomputable section
variable {ρ:Type}
set_option maxRecDepth 100000
namespace Go.Proofs.ZzM
open Go Go.Am
def Hs:(wX ρ).Ok (qB ρ):=⟨by kernel_rfl,fun p v kn kx=>by kernel_rfl⟩
def Hr:(wV ρ).Ok (qB ρ):=⟨by kernel_rfl,fun p v kn kx=>by kernel_rfl⟩
def Mq (x:Val Â) (k:Bool→Option ρ) :
    ŭ (qB ρ) 15 [Â] [.bool] x k=E6 x k:=by kernel_rfl
def KS:(AK ρ).Ok (BT ρ):=⟨by kernel_rfl,fun p v kn kx=>by kernel_rfl⟩
def Q3 (x:Val (.pair É Ī)) (k:Int→Option ρ) :
    ŭ (BT ρ) 269 [É,tI,ab] [tI] x k=KT x.1 x.2.1 x.2.2 k:=by kernel_rfl
def Ur (x:Val aK) (k:(Val aU)→Option ρ) :
    ŭ (OI ρ) 226 [É,tI,tI] [.bool,tI] x k=Q9 x.1 x.2.1 x.2.2 k:=by kernel_rfl
def JO:(Ah ρ).Ok (ka ρ):=⟨by kernel_rfl,fun p v kn kx=>by kernel_rfl⟩
def JN:(Af ρ).Ok (ka ρ):=⟨by kernel_rfl,fun p v kn kx=>by kernel_rfl⟩
def JM:(Ae ρ).Ok (ka ρ):=⟨by kernel_rfl,fun p v kn kx=>by kernel_rfl⟩
def JL:(Ad ρ).Ok (ka ρ):=⟨by kernel_rfl,fun p v kn kx=>by kernel_rfl⟩
def JK:(Ac ρ).Ok (ka ρ):=⟨by kernel_rfl,fun p v kn kx=>by kernel_rfl⟩
def P1 (x:Val (.pair É (.pair ai tI))) (k:Int→Option ρ) :
    ŭ (ka ρ) 156 [É,ai,tI] [tI] x k=JP x.1 x.2.1 x.2.2 k:=by kernel_rfl
def J2:(Al ρ).Ok (uH ρ):=⟨by kernel_rfl,fun p v kn kx=>by kernel_rfl⟩
def J3:(Ao ρ).Ok (uH ρ):=⟨by kernel_rfl,fun p v kn kx=>by kernel_rfl⟩
def Qj (x:Val Â) (k:Int→Option ρ) :
    ŭ (uH ρ) 80 [Â] [tI] x k=J4 x k:=by kernel_rfl
def kT:(δ ρ).Ok (ŝ ρ):=⟨by kernel_rfl,fun p v kn kx=>by kernel_rfl⟩
def mo (x:Val (.pair aa Ã)) (k:Int→Option ρ) :
    ŭ (ŝ ρ) 135 [aa,Ã] [tI] x k=ŷ x.1 x.2 k:=by kernel_rfl
def H4 (x:Val (.pair aT ay)) (k:Int→Option ρ) :
    ŭ (AJ ρ) 147 [aT,ab,tI] [tI] x k=xR x.1 x.2.1 x.2.2 k:=by kernel_rfl
def Nq:(DJ ρ).Ok (yJ ρ):=⟨by kernel_rfl,fun p v kn kx=>by kernel_rfl⟩
def Np:(DH ρ).Ok (yJ ρ):=⟨by kernel_rfl,fun p v kn kx=>by kernel_rfl⟩
def Ud (x:Val (.pair É (.pair Ö Ã))) (k:Int→Option ρ) :
    ŭ (yJ ρ) 247 [É,Ö,tI,tI] [tI] x k=QO x.1 x.2.1 x.2.2.1 x.2.2.2 k:=by kernel_rfl
def zI (x:Val (.pair am ab)) (k:Val Ã→Option ρ) :
    ŭ (ri ρ) 261 [am,ab] [Ã] x k=ob x.1 x.2 k:=by kernel_rfl
def Ko:(AE ρ).Ok (BD ρ):=⟨by kernel_rfl,fun p v kn kx=>by kernel_rfl⟩
def Qy (x:Val aa) (k:Int→Option ρ) :
    ŭ (BD ρ) 264 [aa] [tI] x k=Kq x k:=by kernel_rfl
def Ks (x:Val Ã) (k:Val Ch→Option ρ) :
    ŭ (Du ρ) 312 [tI,tI] [Ã,tI] x k=BF x.1 x.2 k:=by kernel_rfl
def WD (x:Val ĕ) (k:Val Ch→Option ρ) :
    ŭ (T1 ρ) 296 [Ã,Ã] [Ã,tI] x k=WE x.1 x.2 k:=by kernel_rfl
def FL (x:Val ĕ) (k:Val Ã→Option ρ) :
    ŭ (xQ ρ) 262 [Ã,Ã] [Ã] x k=uW x.1 x.2 k:=by kernel_rfl
def Wy (x:Val ĕ) (k:Int→Option ρ) :
    ŭ (TZ ρ) 320 [Ã,Ã] [tI] x k=Wz x.1 x.2 k:=by kernel_rfl
def Dw (x:Val ĕ) (k:Bool→Option ρ) :
    ŭ (vT ρ) 313 [ĕ] [.bool] x k=sd x k:=by kernel_rfl
def WG (x:Val ĕ) (k:Val Ch→Option ρ) :
    ŭ (T3 ρ) 316 [Ã,Ã] [Ã,tI] x k=WH x.1 x.2 k:=by kernel_rfl
def QF (x:Val (.pair ĕ Ã)) (k:Val aa6→Option ρ) :
    ŭ (BG ρ) 297 [ĕ,Ã] [ĕ,tI] x k=Ky x.1 x.2 k:=by kernel_rfl
def FJ (x:Val ĕ) (k:Val ĕ→Option ρ) :
    ŭ (xP ρ) 263 [Ã,Ã] [ĕ] x k=uV x.1 x.2 k:=by kernel_rfl
def Nz (x:Val aY) (k:Val ĕ→Option ρ) :
    ŭ (G3 ρ) 215 [É,â] [ĕ] x k=FO x.1 x.2 k:=by kernel_rfl
def QX (x:Val aY) (k:Val Ã→Option ρ) :
    ŭ (KQ ρ) 216 [É,â] [Ã] x k=KR x.1 x.2 k:=by kernel_rfl
def QC (x:Val Ã) (k:Int→Option ρ) :
    ŭ (Ku ρ) 265 [tI,tI] [tI] x k=Kv x.1 x.2 k:=by kernel_rfl
def T6 (x:Val Ã) (k:Val Ã→Option ρ) :
    ŭ (OG ρ) 217 [Ã] [tI,tI] x k=QI x k:=by kernel_rfl
def QH (x:Val Ã) (k:Val Ã→Option ρ) :
    ŭ (Kz ρ) 218 [Ã] [tI,tI] x k=KA x k:=by kernel_rfl
def T8 (x:Val aY) (k:Val Ã→Option ρ) :
    ŭ (OH ρ) 248 [É,â] [Ã] x k=QK x.1 x.2 k:=by kernel_rfl
def Nn:(DD ρ).Ok (tG ρ):=⟨by kernel_rfl,fun p v kn kx=>by kernel_rfl⟩
def No:(DF ρ).Ok (tG ρ):=⟨by kernel_rfl,fun p v kn kx=>by kernel_rfl⟩
def Nl:(DB ρ).Ok (tG ρ):=⟨by kernel_rfl,fun p v kn kx=>by kernel_rfl⟩
def Ub (x:Val É) (k:(Val aT)→Option ρ) :
    ŭ (tG ρ) 132 [É] [aT] x k=QN x k:=by kernel_rfl
def NF (x:Val É) (k:(Val (.pair Ì bh))→Option ρ) :
    ŭ (G4 ρ) 66 [É] [Ì,aa,tI] x k=FV x k:=by kernel_rfl
def PR:(GM ρ).Ok (Jv ρ):=⟨by kernel_rfl,fun p v kn kx=>by kernel_rfl⟩
def V4 (x:Val bf) (k:Int→Option ρ) :
    ŭ (Jv ρ) 105 [Â,aj,tI,tI] [tI] x k=V5 x.1 x.2.1 x.2.2.1 x.2.2.2 k:=by kernel_rfl
def xd:(og ρ).Ok (md ρ):=⟨by kernel_rfl,fun p v kn kx=>by kernel_rfl⟩
def Bo (x:Val (.pair ab (.pair tI (.pair ar aG)))) (k:(Val ab)→Option ρ) :
    ŭ (md ρ) 183 [ab,tI,ar,aG] [ab] x k=pq x.1 x.2.1 x.2.2.1 x.2.2.2 k:=by kernel_rfl
def Bm:(qJ ρ).Ok (Ų ρ):=⟨by kernel_rfl,fun p v kn kx=>by kernel_rfl⟩
def Bl:(qH ρ).Ok (Ų ρ):=⟨by kernel_rfl,fun p v kn kx=>by kernel_rfl⟩
def Bk:(qF ρ).Ok (Ų ρ):=⟨by kernel_rfl,fun p v kn kx=>by kernel_rfl⟩
def Bj:(qD ρ).Ok (Ų ρ):=⟨by kernel_rfl,fun p v kn kx=>by kernel_rfl⟩
def Fc (x:Val aJ) (k:Val É→Option ρ) :
    ŭ (Ų ρ) 104 [Â,aj] [É] x k=uA x.1 x.2 k:=by kernel_rfl
def TP (x:Val (.pair Ì tI)) (k:Bool→Option ρ) :
    ŭ (Ow ρ) 196 [Ì,tI] [.bool] x k=Qm x.1 x.2 k:=by kernel_rfl
def Km:(AD ρ).Ok (BC ρ):=⟨by kernel_rfl,fun p v kn kx=>by kernel_rfl⟩
def Qw (x:Val Ì) (k:Val Ã→Option ρ) :
    ŭ (BC ρ) 126 [Ì] [tI,tI] x k=Kn x k:=by kernel_rfl
def Dl:(tD ρ).Ok (Τ ρ):=⟨by kernel_rfl,fun p v kn kx=>by kernel_rfl⟩
def Dk:(tB ρ).Ok (Τ ρ):=⟨by kernel_rfl,fun p v kn kx=>by kernel_rfl⟩
def Di:(tv ρ).Ok (Τ ρ):=⟨by kernel_rfl,fun p v kn kx=>by kernel_rfl⟩
def Dj:(tz ρ).Ok (Τ ρ):=⟨by kernel_rfl,fun p v kn kx=>by kernel_rfl⟩
def Dh:(tr ρ).Ok (Τ ρ):=⟨by kernel_rfl,fun p v kn kx=>by kernel_rfl⟩
def HO (x:Val (.pair Ì ao)) (k:(Val (.pair ab .bool))→Option ρ) :
    ŭ (Τ ρ) 127 [Ì,ao] [ab,.bool] x k=xB x.1 x.2 k:=by kernel_rfl
def Dq (x:Val Ì) (k:(Val aU)→Option ρ) :
    ŭ (vR ρ) 155 [Ì] [.bool,tI] x k=sa x k:=by kernel_rfl
def HC (x:Val aJ) (k:Bool→Option ρ) :
    ŭ (Aj ρ) 79 [Â,aj] [.bool] x k=xh x.1 x.2 k:=by kernel_rfl
def Hv:(wZ ρ).Ok (qC ρ):=⟨by kernel_rfl,fun p v kn kx=>by kernel_rfl⟩
def Hw:(xc ρ).Ok (qC ρ):=⟨by kernel_rfl,fun p v kn kx=>by kernel_rfl⟩
def Mu (x:Val aJ) (k:Int→Option ρ) :
    ŭ (qC ρ) 116 [Â,aj] [tI] x k=E8 x.1 x.2 k:=by kernel_rfl
def BI (x:Val tI) (k:Bool→Option ρ) :
    ŭ (tF ρ) 234 [tI] [.bool] x k=pM x k:=by kernel_rfl
def xO (x:Val Ã) (k:Int→Option ρ) :
    ŭ (pN ρ) 180 [tI,tI] [tI] x k=mq x.1 x.2 k:=by kernel_rfl
def MB (x:Val (.pair aj (.pair aj ar))) (k:Int→Option ρ) :
    ŭ (GO ρ) 179 [aj,aj,ar] [tI] x k=E9 x.1 x.2.1 x.2.2 k:=by kernel_rfl
def kz:(Θ ρ).Ok (ò ρ):=⟨by kernel_rfl,fun p v kn kx=>by kernel_rfl⟩
def kB:(Ι ρ).Ok (ò ρ):=⟨by kernel_rfl,fun p v kn kx=>by kernel_rfl⟩
def lJ (xs:(Val ag)) (x:Val Ã) (m:Val Â) (k:((Val ag))×(Val Â)→Option ρ) :
    tW (ò ρ) (Ű (ò ρ) 10) [] 273 (A4 ā x) (jA ā xs m) (I0 ā fun zs m2=>k (zs,m2))=ũ xs x.1 x.2 m k:=by kernel_rfl
def pH:(jy ρ).Ok (û ρ):=⟨by kernel_rfl,fun p v kn kx=>by kernel_rfl⟩
def pG:(jx ρ).Ok (û ρ):=⟨by kernel_rfl,fun p v kn kx=>by kernel_rfl⟩
def pI:(jz ρ).Ok (û ρ):=⟨by kernel_rfl,fun p v kn kx=>by kernel_rfl⟩
def pF:(jw ρ).Ok (û ρ):=⟨by kernel_rfl,fun p v kn kx=>by kernel_rfl⟩
def rY (xs:(Val ag)) (x:Val ŕ) (m:Val Â) (k:((Val ag))×(Val Â)→Option ρ) :
    tW (û ρ) (Ű (û ρ) 10) [] 300 (A4 į x) (jA į xs m) (I0 į fun zs m2=>k (zs,m2))=iW xs x.1 x.2.1 x.2.2 m k:=by kernel_rfl
def nq {rec:(Val ag)→Int→Int→Int→(Val Â)→Option ((Val ag)×(Val Â))}:(((ĥ (Ç rec ρ).P 274).elim [] (Ü 0)).filter fun y=>Nat.beq y.1 0).length=1:=by kernel_rfl
def nr {rec:(Val ag)→Int→Int→Int→(Val Â)→Option ((Val ag)×(Val Â))} (p:Val au) (v:Val Ã) (kn:Val au→Val Ã→Option ρ) (kx:(i:Nat)→Val au→Val (tyL (Ć.zs i))→Option ρ) :
    goC (Ç rec ρ) (Ű (Ç rec ρ) (10-0 / 2)) 274 [] 2 0 (tJ (ĥ (Ç rec ρ).P 274) 0) (õ Ć.head Ć.cs Ć.vs p v) (EM Ć kn kx)=(Ũ rec ρ).bF p v (kn p) (fun i=>kx i p):=by kernel_rfl
def oa {rec:(Val ag)→Int→Int→Int→(Val Â)→Option ((Val ag)×(Val Â))}:(Ũ rec ρ).Ok (Ç rec ρ):=⟨nq,nr⟩
def nl {rec:(Val ag)→Int→Int→Int→(Val Â)→Option ((Val ag)×(Val Â))}:(((ĥ (Ç rec ρ).P 274).elim [] (Ü 0)).filter fun y=>Nat.beq y.1 2).length=1:=by kernel_rfl
def np {rec:(Val ag)→Int→Int→Int→(Val Â)→Option ((Val ag)×(Val Â))} (p:Val aD) (v:Val aB) (kn:Val aD→Val aB→Option ρ) (kx:(i:Nat)→Val aD→Val (tyL (ą.zs i))→Option ρ) :
    goC (Ç rec ρ) (Ű (Ç rec ρ) (10-0 / 2)) 274 [] 2 2 (tJ (ĥ (Ç rec ρ).P 274) 2) (õ ą.head ą.cs ą.vs p v) (EM ą kn kx)=(ŧ rec ρ).bF p v (kn p) (fun i=>kx i p):=by kernel_rfl
def nZ {rec:(Val ag)→Int→Int→Int→(Val Â)→Option ((Val ag)×(Val Â))}:(ŧ rec ρ).Ok (Ç rec ρ):=⟨nl,np⟩
def nh {rec:(Val ag)→Int→Int→Int→(Val Â)→Option ((Val ag)×(Val Â))}:(((ĥ (Ç rec ρ).P 274).elim [] (Ü 0)).filter fun y=>Nat.beq y.1 4).length=1:=by kernel_rfl
def nk {rec:(Val ag)→Int→Int→Int→(Val Â)→Option ((Val ag)×(Val Â))} (p:Val au) (v:Val Ã) (kn:Val au→Val Ã→Option ρ) (kx:(i:Nat)→Val au→Val (tyL (Ą.zs i))→Option ρ) :
    goC (Ç rec ρ) (Ű (Ç rec ρ) (10-0 / 2)) 274 [] 2 4 (tJ (ĥ (Ç rec ρ).P 274) 4) (õ Ą.head Ą.cs Ą.vs p v) (EM Ą kn kx)=(Ŧ rec ρ).bF p v (kn p) (fun i=>kx i p):=by kernel_rfl
def nY {rec:(Val ag)→Int→Int→Int→(Val Â)→Option ((Val ag)×(Val Â))}:(Ŧ rec ρ).Ok (Ç rec ρ):=⟨nh,nk⟩
def nf {rec:(Val ag)→Int→Int→Int→(Val Â)→Option ((Val ag)×(Val Â))}:(((ĥ (Ç rec ρ).P 274).elim [] (Ü 0)).filter fun y=>Nat.beq y.1 6).length=1:=by kernel_rfl
def ng {rec:(Val ag)→Int→Int→Int→(Val Â)→Option ((Val ag)×(Val Â))} (p:Val aD) (v:Val aB) (kn:Val aD→Val aB→Option ρ) (kx:(i:Nat)→Val aD→Val (tyL (ă.zs i))→Option ρ) :
    goC (Ç rec ρ) (Ű (Ç rec ρ) (10-0 / 2)) 274 [] 2 6 (tJ (ĥ (Ç rec ρ).P 274) 6) (õ ă.head ă.cs ă.vs p v) (EM ă kn kx)=(ť rec ρ).bF p v (kn p) (fun i=>kx i p):=by kernel_rfl
def nX {rec:(Val ag)→Int→Int→Int→(Val Â)→Option ((Val ag)×(Val Â))}:(ť rec ρ).Ok (Ç rec ρ):=⟨nf,ng⟩
def m9 {rec:(Val ag)→Int→Int→Int→(Val Â)→Option ((Val ag)×(Val Â))}:(((ĥ (Ç rec ρ).P 274).elim [] (Ü 0)).filter fun y=>Nat.beq y.1 8).length=1:=by kernel_rfl
def nc {rec:(Val ag)→Int→Int→Int→(Val Â)→Option ((Val ag)×(Val Â))} (p:Val aO) (v:Val Ã) (kn:Val aO→Val Ã→Option ρ) (kx:(i:Nat)→Val aO→Val (tyL (Ă.zs i))→Option ρ) :
    goC (Ç rec ρ) (Ű (Ç rec ρ) (10-0 / 2)) 274 [] 2 8 (tJ (ĥ (Ç rec ρ).P 274) 8) (õ Ă.head Ă.cs Ă.vs p v) (EM Ă kn kx)=(Ť rec ρ).bF p v (kn p) (fun i=>kx i p):=by kernel_rfl
def nW {rec:(Val ag)→Int→Int→Int→(Val Â)→Option ((Val ag)×(Val Â))}:(Ť rec ρ).Ok (Ç rec ρ):=⟨m9,nc⟩
def pB {rec:(Val ag)→Int→Int→Int→(Val Â)→Option ((Val ag)×(Val Â))} (F:(Val ag)→Val ŕ→Val Â→Option ((Val ag)×Val Â)) (xs:(Val ag)) (x:Val ŕ) (m:Val Â) (k:((Val ag))×(Val Â)→Option ρ) :
    tW (Ç rec ρ) (Ű (Ç rec ρ) 10) [] 274 (A4 ⟨aj,[tI,tI,tI],179,Â,F⟩ x) (jA ⟨aj,[tI,tI,tI],179,Â,F⟩ xs m) (I0 ⟨aj,[tI,tI,tI],179,Â,F⟩ fun zs m2=>k (zs,m2))=Ģ rec xs x.1 x.2.1 x.2.2 m k:=by kernel_rfl
def pE:(jv ρ).Ok (ď ρ):=⟨by kernel_rfl,fun p v kn kx=>by kernel_rfl⟩
def pC:(jt ρ).Ok (ď ρ):=⟨by kernel_rfl,fun p v kn kx=>by kernel_rfl⟩
def pD:(ju ρ).Ok (ď ρ):=⟨by kernel_rfl,fun p v kn kx=>by kernel_rfl⟩
def rX (xs:(Val ag)) (x:Val tI) (m:Val Â) (k:((Val ag))×(Val Â)→Option ρ) :
    tW (ď ρ) (Ű (ď ρ) 10) [] 233 (A4 ĝ x) (jA ĝ xs m) (I0 ĝ fun zs m2=>k (zs,m2))=iV xs x m k:=by kernel_rfl
def JR:(((ĥ (ο ρ).P 230).elim [] (Ü 0)).filter fun y=>Nat.beq y.1 0).length=1:=by kernel_rfl
def MM:Pq (lU (ĥ (ο ρ).P 230) 0)=true:=by kernel_rfl
def MK (p:Val ax) (v v':Val ag):(õ kO [tI,tI,ae,aa,af,ac,aa,ai,tI,tI,ae,aa,af,ac,aa,ai] [ag] p v').t=(õ kO [tI,tI,ae,aa,af,ac,aa,ai,tI,tI,ae,aa,af,ac,aa,ai] [ag] p v).t:=by kernel_rfl
def ML (p:Val ax) (v:Val ag):(õ kO [tI,tI,ae,aa,af,ac,aa,ai,tI,tI,ae,aa,af,ac,aa,ai] [ag] p v).t.all (st3 4)=true:=by kernel_rfl
def JS (p:Val ax) (v:Val ag) (y:(Val aj)) (kn:Val ax→Val ag→Option ρ):zR (ο ρ) (Ű (ο ρ) (10-6 / 2)) 230 [1,1,1,3,1,1] 4 0 (lU (ĥ (ο ρ).P 230) 0) (õ kO [tI,tI,ae,aa,af,ac,aa,ai,tI,tI,ae,aa,af,ac,aa,ai] [ag] p v) (enc aj y) ((ow ρ).back kn)=(ow ρ).bF p v y (kn p):=by kernel_rfl
def MN (hit:jR Tryz.prog pR):(ow ρ).Ok (ο ρ):=⟨JR,hit,MK,ML,JS⟩
def MP:(CW ρ).Ok (ο ρ):=⟨by kernel_rfl,fun p v kn kx=>by kernel_rfl⟩
def MO:(CU ρ).Ok (ο ρ):=⟨by kernel_rfl,fun p v kn kx=>by kernel_rfl⟩
def Tz (x:Val Â) (k:(Val ag)→Option ρ) :
    ŭ (ο ρ) 81 [Â] [ag] x k=P2 x k:=by kernel_rfl
def Wj (x:Val Â) (k:(Val (.pair ag tI))→Option ρ) :
    ŭ (TL ρ) 19 [Â] [ag,tI] x k=Wm x k:=by kernel_rfl
def Jz:(((ĥ (jj ρ).P 230).elim [] (Ü 0)).filter fun y=>Nat.beq y.1 0).length=1:=by kernel_rfl
def My:Pq (lU (ĥ (jj ρ).P 230) 0)=true:=by kernel_rfl
def Mv (p:Val ah) (v v':Val ag):(õ kM [tI,tI,ae,aa,af,ac,aa,ai] [ag] p v').t=(õ kM [tI,tI,ae,aa,af,ac,aa,ai] [ag] p v).t:=by kernel_rfl
def Mw (p:Val ah) (v:Val ag):(õ kM [tI,tI,ae,aa,af,ac,aa,ai] [ag] p v).t.all (st3 3)=true:=by kernel_rfl
def JA (p:Val ah) (v:Val ag) (y:(Val aj)) (kn:Val ah→Val ag→Option ρ):zR (jj ρ) (Ű (jj ρ) (10-4 / 2)) 230 [1,3,1,1] 3 0 (lU (ĥ (jj ρ).P 230) 0) (õ kM [tI,tI,ae,aa,af,ac,aa,ai] [ag] p v) (enc aj y) ((ov ρ).back kn)=(ov ρ).bF p v y (kn p):=by kernel_rfl
def Mz (hit:jR Tryz.prog pR):(ov ρ).Ok (jj ρ):=⟨Jz,hit,Mv,Mw,JA⟩
def Ts (x:Val Â) (k:(Val ag)→Option ρ) :
    ŭ (jj ρ) 96 [Â] [ag] x k=PU x k:=by kernel_rfl
def Bv:(qN ρ).Ok (pv ρ):=⟨by kernel_rfl,fun p v kn kx=>by kernel_rfl⟩
def Fg (x:Val Â) (k:(Val (.pair aj .bool))→Option ρ) :
    ŭ (pv ρ) 82 [Â] [aj,.bool] x k=uD x k:=by kernel_rfl
def Qd (x:Val Â) (k:(Val (.pair aj tI))→Option ρ) :
    ŭ (J0 ρ) 20 [Â] [aj,tI] x k=J1 x k:=by kernel_rfl
def Bz:(qW ρ).Ok (pL ρ):=⟨by kernel_rfl,fun p v kn kx=>by kernel_rfl⟩
def Fv (x:Val (.pair ab ab)) (k:Bool→Option ρ) :
    ŭ (pL ρ) 35 [ab,ab] [.bool] x k=uM x.1 x.2 k:=by kernel_rfl
def De:(tq ρ).Ok (rZ ρ):=⟨by kernel_rfl,fun p v kn kx=>by kernel_rfl⟩
def HL (x:Val (.pair aj aj)) (k:Bool→Option ρ) :
    ŭ (rZ ρ) 26 [aj,aj] [.bool] x k=xA x.1 x.2 k:=by kernel_rfl
def JC:(zZ ρ).Ok (Bt ρ):=⟨by kernel_rfl,fun p v kn kx=>by kernel_rfl⟩
def PY (x:Val ba) (k:Int→Option ρ) :
    ŭ (Bt ρ) 88 [Â,tI,tI] [tI] x k=JD x.1 x.2.1 x.2.2 k:=by kernel_rfl
def NI (x:Val (.pair ab ab)) (k:(Val (.pair ab ay))→Option ρ) :
    ŭ (G5 ρ) 91 [ab,ab] [ab,ab,tI] x k=FX x.1 x.2 k:=by kernel_rfl
def Bx:(qR ρ).Ok (kP ρ):=⟨by kernel_rfl,fun p v kn kx=>by kernel_rfl⟩
def Bw:(qP ρ).Ok (kP ρ):=⟨by kernel_rfl,fun p v kn kx=>by kernel_rfl⟩
def Fo (x:Val (.pair Â tI)) (k:(Val aU)→Option ρ) :
    ŭ (kP ρ) 28 [Â,tI] [.bool,tI] x k=uE x.1 x.2 k:=by kernel_rfl
def MD:(CQ ρ).Ok (yF ρ):=⟨by kernel_rfl,fun p v kn kx=>by kernel_rfl⟩
def MC:(CO ρ).Ok (yF ρ):=⟨by kernel_rfl,fun p v kn kx=>by kernel_rfl⟩
def Tu (x:Val (.pair Â ab)) (k:Val Â→Option ρ) :
    ŭ (yF ρ) 87 [Â,ab] [Â] x k=PV x.1 x.2 k:=by kernel_rfl
def MZ:(Da ρ).Ok (yG ρ):=⟨by kernel_rfl,fun p v kn kx=>by kernel_rfl⟩
def MY:(C9 ρ).Ok (yG ρ):=⟨by kernel_rfl,fun p v kn kx=>by kernel_rfl⟩
def TJ (x:Val Â) (k:(Val ay)→Option ρ) :
    ŭ (yG ρ) 29 [Â] [ab,tI] x k=Qh x k:=by kernel_rfl
def HE:(xo ρ).Ok (xp ρ):=⟨by kernel_rfl,fun p v kn kx=>by kernel_rfl⟩
def MT (x:Val ay) (k:(Val ab)→Option ρ) :
    ŭ (xp ρ) 98 [ab,tI] [ab] x k=Fl x.1 x.2 k:=by kernel_rfl
def C7:(sY ρ).Ok (ļ ρ):=⟨by kernel_rfl,fun p v kn kx=>by kernel_rfl⟩
def C8:(s7 ρ).Ok (ļ ρ):=⟨by kernel_rfl,fun p v kn kx=>by kernel_rfl⟩
def C6:(sW ρ).Ok (ļ ρ):=⟨by kernel_rfl,fun p v kn kx=>by kernel_rfl⟩
def C5:(sR ρ).Ok (ļ ρ):=⟨by kernel_rfl,fun p v kn kx=>by kernel_rfl⟩
def C3:(sN ρ).Ok (ļ ρ):=⟨by kernel_rfl,fun p v kn kx=>by kernel_rfl⟩
def C2:(sL ρ).Ok (ļ ρ):=⟨by kernel_rfl,fun p v kn kx=>by kernel_rfl⟩
def C1:(sJ ρ).Ok (ļ ρ):=⟨by kernel_rfl,fun p v kn kx=>by kernel_rfl⟩
def C4:(sP ρ).Ok (ļ ρ):=⟨by kernel_rfl,fun p v kn kx=>by kernel_rfl⟩
def HH (x:Val (.pair Â ab)) (k:(Val ay)→Option ρ) :
    ŭ (ļ ρ) 30 [Â,ab] [ab,tI] x k=xq x.1 x.2 k:=by kernel_rfl
def TF (x:Val Â) (k:(Val (.pair ag tI))→Option ρ) :
    ŭ (Ov ρ) 40 [Â] [ag,tI] x k=P9 x k:=by kernel_rfl
def Q7 (x:Val aK) (k:Val Ã→Option ρ) :
    ŭ (KW ρ) 68 [É,Ã] [tI,tI] x k=KX x.1 x.2 k:=by kernel_rfl
def NG:(DX ρ).Ok (FW ρ):=⟨by kernel_rfl,fun p v kn kx=>by kernel_rfl⟩
def Uo (x:Val aK) (k:(Val (.pair É tI))→Option ρ) :
    ŭ (FW ρ) 69 [É,Ã] [É,tI] x k=Q5 x.1 x.2 k:=by kernel_rfl
def Kb:(Ap ρ).Ok (BB ρ):=⟨by kernel_rfl,fun p v kn kx=>by kernel_rfl⟩
def Qq (x:Val bm) (k:Int→Option ρ) :
    ŭ (BB ρ) 133 [Ì,ab] [tI] x k=Kc x.1 x.2 k:=by kernel_rfl
end Go.Proofs.ZzM
end
