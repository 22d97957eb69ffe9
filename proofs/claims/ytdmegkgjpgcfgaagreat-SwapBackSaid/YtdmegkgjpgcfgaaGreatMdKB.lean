/- lemmas -/
import Derived.Test.YtdmegkgjpgcfgaaGreatMdMA
set_option linter.all false
set_option linter.unusedSectionVars false
set_option linter.unusedVariables false
set_option linter.unusedSimpArgs false
noncomputable section
variable {ρ:Type}
set_option maxRecDepth 100000
namespace Go.Proofs.ZzM
open Go Go.Am
def Hs:(wJ ρ).Ok (qo ρ):=⟨by kernel_rfl,fun p v kn kx=>by kernel_rfl⟩
def Hr:(wH ρ).Ok (qo ρ):=⟨by kernel_rfl,fun p v kn kx=>by kernel_rfl⟩
def My (x:Val Â) (k:Bool→Option ρ) :
    ŗ (qo ρ) 15 [Â] [.bool] x k=E7 x k:=by kernel_rfl
def K3:(AB ρ).Ok (BJ ρ):=⟨by kernel_rfl,fun p v kn kx=>by kernel_rfl⟩
def Rh (x:Val (.pair É ŋ)) (k:Int→Option ρ) :
    ŗ (BJ ρ) 269 [É,tI,ab] [tI] x k=K4 x.1 x.2.1 x.2.2 k:=by kernel_rfl
def UH (x:Val aK) (k:(Val aW)→Option ρ) :
    ŗ (OU ρ) 226 [É,tI,tI] [.bool,tI] x k=Rn x.1 x.2.1 x.2.2 k:=by kernel_rfl
def JN:(zS ρ).Ok (jP ρ):=⟨by kernel_rfl,fun p v kn kx=>by kernel_rfl⟩
def JM:(zQ ρ).Ok (jP ρ):=⟨by kernel_rfl,fun p v kn kx=>by kernel_rfl⟩
def JL:(zP ρ).Ok (jP ρ):=⟨by kernel_rfl,fun p v kn kx=>by kernel_rfl⟩
def JK:(zO ρ).Ok (jP ρ):=⟨by kernel_rfl,fun p v kn kx=>by kernel_rfl⟩
def JJ:(zN ρ).Ok (jP ρ):=⟨by kernel_rfl,fun p v kn kx=>by kernel_rfl⟩
def Qa (x:Val (.pair É (.pair ai tI))) (k:Int→Option ρ) :
    ŗ (jP ρ) 156 [É,ai,tI] [tI] x k=JO x.1 x.2.1 x.2.2 k:=by kernel_rfl
def J5:(zY ρ).Ok (uk ρ):=⟨by kernel_rfl,fun p v kn kx=>by kernel_rfl⟩
def J6:(zZ ρ).Ok (uk ρ):=⟨by kernel_rfl,fun p v kn kx=>by kernel_rfl⟩
def Qu (x:Val Â) (k:Int→Option ρ) :
    ŗ (uk ρ) 80 [Â] [tI] x k=J7 x k:=by kernel_rfl
def kz:(Μ ρ).Ok (Ŕ ρ):=⟨by kernel_rfl,fun p v kn kx=>by kernel_rfl⟩
def lV (x:Val (.pair aa Ä)) (k:Int→Option ρ) :
    ŗ (Ŕ ρ) 135 [aa,Ä] [tI] x k=Ů x.1 x.2 k:=by kernel_rfl
def H6 (x:Val (.pair aV ay)) (k:Int→Option ρ) :
    ŗ (AA ρ) 147 [aV,ab,tI] [tI] x k=xB x.1 x.2.1 x.2.2 k:=by kernel_rfl
def Nz:(DB ρ).Ok (yq ρ):=⟨by kernel_rfl,fun p v kn kx=>by kernel_rfl⟩
def Ny:(Dz ρ).Ok (yq ρ):=⟨by kernel_rfl,fun p v kn kx=>by kernel_rfl⟩
def Ut (x:Val (.pair É (.pair Ô Ä))) (k:Int→Option ρ) :
    ŗ (yq ρ) 247 [É,Ô,tI,tI] [tI] x k=Q2 x.1 x.2.1 x.2.2.1 x.2.2.2 k:=by kernel_rfl
def zo (x:Val (.pair am ab)) (k:Val Ä→Option ρ) :
    ŗ (qY ρ) 261 [am,ab] [Ä] x k=nF x.1 x.2 k:=by kernel_rfl
def Kx:(Au ρ).Ok (Bu ρ):=⟨by kernel_rfl,fun p v kn kx=>by kernel_rfl⟩
def QL (x:Val aa) (k:Int→Option ρ) :
    ŗ (Bu ρ) 264 [aa] [tI] x k=Ky x k:=by kernel_rfl
def KA (x:Val Ä) (k:Val B7→Option ρ) :
    ŗ (Dl ρ) 312 [tI,tI] [Ä,tI] x k=Bv x.1 x.2 k:=by kernel_rfl
def WU (x:Val Ĕ) (k:Val B7→Option ρ) :
    ŗ (Uh ρ) 296 [Ä,Ä] [Ä,tI] x k=WV x.1 x.2 k:=by kernel_rfl
def FP (x:Val Ĕ) (k:Val Ä→Option ρ) :
    ŗ (xA ρ) 262 [Ä,Ä] [Ä] x k=uI x.1 x.2 k:=by kernel_rfl
def WR (x:Val Ĕ) (k:Int→Option ρ) :
    ŗ (Uf ρ) 320 [Ä,Ä] [tI] x k=WS x.1 x.2 k:=by kernel_rfl
def Dn (x:Val Ĕ) (k:Bool→Option ρ) :
    ŗ (vH ρ) 313 [Ĕ] [.bool] x k=rS x k:=by kernel_rfl
def WX (x:Val Ĕ) (k:Val B7→Option ρ) :
    ŗ (Uj ρ) 316 [Ä,Ä] [Ä,tI] x k=WY x.1 x.2 k:=by kernel_rfl
def QS (x:Val (.pair Ĕ Ä)) (k:Val abf→Option ρ) :
    ŗ (Bw ρ) 297 [Ĕ,Ä] [Ĕ,tI] x k=KI x.1 x.2 k:=by kernel_rfl
def FN (x:Val Ĕ) (k:Val Ĕ→Option ρ) :
    ŗ (xz ρ) 263 [Ä,Ä] [Ĕ] x k=uH x.1 x.2 k:=by kernel_rfl
def NI (x:Val aY) (k:Val Ĕ→Option ρ) :
    ŗ (G3 ρ) 215 [É,Ö] [Ĕ] x k=FS x.1 x.2 k:=by kernel_rfl
def Rb (x:Val aY) (k:Val Ä→Option ρ) :
    ŗ (KY ρ) 216 [É,Ö] [Ä] x k=KZ x.1 x.2 k:=by kernel_rfl
def QP (x:Val Ä) (k:Int→Option ρ) :
    ŗ (KC ρ) 265 [tI,tI] [tI] x k=KD x.1 x.2 k:=by kernel_rfl
def Um (x:Val Ä) (k:Val Ä→Option ρ) :
    ŗ (OS ρ) 217 [Ä] [tI,tI] x k=QV x k:=by kernel_rfl
def QU (x:Val Ä) (k:Val Ä→Option ρ) :
    ŗ (KJ ρ) 218 [Ä] [tI,tI] x k=KK x k:=by kernel_rfl
def Uo (x:Val aY) (k:Val Ä→Option ρ) :
    ŗ (OT ρ) 248 [É,Ö] [Ä] x k=QX x.1 x.2 k:=by kernel_rfl
def Nw:(Dv ρ).Ok (tq ρ):=⟨by kernel_rfl,fun p v kn kx=>by kernel_rfl⟩
def Nx:(Dx ρ).Ok (tq ρ):=⟨by kernel_rfl,fun p v kn kx=>by kernel_rfl⟩
def Nv:(Dt ρ).Ok (tq ρ):=⟨by kernel_rfl,fun p v kn kx=>by kernel_rfl⟩
def Ur (x:Val É) (k:(Val aV)→Option ρ) :
    ŗ (tq ρ) 132 [É] [aV] x k=Q0 x k:=by kernel_rfl
def NN (x:Val É) (k:(Val (.pair Í bg))→Option ρ) :
    ŗ (G4 ρ) 66 [É] [Í,aa,tI] x k=FW x k:=by kernel_rfl
def P0:(GM ρ).Ok (Ju ρ):=⟨by kernel_rfl,fun p v kn kx=>by kernel_rfl⟩
def Wp (x:Val aP) (k:Int→Option ρ) :
    ŗ (Ju ρ) 105 [Â,ag,tI,tI] [tI] x k=Wq x.1 x.2.1 x.2.2.1 x.2.2.2 k:=by kernel_rfl
def wO:(nO ρ).Ok (lM ρ):=⟨by kernel_rfl,fun p v kn kx=>by kernel_rfl⟩
def Bb (x:Val (.pair ab (.pair tI (.pair au aF)))) (k:(Val ab)→Option ρ) :
    ŗ (lM ρ) 183 [ab,tI,au,aF] [ab] x k=oZ x.1 x.2.1 x.2.2.1 x.2.2.2 k:=by kernel_rfl
def A9:(qy ρ).Ok (ũ ρ):=⟨by kernel_rfl,fun p v kn kx=>by kernel_rfl⟩
def A8:(qw ρ).Ok (ũ ρ):=⟨by kernel_rfl,fun p v kn kx=>by kernel_rfl⟩
def A7:(qu ρ).Ok (ũ ρ):=⟨by kernel_rfl,fun p v kn kx=>by kernel_rfl⟩
def A6:(qr ρ).Ok (ũ ρ):=⟨by kernel_rfl,fun p v kn kx=>by kernel_rfl⟩
def Ff (x:Val aG) (k:Val É→Option ρ) :
    ŗ (ũ ρ) 104 [Â,ag] [É] x k=t7 x.1 x.2 k:=by kernel_rfl
def T5 (x:Val (.pair Í tI)) (k:Bool→Option ρ) :
    ŗ (OG ρ) 196 [Í,tI] [.bool] x k=Qz x.1 x.2 k:=by kernel_rfl
def Kv:(As ρ).Ok (Bt ρ):=⟨by kernel_rfl,fun p v kn kx=>by kernel_rfl⟩
def QJ (x:Val Í) (k:Val Ä→Option ρ) :
    ŗ (Bt ρ) 126 [Í] [tI,tI] x k=Kw x k:=by kernel_rfl
def Dc:(tj ρ).Ok (Θ ρ):=⟨by kernel_rfl,fun p v kn kx=>by kernel_rfl⟩
def Db:(tf ρ).Ok (Θ ρ):=⟨by kernel_rfl,fun p v kn kx=>by kernel_rfl⟩
def C9:(ta ρ).Ok (Θ ρ):=⟨by kernel_rfl,fun p v kn kx=>by kernel_rfl⟩
def Da:(td ρ).Ok (Θ ρ):=⟨by kernel_rfl,fun p v kn kx=>by kernel_rfl⟩
def C8:(s9 ρ).Ok (Θ ρ):=⟨by kernel_rfl,fun p v kn kx=>by kernel_rfl⟩
def HQ (x:Val (.pair Í ao)) (k:(Val (.pair ab .bool))→Option ρ) :
    ŗ (Θ ρ) 127 [Í,ao] [ab,.bool] x k=xj x.1 x.2 k:=by kernel_rfl
def Dh (x:Val Í) (k:(Val aW)→Option ρ) :
    ŗ (vF ρ) 155 [Í] [.bool,tI] x k=rQ x k:=by kernel_rfl
def HD (x:Val aG) (k:Bool→Option ρ) :
    ŗ (zU ρ) 79 [Â,ag] [.bool] x k=wS x.1 x.2 k:=by kernel_rfl
def Hw:(wL ρ).Ok (qq ρ):=⟨by kernel_rfl,fun p v kn kx=>by kernel_rfl⟩
def Hx:(wN ρ).Ok (qq ρ):=⟨by kernel_rfl,fun p v kn kx=>by kernel_rfl⟩
def MB (x:Val aG) (k:Int→Option ρ) :
    ŗ (qq ρ) 116 [Â,ag] [tI] x k=Fc x.1 x.2 k:=by kernel_rfl
def By (x:Val tI) (k:Bool→Option ρ) :
    ŗ (tp ρ) 234 [tI] [.bool] x k=pw x k:=by kernel_rfl
def xy (x:Val Ä) (k:Int→Option ρ) :
    ŗ (pz ρ) 180 [tI,tI] [tI] x k=lX x.1 x.2 k:=by kernel_rfl
def MH (x:Val (.pair ag (.pair ag au))) (k:Int→Option ρ) :
    ŗ (GO ρ) 179 [ag,ag,au] [tI] x k=Fe x.1 x.2.1 x.2.2 k:=by kernel_rfl
def kd:(ż ρ).Ok (ð ρ):=⟨by kernel_rfl,fun p v kn kx=>by kernel_rfl⟩
def ke:(Ž ρ).Ok (ð ρ):=⟨by kernel_rfl,fun p v kn kx=>by kernel_rfl⟩
def lf (xs:(Val aj)) (x:Val Ä) (m:Val Â) (k:((Val aj))×(Val Â)→Option ρ) :
    tK (ð ρ) (ŧ (ð ρ) 10) [] 273 (AU ÿ x) (ji ÿ xs m) (I3 ÿ fun zs m2=>k (zs,m2))=ş xs x.1 x.2 m k:=by kernel_rfl
def po:(jg ρ).Ok (ú ρ):=⟨by kernel_rfl,fun p v kn kx=>by kernel_rfl⟩
def pn:(jf ρ).Ok (ú ρ):=⟨by kernel_rfl,fun p v kn kx=>by kernel_rfl⟩
def pp:(jh ρ).Ok (ú ρ):=⟨by kernel_rfl,fun p v kn kx=>by kernel_rfl⟩
def pm:(je ρ).Ok (ú ρ):=⟨by kernel_rfl,fun p v kn kx=>by kernel_rfl⟩
def rN (xs:(Val aj)) (x:Val Ō) (m:Val Â) (k:((Val aj))×(Val Â)→Option ρ) :
    tK (ú ρ) (ŧ (ú ρ) 10) [] 300 (AU ĩ x) (ji ĩ xs m) (I3 ĩ fun zs m2=>k (zs,m2))=iJ xs x.1 x.2.1 x.2.2 m k:=by kernel_rfl
def mQ {rec:(Val aj)→Int→Int→Int→(Val Â)→Option ((Val aj)×(Val Â))}:(((ġ (Ç rec ρ).P 274).elim [] (Ü 0)).filter fun y=>Nat.beq y.1 0).length=1:=by kernel_rfl
def mR {rec:(Val aj)→Int→Int→Int→(Val Â)→Option ((Val aj)×(Val Â))} (p:Val aw) (v:Val Ä) (kn:Val aw→Val Ä→Option ρ) (kx:(i:Nat)→Val aw→Val (tyL (Ą.zs i))→Option ρ) :
    goC (Ç rec ρ) (ŧ (Ç rec ρ) (10-0 / 2)) 274 [] 2 0 (tr (ġ (Ç rec ρ).P 274) 0) (ô Ą.head Ą.cs Ą.vs p v) (EK Ą kn kx)=(Ş rec ρ).bF p v (kn p) (fun i=>kx i p):=by kernel_rfl
def nB {rec:(Val aj)→Int→Int→Int→(Val Â)→Option ((Val aj)×(Val Â))}:(Ş rec ρ).Ok (Ç rec ρ):=⟨mQ,mR⟩
def mO {rec:(Val aj)→Int→Int→Int→(Val Â)→Option ((Val aj)×(Val Â))}:(((ġ (Ç rec ρ).P 274).elim [] (Ü 0)).filter fun y=>Nat.beq y.1 2).length=1:=by kernel_rfl
def mP {rec:(Val aj)→Int→Int→Int→(Val Â)→Option ((Val aj)×(Val Â))} (p:Val aD) (v:Val aB) (kn:Val aD→Val aB→Option ρ) (kx:(i:Nat)→Val aD→Val (tyL (ă.zs i))→Option ρ) :
    goC (Ç rec ρ) (ŧ (Ç rec ρ) (10-0 / 2)) 274 [] 2 2 (tr (ġ (Ç rec ρ).P 274) 2) (ô ă.head ă.cs ă.vs p v) (EK ă kn kx)=(ŝ rec ρ).bF p v (kn p) (fun i=>kx i p):=by kernel_rfl
def nA {rec:(Val aj)→Int→Int→Int→(Val Â)→Option ((Val aj)×(Val Â))}:(ŝ rec ρ).Ok (Ç rec ρ):=⟨mO,mP⟩
def mM {rec:(Val aj)→Int→Int→Int→(Val Â)→Option ((Val aj)×(Val Â))}:(((ġ (Ç rec ρ).P 274).elim [] (Ü 0)).filter fun y=>Nat.beq y.1 4).length=1:=by kernel_rfl
def mN {rec:(Val aj)→Int→Int→Int→(Val Â)→Option ((Val aj)×(Val Â))} (p:Val aw) (v:Val Ä) (kn:Val aw→Val Ä→Option ρ) (kx:(i:Nat)→Val aw→Val (tyL (Ă.zs i))→Option ρ) :
    goC (Ç rec ρ) (ŧ (Ç rec ρ) (10-0 / 2)) 274 [] 2 4 (tr (ġ (Ç rec ρ).P 274) 4) (ô Ă.head Ă.cs Ă.vs p v) (EK Ă kn kx)=(Ŝ rec ρ).bF p v (kn p) (fun i=>kx i p):=by kernel_rfl
def nz {rec:(Val aj)→Int→Int→Int→(Val Â)→Option ((Val aj)×(Val Â))}:(Ŝ rec ρ).Ok (Ç rec ρ):=⟨mM,mN⟩
def mK {rec:(Val aj)→Int→Int→Int→(Val Â)→Option ((Val aj)×(Val Â))}:(((ġ (Ç rec ρ).P 274).elim [] (Ü 0)).filter fun y=>Nat.beq y.1 6).length=1:=by kernel_rfl
def mL {rec:(Val aj)→Int→Int→Int→(Val Â)→Option ((Val aj)×(Val Â))} (p:Val aD) (v:Val aB) (kn:Val aD→Val aB→Option ρ) (kx:(i:Nat)→Val aD→Val (tyL (ā.zs i))→Option ρ) :
    goC (Ç rec ρ) (ŧ (Ç rec ρ) (10-0 / 2)) 274 [] 2 6 (tr (ġ (Ç rec ρ).P 274) 6) (ô ā.head ā.cs ā.vs p v) (EK ā kn kx)=(ś rec ρ).bF p v (kn p) (fun i=>kx i p):=by kernel_rfl
def ny {rec:(Val aj)→Int→Int→Int→(Val Â)→Option ((Val aj)×(Val Â))}:(ś rec ρ).Ok (Ç rec ρ):=⟨mK,mL⟩
def mI {rec:(Val aj)→Int→Int→Int→(Val Â)→Option ((Val aj)×(Val Â))}:(((ġ (Ç rec ρ).P 274).elim [] (Ü 0)).filter fun y=>Nat.beq y.1 8).length=1:=by kernel_rfl
def mJ {rec:(Val aj)→Int→Int→Int→(Val Â)→Option ((Val aj)×(Val Â))} (p:Val aO) (v:Val Ä) (kn:Val aO→Val Ä→Option ρ) (kx:(i:Nat)→Val aO→Val (tyL (Ā.zs i))→Option ρ) :
    goC (Ç rec ρ) (ŧ (Ç rec ρ) (10-0 / 2)) 274 [] 2 8 (tr (ġ (Ç rec ρ).P 274) 8) (ô Ā.head Ā.cs Ā.vs p v) (EK Ā kn kx)=(Ś rec ρ).bF p v (kn p) (fun i=>kx i p):=by kernel_rfl
def nw {rec:(Val aj)→Int→Int→Int→(Val Â)→Option ((Val aj)×(Val Â))}:(Ś rec ρ).Ok (Ç rec ρ):=⟨mI,mJ⟩
def ph {rec:(Val aj)→Int→Int→Int→(Val Â)→Option ((Val aj)×(Val Â))} (F:(Val aj)→Val Ō→Val Â→Option ((Val aj)×Val Â)) (xs:(Val aj)) (x:Val Ō) (m:Val Â) (k:((Val aj))×(Val Â)→Option ρ) :
    tK (Ç rec ρ) (ŧ (Ç rec ρ) 10) [] 274 (AU ⟨ag,[tI,tI,tI],179,Â,F⟩ x) (ji ⟨ag,[tI,tI,tI],179,Â,F⟩ xs m) (I3 ⟨ag,[tI,tI,tI],179,Â,F⟩ fun zs m2=>k (zs,m2))=Ġ rec xs x.1 x.2.1 x.2.2 m k:=by kernel_rfl
def pl:(jd ρ).Ok (Ď ρ):=⟨by kernel_rfl,fun p v kn kx=>by kernel_rfl⟩
def pj:(jb ρ).Ok (Ď ρ):=⟨by kernel_rfl,fun p v kn kx=>by kernel_rfl⟩
def pk:(jc ρ).Ok (Ď ρ):=⟨by kernel_rfl,fun p v kn kx=>by kernel_rfl⟩
def rM (xs:(Val aj)) (x:Val tI) (m:Val Â) (k:((Val aj))×(Val Â)→Option ρ) :
    tK (Ď ρ) (ŧ (Ď ρ) 10) [] 233 (AU ě x) (ji ě xs m) (I3 ě fun zs m2=>k (zs,m2))=iI xs x m k:=by kernel_rfl
def JQ:(((ġ (δ ρ).P 230).elim [] (Ü 0)).filter fun y=>Nat.beq y.1 0).length=1:=by kernel_rfl
def MS:Pz (lC (ġ (δ ρ).P 230) 0)=true:=by kernel_rfl
def MQ (p:Val ax) (v v':Val aj):(ô kr [tI,tI,ae,aa,af,ac,aa,ai,tI,tI,ae,aa,af,ac,aa,ai] [aj] p v').t=(ô kr [tI,tI,ae,aa,af,ac,aa,ai,tI,tI,ae,aa,af,ac,aa,ai] [aj] p v).t:=by kernel_rfl
def MR (p:Val ax) (v:Val aj):(ô kr [tI,tI,ae,aa,af,ac,aa,ai,tI,tI,ae,aa,af,ac,aa,ai] [aj] p v).t.all (st3 4)=true:=by kernel_rfl
def JR (p:Val ax) (v:Val aj) (y:(Val ag)) (kn:Val ax→Val aj→Option ρ):zA (δ ρ) (ŧ (δ ρ) (10-6 / 2)) 230 [1,1,1,3,1,1] 4 0 (lC (ġ (δ ρ).P 230) 0) (ô kr [tI,tI,ae,aa,af,ac,aa,ai,tI,tI,ae,aa,af,ac,aa,ai] [aj] p v) (enc ag y) ((og ρ).back kn)=(og ρ).bF p v y (kn p):=by kernel_rfl
def MT (hit:jB Tryz.prog pD):(og ρ).Ok (δ ρ):=⟨JQ,hit,MQ,MR,JR⟩
def MV:(CM ρ).Ok (δ ρ):=⟨by kernel_rfl,fun p v kn kx=>by kernel_rfl⟩
def MU:(CJ ρ).Ok (δ ρ):=⟨by kernel_rfl,fun p v kn kx=>by kernel_rfl⟩
def TO (x:Val Â) (k:(Val aj)→Option ρ) :
    ŗ (δ ρ) 81 [Â] [aj] x k=Qb x k:=by kernel_rfl
def WE (x:Val Â) (k:(Val (.pair aj tI))→Option ρ) :
    ŗ (T0 ρ) 19 [Â] [aj,tI] x k=WF x k:=by kernel_rfl
def Jy:(((ġ (iW ρ).P 230).elim [] (Ü 0)).filter fun y=>Nat.beq y.1 0).length=1:=by kernel_rfl
def ME:Pz (lC (ġ (iW ρ).P 230) 0)=true:=by kernel_rfl
def MC (p:Val ah) (v v':Val aj):(ô kq [tI,tI,ae,aa,af,ac,aa,ai] [aj] p v').t=(ô kq [tI,tI,ae,aa,af,ac,aa,ai] [aj] p v).t:=by kernel_rfl
def MD (p:Val ah) (v:Val aj):(ô kq [tI,tI,ae,aa,af,ac,aa,ai] [aj] p v).t.all (st3 3)=true:=by kernel_rfl
def Jz (p:Val ah) (v:Val aj) (y:(Val ag)) (kn:Val ah→Val aj→Option ρ):zA (iW ρ) (ŧ (iW ρ) (10-4 / 2)) 230 [1,3,1,1] 3 0 (lC (ġ (iW ρ).P 230) 0) (ô kq [tI,tI,ae,aa,af,ac,aa,ai] [aj] p v) (enc ag y) ((oe ρ).back kn)=(oe ρ).bF p v y (kn p):=by kernel_rfl
def MF (hit:jB Tryz.prog pD):(oe ρ).Ok (iW ρ):=⟨Jy,hit,MC,MD,Jz⟩
def TI (x:Val Â) (k:(Val aj)→Option ρ) :
    ŗ (iW ρ) 96 [Â] [aj] x k=P3 x k:=by kernel_rfl
def Bj:(qC ρ).Ok (pb ρ):=⟨by kernel_rfl,fun p v kn kx=>by kernel_rfl⟩
def Fk (x:Val Â) (k:(Val (.pair ag .bool))→Option ρ) :
    ŗ (pb ρ) 82 [Â] [ag,.bool] x k=ue x k:=by kernel_rfl
def Qm (x:Val Â) (k:(Val bc)→Option ρ) :
    ŗ (J1 ρ) 20 [Â] [ag,tI] x k=J2 x k:=by kernel_rfl
def Bp:(qQ ρ).Ok (pv ρ):=⟨by kernel_rfl,fun p v kn kx=>by kernel_rfl⟩
def Fz (x:Val (.pair ab ab)) (k:Bool→Option ρ) :
    ŗ (pv ρ) 35 [ab,ab] [.bool] x k=uw x.1 x.2 k:=by kernel_rfl
def C3:(s8 ρ).Ok (rO ρ):=⟨by kernel_rfl,fun p v kn kx=>by kernel_rfl⟩
def HN (x:Val (.pair ag ag)) (k:Bool→Option ρ) :
    ŗ (rO ρ) 26 [ag,ag] [.bool] x k=xi x.1 x.2 k:=by kernel_rfl
def JB:(zK ρ).Ok (Bh ρ):=⟨by kernel_rfl,fun p v kn kx=>by kernel_rfl⟩
def P7 (x:Val aZ) (k:Int→Option ρ) :
    ŗ (Bh ρ) 88 [Â,tI,tI] [tI] x k=JC x.1 x.2.1 x.2.2 k:=by kernel_rfl
def NR (x:Val (.pair ab ab)) (k:(Val (.pair ab ay))→Option ρ) :
    ŗ (G5 ρ) 91 [ab,ab] [ab,ab,tI] x k=FY x.1 x.2 k:=by kernel_rfl
def Bm:(qH ρ).Ok (ks ρ):=⟨by kernel_rfl,fun p v kn kx=>by kernel_rfl⟩
def Bl:(qF ρ).Ok (ks ρ):=⟨by kernel_rfl,fun p v kn kx=>by kernel_rfl⟩
def Fp (x:Val (.pair Â tI)) (k:(Val aW)→Option ρ) :
    ŗ (ks ρ) 28 [Â,tI] [.bool,tI] x k=ug x.1 x.2 k:=by kernel_rfl
def MJ:(CG ρ).Ok (ym ρ):=⟨by kernel_rfl,fun p v kn kx=>by kernel_rfl⟩
def MI:(CE ρ).Ok (ym ρ):=⟨by kernel_rfl,fun p v kn kx=>by kernel_rfl⟩
def TK (x:Val (.pair Â ab)) (k:Val Â→Option ρ) :
    ŗ (ym ρ) 87 [Â,ab] [Â] x k=P4 x.1 x.2 k:=by kernel_rfl
def M7:(C0 ρ).Ok (yn ρ):=⟨by kernel_rfl,fun p v kn kx=>by kernel_rfl⟩
def M6:(CZ ρ).Ok (yn ρ):=⟨by kernel_rfl,fun p v kn kx=>by kernel_rfl⟩
def TY (x:Val Â) (k:(Val ay)→Option ρ) :
    ŗ (yn ρ) 29 [Â] [ab,tI] x k=Qs x k:=by kernel_rfl
def HF:(wX ρ).Ok (wY ρ):=⟨by kernel_rfl,fun p v kn kx=>by kernel_rfl⟩
def MX (x:Val ay) (k:(Val ab)→Option ρ) :
    ŗ (wY ρ) 98 [ab,tI] [ab] x k=Fm x.1 x.2 k:=by kernel_rfl
def CX:(sL ρ).Ok (Ĵ ρ):=⟨by kernel_rfl,fun p v kn kx=>by kernel_rfl⟩
def CY:(sN ρ).Ok (Ĵ ρ):=⟨by kernel_rfl,fun p v kn kx=>by kernel_rfl⟩
def CW:(sJ ρ).Ok (Ĵ ρ):=⟨by kernel_rfl,fun p v kn kx=>by kernel_rfl⟩
def CV:(sH ρ).Ok (Ĵ ρ):=⟨by kernel_rfl,fun p v kn kx=>by kernel_rfl⟩
def CT:(sw ρ).Ok (Ĵ ρ):=⟨by kernel_rfl,fun p v kn kx=>by kernel_rfl⟩
def CS:(su ρ).Ok (Ĵ ρ):=⟨by kernel_rfl,fun p v kn kx=>by kernel_rfl⟩
def CQ:(sq ρ).Ok (Ĵ ρ):=⟨by kernel_rfl,fun p v kn kx=>by kernel_rfl⟩
def CU:(sF ρ).Ok (Ĵ ρ):=⟨by kernel_rfl,fun p v kn kx=>by kernel_rfl⟩
def HJ (x:Val (.pair Â ab)) (k:(Val ay)→Option ρ) :
    ŗ (Ĵ ρ) 30 [Â,ab] [ab,tI] x k=xa x.1 x.2 k:=by kernel_rfl
def TT (x:Val Â) (k:(Val (.pair aj tI))→Option ρ) :
    ŗ (OE ρ) 40 [Â] [aj,tI] x k=Qi x k:=by kernel_rfl
def Rl (x:Val aK) (k:Val Ä→Option ρ) :
    ŗ (K5 ρ) 68 [É,Ä] [tI,tI] x k=K6 x.1 x.2 k:=by kernel_rfl
def NP:(DN ρ).Ok (FX ρ):=⟨by kernel_rfl,fun p v kn kx=>by kernel_rfl⟩
def UE (x:Val aK) (k:(Val (.pair É tI))→Option ρ) :
    ŗ (FX ρ) 69 [É,Ä] [É,tI] x k=Rj x.1 x.2 k:=by kernel_rfl
def Kk:(Ae ρ).Ok (Bs ρ):=⟨by kernel_rfl,fun p v kn kx=>by kernel_rfl⟩
def QD (x:Val bm) (k:Int→Option ρ) :
    ŗ (Bs ρ) 133 [Í,ab] [tI] x k=Kl x.1 x.2 k:=by kernel_rfl
end Go.Proofs.ZzM
end
