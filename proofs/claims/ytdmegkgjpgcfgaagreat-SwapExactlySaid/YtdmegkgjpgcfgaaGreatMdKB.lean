/- lemmas -/
import Derived.Test.YtdmegkgjpgcfgaaGreatMdMA
set_option linter.all false
set_option linter.unusedSectionVars false
set_option linter.unusedVariables false
set_option linter.unusedSimpArgs false
noncomputable section
variable {ρ:Type}
set_option maxRecDepth 100000
namespace Go.Proofs.ZzM
open Go Go.Am
def Hn:(wQ ρ).Ok (qw ρ):=⟨by kernel_rfl,fun p v kn kx=>by kernel_rfl⟩
def Hm:(wO ρ).Ok (qw ρ):=⟨by kernel_rfl,fun p v kn kx=>by kernel_rfl⟩
def Mz (x:Val Â) (k:Bool→Option ρ) :
    Ś (qw ρ) 15 [Â] [.bool] x k=EY x k:=by kernel_rfl
def Ho:(wS ρ).Ok (wT ρ):=⟨by kernel_rfl,fun p v kn kx=>by kernel_rfl⟩
def MC (x:Val aZ) (k:Bool→Option ρ) :
    Ś (wT ρ) 16 [af,tI] [.bool] x k=EZ x.1 x.2 k:=by kernel_rfl
def K4:(AM ρ).Ok (BP ρ):=⟨by kernel_rfl,fun p v kn kx=>by kernel_rfl⟩
def Rf (x:Val (.pair É ŏ)) (k:Int→Option ρ) :
    Ś (BP ρ) 269 [É,tI,aa] [tI] x k=K5 x.1 x.2.1 x.2.2 k:=by kernel_rfl
def UI (x:Val aK) (k:(Val aG)→Option ρ) :
    Ś (OV ρ) 226 [É,tI,tI] [.bool,tI] x k=Rm x.1 x.2.1 x.2.2 k:=by kernel_rfl
def JU:(Af ρ).Ok (jS ρ):=⟨by kernel_rfl,fun p v kn kx=>by kernel_rfl⟩
def JT:(Ad ρ).Ok (jS ρ):=⟨by kernel_rfl,fun p v kn kx=>by kernel_rfl⟩
def JS:(Ac ρ).Ok (jS ρ):=⟨by kernel_rfl,fun p v kn kx=>by kernel_rfl⟩
def JR:(Ab ρ).Ok (jS ρ):=⟨by kernel_rfl,fun p v kn kx=>by kernel_rfl⟩
def JQ:(Aa ρ).Ok (jS ρ):=⟨by kernel_rfl,fun p v kn kx=>by kernel_rfl⟩
def Qd (x:Val (.pair É (.pair ai tI))) (k:Int→Option ρ) :
    Ś (jS ρ) 156 [É,ai,tI] [tI] x k=JV x.1 x.2.1 x.2.2 k:=by kernel_rfl
def J9:(Ak ρ).Ok (uB ρ):=⟨by kernel_rfl,fun p v kn kx=>by kernel_rfl⟩
def Ka:(Al ρ).Ok (uB ρ):=⟨by kernel_rfl,fun p v kn kx=>by kernel_rfl⟩
def Qs (x:Val Â) (k:Int→Option ρ) :
    Ś (uB ρ) 80 [Â] [tI] x k=Kc x k:=by kernel_rfl
def kG:(Φ ρ).Ok (ś ρ):=⟨by kernel_rfl,fun p v kn kx=>by kernel_rfl⟩
def lZ (x:Val (.pair ab Ä)) (k:Int→Option ρ) :
    Ś (ś ρ) 135 [ab,Ä] [tI] x k=ŵ x.1 x.2 k:=by kernel_rfl
def H9 (x:Val (.pair aD aw)) (k:Int→Option ρ) :
    Ś (AK ρ) 147 [aD,aa,tI] [tI] x k=xQ x.1 x.2.1 x.2.2 k:=by kernel_rfl
def Ny:(DH ρ).Ok (yJ ρ):=⟨by kernel_rfl,fun p v kn kx=>by kernel_rfl⟩
def Nx:(DF ρ).Ok (yJ ρ):=⟨by kernel_rfl,fun p v kn kx=>by kernel_rfl⟩
def Us (x:Val (.pair É (.pair Õ Ä))) (k:Int→Option ρ) :
    Ś (yJ ρ) 247 [É,Õ,tI,tI] [tI] x k=QZ x.1 x.2.1 x.2.2.1 x.2.2.2 k:=by kernel_rfl
def zF (x:Val (.pair am aa)) (k:Val Ä→Option ρ) :
    Ś (qY ρ) 261 [am,aa] [Ä] x k=nP x.1 x.2 k:=by kernel_rfl
def Ky:(AF ρ).Ok (BA ρ):=⟨by kernel_rfl,fun p v kn kx=>by kernel_rfl⟩
def QJ (x:Val ab) (k:Int→Option ρ) :
    Ś (BA ρ) 264 [ab] [tI] x k=Kz x k:=by kernel_rfl
def KB (x:Val Ä) (k:Val Cb→Option ρ) :
    Ś (Dq ρ) 312 [tI,tI] [Ä,tI] x k=BB x.1 x.2 k:=by kernel_rfl
def W5 (x:Val Ĕ) (k:Val Cb→Option ρ) :
    Ś (Ug ρ) 296 [Ä,Ä] [Ä,tI] x k=W6 x.1 x.2 k:=by kernel_rfl
def FH (x:Val Ĕ) (k:Val Ä→Option ρ) :
    Ś (xN ρ) 262 [Ä,Ä] [Ä] x k=uS x.1 x.2 k:=by kernel_rfl
def WY (x:Val Ĕ) (k:Int→Option ρ) :
    Ś (Ue ρ) 320 [Ä,Ä] [tI] x k=WZ x.1 x.2 k:=by kernel_rfl
def Ds (x:Val Ĕ) (k:Bool→Option ρ) :
    Ś (vO ρ) 313 [Ĕ] [.bool] x k=rY x k:=by kernel_rfl
def W8 (x:Val Ĕ) (k:Val Cb→Option ρ) :
    Ś (Ui ρ) 316 [Ä,Ä] [Ä,tI] x k=W9 x.1 x.2 k:=by kernel_rfl
def QQ (x:Val (.pair Ĕ Ä)) (k:Val abq→Option ρ) :
    Ś (BC ρ) 297 [Ĕ,Ä] [Ĕ,tI] x k=KJ x.1 x.2 k:=by kernel_rfl
def FF (x:Val Ĕ) (k:Val Ĕ→Option ρ) :
    Ś (xM ρ) 263 [Ä,Ä] [Ĕ] x k=uR x.1 x.2 k:=by kernel_rfl
def NH (x:Val aX) (k:Val Ĕ→Option ρ) :
    Ś (GY ρ) 215 [É,â] [Ĕ] x k=FL x.1 x.2 k:=by kernel_rfl
def Q9 (x:Val aX) (k:Val Ä→Option ρ) :
    Ś (KZ ρ) 216 [É,â] [Ä] x k=K3 x.1 x.2 k:=by kernel_rfl
def QN (x:Val Ä) (k:Int→Option ρ) :
    Ś (KD ρ) 265 [tI,tI] [tI] x k=KE x.1 x.2 k:=by kernel_rfl
def Ul (x:Val Ä) (k:Val Ä→Option ρ) :
    Ś (OS ρ) 217 [Ä] [tI,tI] x k=QT x k:=by kernel_rfl
def QS (x:Val Ä) (k:Val Ä→Option ρ) :
    Ś (KK ρ) 218 [Ä] [tI,tI] x k=KL x k:=by kernel_rfl
def Un (x:Val aX) (k:Val Ä→Option ρ) :
    Ś (OT ρ) 248 [É,â] [Ä] x k=QV x.1 x.2 k:=by kernel_rfl
def Nv:(DB ρ).Ok (tC ρ):=⟨by kernel_rfl,fun p v kn kx=>by kernel_rfl⟩
def Nw:(DD ρ).Ok (tC ρ):=⟨by kernel_rfl,fun p v kn kx=>by kernel_rfl⟩
def Nu:(Dz ρ).Ok (tC ρ):=⟨by kernel_rfl,fun p v kn kx=>by kernel_rfl⟩
def Uq (x:Val É) (k:(Val aD)→Option ρ) :
    Ś (tC ρ) 132 [É] [aD] x k=QY x k:=by kernel_rfl
def NM (x:Val É) (k:(Val (.pair Ë bf))→Option ρ) :
    Ś (GZ ρ) 66 [É] [Ë,ab,tI] x k=FP x k:=by kernel_rfl
def P3:(GJ ρ).Ok (JC ρ):=⟨by kernel_rfl,fun p v kn kx=>by kernel_rfl⟩
def Wv (x:Val ba) (k:Int→Option ρ) :
    Ś (JC ρ) 105 [Â,af,tI,tI] [tI] x k=Ww x.1 x.2.1 x.2.2.1 x.2.2.2 k:=by kernel_rfl
def wX:(nZ ρ).Ok (lQ ρ):=⟨by kernel_rfl,fun p v kn kx=>by kernel_rfl⟩
def Bl (x:Val (.pair aa (.pair tI (.pair ar aH)))) (k:(Val aa)→Option ρ) :
    Ś (lQ ρ) 183 [aa,tI,ar,aH] [aa] x k=pj x.1 x.2.1 x.2.2.1 x.2.2.2 k:=by kernel_rfl
def Bj:(qE ρ).Ok (Ű ρ):=⟨by kernel_rfl,fun p v kn kx=>by kernel_rfl⟩
def Bi:(qC ρ).Ok (Ű ρ):=⟨by kernel_rfl,fun p v kn kx=>by kernel_rfl⟩
def Bh:(qA ρ).Ok (Ű ρ):=⟨by kernel_rfl,fun p v kn kx=>by kernel_rfl⟩
def Bg:(qy ρ).Ok (Ű ρ):=⟨by kernel_rfl,fun p v kn kx=>by kernel_rfl⟩
def E6 (x:Val aI) (k:Val É→Option ρ) :
    Ś (Ű ρ) 104 [Â,af] [É] x k=uq x.1 x.2 k:=by kernel_rfl
def T2 (x:Val (.pair Ë tI)) (k:Bool→Option ρ) :
    Ś (OG ρ) 196 [Ë,tI] [.bool] x k=Qv x.1 x.2 k:=by kernel_rfl
def Kw:(AE ρ).Ok (Bz ρ):=⟨by kernel_rfl,fun p v kn kx=>by kernel_rfl⟩
def QH (x:Val Ë) (k:Val Ä→Option ρ) :
    Ś (Bz ρ) 126 [Ë] [tI,tI] x k=Kx x k:=by kernel_rfl
def De:(tx ρ).Ok (Ο ρ):=⟨by kernel_rfl,fun p v kn kx=>by kernel_rfl⟩
def Dc:(tr ρ).Ok (Ο ρ):=⟨by kernel_rfl,fun p v kn kx=>by kernel_rfl⟩
def Da:(tk ρ).Ok (Ο ρ):=⟨by kernel_rfl,fun p v kn kx=>by kernel_rfl⟩
def Db:(tq ρ).Ok (Ο ρ):=⟨by kernel_rfl,fun p v kn kx=>by kernel_rfl⟩
def C9:(tj ρ).Ok (Ο ρ):=⟨by kernel_rfl,fun p v kn kx=>by kernel_rfl⟩
def HS (x:Val (.pair Ë ao)) (k:(Val (.pair aa .bool))→Option ρ) :
    Ś (Ο ρ) 127 [Ë,ao] [aa,.bool] x k=xx x.1 x.2 k:=by kernel_rfl
def Dl (x:Val Ë) (k:(Val aG)→Option ρ) :
    Ś (vM ρ) 155 [Ë] [.bool,tI] x k=rW x k:=by kernel_rfl
def HA (x:Val aI) (k:Bool→Option ρ) :
    Ś (Ah ρ) 79 [Â,af] [.bool] x k=xb x.1 x.2 k:=by kernel_rfl
def Ht:(wU ρ).Ok (qx ρ):=⟨by kernel_rfl,fun p v kn kx=>by kernel_rfl⟩
def Hu:(wW ρ).Ok (qx ρ):=⟨by kernel_rfl,fun p v kn kx=>by kernel_rfl⟩
def ME (x:Val aI) (k:Int→Option ρ) :
    Ś (qx ρ) 116 [Â,af] [tI] x k=E4 x.1 x.2 k:=by kernel_rfl
def BF (x:Val tI) (k:Bool→Option ρ) :
    Ś (tB ρ) 234 [tI] [.bool] x k=pF x k:=by kernel_rfl
def xL (x:Val Ä) (k:Int→Option ρ) :
    Ś (pG ρ) 180 [tI,tI] [tI] x k=l6 x.1 x.2 k:=by kernel_rfl
def MK (x:Val (.pair af (.pair af ar))) (k:Int→Option ρ) :
    Ś (GM ρ) 179 [af,af,ar] [tI] x k=E5 x.1 x.2.1 x.2.2 k:=by kernel_rfl
def kj:(Θ ρ).Ok (ð ρ):=⟨by kernel_rfl,fun p v kn kx=>by kernel_rfl⟩
def km:(Ι ρ).Ok (ð ρ):=⟨by kernel_rfl,fun p v kn kx=>by kernel_rfl⟩
def lg (xs:(Val aj)) (x:Val Ä) (m:Val Â) (k:((Val aj))×(Val Â)→Option ρ) :
    tS (ð ρ) (Ů (ð ρ) 10) [] 273 (A5 þ x) (jm þ xs m) (I4 þ fun zs m2=>k (zs,m2))=ť xs x.1 x.2 m k:=by kernel_rfl
def pA:(jj ρ).Ok (ù ρ):=⟨by kernel_rfl,fun p v kn kx=>by kernel_rfl⟩
def pz:(ji ρ).Ok (ù ρ):=⟨by kernel_rfl,fun p v kn kx=>by kernel_rfl⟩
def pB:(jk ρ).Ok (ù ρ):=⟨by kernel_rfl,fun p v kn kx=>by kernel_rfl⟩
def pw:(jh ρ).Ok (ù ρ):=⟨by kernel_rfl,fun p v kn kx=>by kernel_rfl⟩
def rU (xs:(Val aj)) (x:Val Œ) (m:Val Â) (k:((Val aj))×(Val Â)→Option ρ) :
    tS (ù ρ) (Ů (ù ρ) 10) [] 300 (A5 ħ x) (jm ħ xs m) (I4 ħ fun zs m2=>k (zs,m2))=iJ xs x.1 x.2.1 x.2.2 m k:=by kernel_rfl
def mW {rec:(Val aj)→Int→Int→Int→(Val Â)→Option ((Val aj)×(Val Â))}:(((Ġ (Æ rec ρ).P 274).elim [] (Û 0)).filter fun y=>Nat.beq y.1 0).length=1:=by kernel_rfl
def mX {rec:(Val aj)→Int→Int→Int→(Val Â)→Option ((Val aj)×(Val Â))} (p:Val au) (v:Val Ä) (kn:Val au→Val Ä→Option ρ) (kx:(i:Nat)→Val au→Val (tyL (ă.zs i))→Option ρ) :
    goC (Æ rec ρ) (Ů (Æ rec ρ) (10-0 / 2)) 274 [] 2 0 (tD (Ġ (Æ rec ρ).P 274) 0) (ñ ă.head ă.cs ă.vs p v) (EI ă kn kx)=(Ť rec ρ).bF p v (kn p) (fun i=>kx i p):=by kernel_rfl
def nO {rec:(Val aj)→Int→Int→Int→(Val Â)→Option ((Val aj)×(Val Â))}:(Ť rec ρ).Ok (Æ rec ρ):=⟨mW,mX⟩
def mU {rec:(Val aj)→Int→Int→Int→(Val Â)→Option ((Val aj)×(Val Â))}:(((Ġ (Æ rec ρ).P 274).elim [] (Û 0)).filter fun y=>Nat.beq y.1 2).length=1:=by kernel_rfl
def mV {rec:(Val aj)→Int→Int→Int→(Val Â)→Option ((Val aj)×(Val Â))} (p:Val az) (v:Val aB) (kn:Val az→Val aB→Option ρ) (kx:(i:Nat)→Val az→Val (tyL (Ă.zs i))→Option ρ) :
    goC (Æ rec ρ) (Ů (Æ rec ρ) (10-0 / 2)) 274 [] 2 2 (tD (Ġ (Æ rec ρ).P 274) 2) (ñ Ă.head Ă.cs Ă.vs p v) (EI Ă kn kx)=(ţ rec ρ).bF p v (kn p) (fun i=>kx i p):=by kernel_rfl
def nN {rec:(Val aj)→Int→Int→Int→(Val Â)→Option ((Val aj)×(Val Â))}:(ţ rec ρ).Ok (Æ rec ρ):=⟨mU,mV⟩
def mS {rec:(Val aj)→Int→Int→Int→(Val Â)→Option ((Val aj)×(Val Â))}:(((Ġ (Æ rec ρ).P 274).elim [] (Û 0)).filter fun y=>Nat.beq y.1 4).length=1:=by kernel_rfl
def mT {rec:(Val aj)→Int→Int→Int→(Val Â)→Option ((Val aj)×(Val Â))} (p:Val au) (v:Val Ä) (kn:Val au→Val Ä→Option ρ) (kx:(i:Nat)→Val au→Val (tyL (ā.zs i))→Option ρ) :
    goC (Æ rec ρ) (Ů (Æ rec ρ) (10-0 / 2)) 274 [] 2 4 (tD (Ġ (Æ rec ρ).P 274) 4) (ñ ā.head ā.cs ā.vs p v) (EI ā kn kx)=(Ţ rec ρ).bF p v (kn p) (fun i=>kx i p):=by kernel_rfl
def nM {rec:(Val aj)→Int→Int→Int→(Val Â)→Option ((Val aj)×(Val Â))}:(Ţ rec ρ).Ok (Æ rec ρ):=⟨mS,mT⟩
def mQ {rec:(Val aj)→Int→Int→Int→(Val Â)→Option ((Val aj)×(Val Â))}:(((Ġ (Æ rec ρ).P 274).elim [] (Û 0)).filter fun y=>Nat.beq y.1 6).length=1:=by kernel_rfl
def mR {rec:(Val aj)→Int→Int→Int→(Val Â)→Option ((Val aj)×(Val Â))} (p:Val az) (v:Val aB) (kn:Val az→Val aB→Option ρ) (kx:(i:Nat)→Val az→Val (tyL (Ā.zs i))→Option ρ) :
    goC (Æ rec ρ) (Ů (Æ rec ρ) (10-0 / 2)) 274 [] 2 6 (tD (Ġ (Æ rec ρ).P 274) 6) (ñ Ā.head Ā.cs Ā.vs p v) (EI Ā kn kx)=(š rec ρ).bF p v (kn p) (fun i=>kx i p):=by kernel_rfl
def nJ {rec:(Val aj)→Int→Int→Int→(Val Â)→Option ((Val aj)×(Val Â))}:(š rec ρ).Ok (Æ rec ρ):=⟨mQ,mR⟩
def mO {rec:(Val aj)→Int→Int→Int→(Val Â)→Option ((Val aj)×(Val Â))}:(((Ġ (Æ rec ρ).P 274).elim [] (Û 0)).filter fun y=>Nat.beq y.1 8).length=1:=by kernel_rfl
def mP {rec:(Val aj)→Int→Int→Int→(Val Â)→Option ((Val aj)×(Val Â))} (p:Val aP) (v:Val Ä) (kn:Val aP→Val Ä→Option ρ) (kx:(i:Nat)→Val aP→Val (tyL (ÿ.zs i))→Option ρ) :
    goC (Æ rec ρ) (Ů (Æ rec ρ) (10-0 / 2)) 274 [] 2 8 (tD (Ġ (Æ rec ρ).P 274) 8) (ñ ÿ.head ÿ.cs ÿ.vs p v) (EI ÿ kn kx)=(Š rec ρ).bF p v (kn p) (fun i=>kx i p):=by kernel_rfl
def nI {rec:(Val aj)→Int→Int→Int→(Val Â)→Option ((Val aj)×(Val Â))}:(Š rec ρ).Ok (Æ rec ρ):=⟨mO,mP⟩
def pq {rec:(Val aj)→Int→Int→Int→(Val Â)→Option ((Val aj)×(Val Â))} (F:(Val aj)→Val Œ→Val Â→Option ((Val aj)×Val Â)) (xs:(Val aj)) (x:Val Œ) (m:Val Â) (k:((Val aj))×(Val Â)→Option ρ) :
    tS (Æ rec ρ) (Ů (Æ rec ρ) 10) [] 274 (A5 ⟨af,[tI,tI,tI],179,Â,F⟩ x) (jm ⟨af,[tI,tI,tI],179,Â,F⟩ xs m) (I4 ⟨af,[tI,tI,tI],179,Â,F⟩ fun zs m2=>k (zs,m2))=ğ rec xs x.1 x.2.1 x.2.2 m k:=by kernel_rfl
def pv:(jg ρ).Ok (Ď ρ):=⟨by kernel_rfl,fun p v kn kx=>by kernel_rfl⟩
def pr:(je ρ).Ok (Ď ρ):=⟨by kernel_rfl,fun p v kn kx=>by kernel_rfl⟩
def pu:(jf ρ).Ok (Ď ρ):=⟨by kernel_rfl,fun p v kn kx=>by kernel_rfl⟩
def rS (xs:(Val aj)) (x:Val tI) (m:Val Â) (k:((Val aj))×(Val Â)→Option ρ) :
    tS (Ď ρ) (Ů (Ď ρ) 10) [] 233 (A5 ě x) (jm ě xs m) (I4 ě fun zs m2=>k (zs,m2))=iI xs x m k:=by kernel_rfl
def JX:(((Ġ (ι ρ).P 230).elim [] (Û 0)).filter fun y=>Nat.beq y.1 0).length=1:=by kernel_rfl
def MV:PB (lE (Ġ (ι ρ).P 230) 0)=true:=by kernel_rfl
def MT (p:Val ax) (v v':Val aj):(ñ kz [tI,tI,ag,ab,ah,ae,ab,ai,tI,tI,ag,ab,ah,ae,ab,ai] [aj] p v').t=(ñ kz [tI,tI,ag,ab,ah,ae,ab,ai,tI,tI,ag,ab,ah,ae,ab,ai] [aj] p v).t:=by kernel_rfl
def MU (p:Val ax) (v:Val aj):(ñ kz [tI,tI,ag,ab,ah,ae,ab,ai,tI,tI,ag,ab,ah,ae,ab,ai] [aj] p v).t.all (st3 4)=true:=by kernel_rfl
def JY (p:Val ax) (v:Val aj) (y:(Val af)) (kn:Val ax→Val aj→Option ρ):zQ (ι ρ) (Ů (ι ρ) (10-6 / 2)) 230 [1,1,1,3,1,1] 4 0 (lE (Ġ (ι ρ).P 230) 0) (ñ kz [tI,tI,ag,ab,ah,ae,ab,ai,tI,tI,ag,ab,ah,ae,ab,ai] [aj] p v) (enc af y) ((oq ρ).back kn)=(oq ρ).bF p v y (kn p):=by kernel_rfl
def MW (hit:jE Tryz.prog pK):(oq ρ).Ok (ι ρ):=⟨JX,hit,MT,MU,JY⟩
def MY:(CP ρ).Ok (ι ρ):=⟨by kernel_rfl,fun p v kn kx=>by kernel_rfl⟩
def MX:(CN ρ).Ok (ι ρ):=⟨by kernel_rfl,fun p v kn kx=>by kernel_rfl⟩
def TO (x:Val Â) (k:(Val aj)→Option ρ) :
    Ś (ι ρ) 81 [Â] [aj] x k=Qe x k:=by kernel_rfl
def WK (x:Val Â) (k:(Val (.pair aj tI))→Option ρ) :
    Ś (TY ρ) 19 [Â] [aj,tI] x k=WL x k:=by kernel_rfl
def JF:(((Ġ (iX ρ).P 230).elim [] (Û 0)).filter fun y=>Nat.beq y.1 0).length=1:=by kernel_rfl
def MH:PB (lE (Ġ (iX ρ).P 230) 0)=true:=by kernel_rfl
def MF (p:Val ac) (v v':Val aj):(ñ ky [tI,tI,ag,ab,ah,ae,ab,ai] [aj] p v').t=(ñ ky [tI,tI,ag,ab,ah,ae,ab,ai] [aj] p v).t:=by kernel_rfl
def MG (p:Val ac) (v:Val aj):(ñ ky [tI,tI,ag,ab,ah,ae,ab,ai] [aj] p v).t.all (st3 3)=true:=by kernel_rfl
def JG (p:Val ac) (v:Val aj) (y:(Val af)) (kn:Val ac→Val aj→Option ρ):zQ (iX ρ) (Ů (iX ρ) (10-4 / 2)) 230 [1,3,1,1] 3 0 (lE (Ġ (iX ρ).P 230) 0) (ñ ky [tI,tI,ag,ab,ah,ae,ab,ai] [aj] p v) (enc af y) ((oo ρ).back kn)=(oo ρ).bF p v y (kn p):=by kernel_rfl
def MI (hit:jE Tryz.prog pK):(oo ρ).Ok (iX ρ):=⟨JF,hit,MF,MG,JG⟩
def TI (x:Val Â) (k:(Val aj)→Option ρ) :
    Ś (iX ρ) 96 [Â] [aj] x k=P6 x k:=by kernel_rfl
def Bs:(qI ρ).Ok (pm ρ):=⟨by kernel_rfl,fun p v kn kx=>by kernel_rfl⟩
def E9 (x:Val Â) (k:(Val (.pair af .bool))→Option ρ) :
    Ś (pm ρ) 82 [Â] [af,.bool] x k=uu x k:=by kernel_rfl
def Qm (x:Val Â) (k:(Val aZ)→Option ρ) :
    Ś (J6 ρ) 20 [Â] [af,tI] x k=J7 x k:=by kernel_rfl
def Bw:(qR ρ).Ok (pE ρ):=⟨by kernel_rfl,fun p v kn kx=>by kernel_rfl⟩
def Fq (x:Val (.pair aa aa)) (k:Bool→Option ρ) :
    Ś (pE ρ) 35 [aa,aa] [.bool] x k=uH x.1 x.2 k:=by kernel_rfl
def C6:(tg ρ).Ok (rV ρ):=⟨by kernel_rfl,fun p v kn kx=>by kernel_rfl⟩
def HO (x:Val (.pair af af)) (k:Bool→Option ρ) :
    Ś (rV ρ) 26 [af,af] [.bool] x k=xw x.1 x.2 k:=by kernel_rfl
def JI:(zX ρ).Ok (Bq ρ):=⟨by kernel_rfl,fun p v kn kx=>by kernel_rfl⟩
def Qa (x:Val (.pair Â Ä)) (k:Int→Option ρ) :
    Ś (Bq ρ) 88 [Â,tI,tI] [tI] x k=JJ x.1 x.2.1 x.2.2 k:=by kernel_rfl
def NQ (x:Val (.pair aa aa)) (k:(Val (.pair aa aw))→Option ρ) :
    Ś (G0 ρ) 91 [aa,aa] [aa,aa,tI] x k=FR x.1 x.2 k:=by kernel_rfl
def Bu:(qM ρ).Ok (kB ρ):=⟨by kernel_rfl,fun p v kn kx=>by kernel_rfl⟩
def Bt:(qK ρ).Ok (kB ρ):=⟨by kernel_rfl,fun p v kn kx=>by kernel_rfl⟩
def Fg (x:Val (.pair Â tI)) (k:(Val aG)→Option ρ) :
    Ś (kB ρ) 28 [Â,tI] [.bool,tI] x k=uw x.1 x.2 k:=by kernel_rfl
def MM:(CJ ρ).Ok (yE ρ):=⟨by kernel_rfl,fun p v kn kx=>by kernel_rfl⟩
def ML:(CH ρ).Ok (yE ρ):=⟨by kernel_rfl,fun p v kn kx=>by kernel_rfl⟩
def TK (x:Val (.pair Â aa)) (k:Val Â→Option ρ) :
    Ś (yE ρ) 87 [Â,aa] [Â] x k=P7 x.1 x.2 k:=by kernel_rfl
def M8:(C3 ρ).Ok (yF ρ):=⟨by kernel_rfl,fun p v kn kx=>by kernel_rfl⟩
def M7:(C2 ρ).Ok (yF ρ):=⟨by kernel_rfl,fun p v kn kx=>by kernel_rfl⟩
def TW (x:Val Â) (k:(Val aw)→Option ρ) :
    Ś (yF ρ) 29 [Â] [aa,tI] x k=Qq x k:=by kernel_rfl
def HC:(xg ρ).Ok (xh ρ):=⟨by kernel_rfl,fun p v kn kx=>by kernel_rfl⟩
def M3 (x:Val aw) (k:(Val aa)→Option ρ) :
    Ś (xh ρ) 98 [aa,tI] [aa] x k=Fe x.1 x.2 k:=by kernel_rfl
def C0:(sR ρ).Ok (į ρ):=⟨by kernel_rfl,fun p v kn kx=>by kernel_rfl⟩
def C1:(sW ρ).Ok (į ρ):=⟨by kernel_rfl,fun p v kn kx=>by kernel_rfl⟩
def CZ:(sP ρ).Ok (į ρ):=⟨by kernel_rfl,fun p v kn kx=>by kernel_rfl⟩
def CY:(sN ρ).Ok (į ρ):=⟨by kernel_rfl,fun p v kn kx=>by kernel_rfl⟩
def CW:(sJ ρ).Ok (į ρ):=⟨by kernel_rfl,fun p v kn kx=>by kernel_rfl⟩
def CV:(sH ρ).Ok (į ρ):=⟨by kernel_rfl,fun p v kn kx=>by kernel_rfl⟩
def CU:(sF ρ).Ok (į ρ):=⟨by kernel_rfl,fun p v kn kx=>by kernel_rfl⟩
def CX:(sL ρ).Ok (į ρ):=⟨by kernel_rfl,fun p v kn kx=>by kernel_rfl⟩
def HG (x:Val (.pair Â aa)) (k:(Val aw)→Option ρ) :
    Ś (į ρ) 30 [Â,aa] [aa,tI] x k=xj x.1 x.2 k:=by kernel_rfl
def TS (x:Val Â) (k:(Val (.pair aj tI))→Option ρ) :
    Ś (OE ρ) 40 [Â] [aj,tI] x k=Qi x k:=by kernel_rfl
def Rj (x:Val aK) (k:Val Ä→Option ρ) :
    Ś (K6 ρ) 68 [É,Ä] [tI,tI] x k=K7 x.1 x.2 k:=by kernel_rfl
def NN:(DU ρ).Ok (FQ ρ):=⟨by kernel_rfl,fun p v kn kx=>by kernel_rfl⟩
def UD (x:Val aK) (k:(Val (.pair É tI))→Option ρ) :
    Ś (FQ ρ) 69 [É,Ä] [É,tI] x k=Rh x.1 x.2 k:=by kernel_rfl
end Go.Proofs.ZzM
end
