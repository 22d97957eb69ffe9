/- lemmas -/
import Derived.Test.YtdmegkgjpgcfgaaGreatMdMA
set_option linter.all false
set_option linter.unusedSectionVars false
set_option linter.unusedVariables false
set_option linter.unusedSimpArgs false
noncomputable section
variable {ρ:Type}
set_option maxRecDepth 100000
namespace Go.Proofs.ZzM
open Go Go.Am
def IE:(xS ρ).Ok (ri ρ):=⟨by kernel_rfl,fun p v kn kx=>by kernel_rfl⟩
def IC:(xR ρ).Ok (ri ρ):=⟨by kernel_rfl,fun p v kn kx=>by kernel_rfl⟩
def NT (x:Val Â) (k:Bool→Option ρ) :
    ŝ (ri ρ) 15 [Â] [.bool] x k=Gb x k:=by kernel_rfl
def Mm:(Bw ρ).Ok (CC ρ):=⟨by kernel_rfl,fun p v kn kx=>by kernel_rfl⟩
def SY (x:Val (.pair É ŋ)) (k:Int→Option ρ) :
    ŝ (CC ρ) 269 [É,tI,aa] [tI] x k=Mn x.1 x.2.1 x.2.2 k:=by kernel_rfl
def WD (x:Val aM) (k:(Val aG)→Option ρ) :
    ŝ (Qc ρ) 226 [É,tI,tI] [.bool,tI] x k=Te x.1 x.2.1 x.2.2 k:=by kernel_rfl
def K8:(A5 ρ).Ok (kG ρ):=⟨by kernel_rfl,fun p v kn kx=>by kernel_rfl⟩
def K7:(A3 ρ).Ok (kG ρ):=⟨by kernel_rfl,fun p v kn kx=>by kernel_rfl⟩
def K6:(A2 ρ).Ok (kG ρ):=⟨by kernel_rfl,fun p v kn kx=>by kernel_rfl⟩
def K5:(A0 ρ).Ok (kG ρ):=⟨by kernel_rfl,fun p v kn kx=>by kernel_rfl⟩
def K4:(AZ ρ).Ok (kG ρ):=⟨by kernel_rfl,fun p v kn kx=>by kernel_rfl⟩
def RA (x:Val (.pair É (.pair ai tI))) (k:Int→Option ρ) :
    ŝ (kG ρ) 156 [É,ai,tI] [tI] x k=K9 x.1 x.2.1 x.2.2 k:=by kernel_rfl
def Lq:(Ba ρ).Ok (vB ρ):=⟨by kernel_rfl,fun p v kn kx=>by kernel_rfl⟩
def Lr:(Bb ρ).Ok (vB ρ):=⟨by kernel_rfl,fun p v kn kx=>by kernel_rfl⟩
def RQ (x:Val Â) (k:Int→Option ρ) :
    ŝ (vB ρ) 80 [Â] [tI] x k=Lt x k:=by kernel_rfl
def lE:(κ ρ).Ok (ş ρ):=⟨by kernel_rfl,fun p v kn kx=>by kernel_rfl⟩
def mN (x:Val (.pair ab Ã)) (k:Int→Option ρ) :
    ŝ (ş ρ) 135 [ab,Ã] [tI] x k=ż x.1 x.2 k:=by kernel_rfl
def Jj (x:Val (.pair aD ax)) (k:Int→Option ρ) :
    ŝ (Bv ρ) 147 [aD,aa,tI] [tI] x k=yM x.1 x.2.1 x.2.2 k:=by kernel_rfl
def OV:(EA ρ).Ok (zF ρ):=⟨by kernel_rfl,fun p v kn kx=>by kernel_rfl⟩
def OU:(Ey ρ).Ok (zF ρ):=⟨by kernel_rfl,fun p v kn kx=>by kernel_rfl⟩
def Wh (x:Val (.pair É (.pair Ö Ã))) (k:Int→Option ρ) :
    ŝ (zF ρ) 247 [É,Ö,tI,tI] [tI] x k=SI x.1 x.2.1 x.2.2.1 x.2.2.2 k:=by kernel_rfl
def Ay (x:Val (.pair am aa)) (k:Val Ã→Option ρ) :
    ŝ (sd ρ) 261 [am,aa] [Ã] x k=oI x.1 x.2 k:=by kernel_rfl
def LO:(Bq ρ).Ok (Co ρ):=⟨by kernel_rfl,fun p v kn kx=>by kernel_rfl⟩
def Si (x:Val ab) (k:Int→Option ρ) :
    ŝ (Co ρ) 264 [ab] [tI] x k=LP x k:=by kernel_rfl
def LR (x:Val Ã) (k:Val tp→Option ρ) :
    ŝ (Eh ρ) 312 [tI,tI] [Ã,tI] x k=Cp x.1 x.2 k:=by kernel_rfl
def YO (x:Val Ě) (k:Val tp→Option ρ) :
    ŝ (VY ρ) 296 [Ã,Ã] [Ã,tI] x k=YP x.1 x.2 k:=by kernel_rfl
def GQ (x:Val Ě) (k:Val Ã→Option ρ) :
    ŝ (yJ ρ) 262 [Ã,Ã] [Ã] x k=vR x.1 x.2 k:=by kernel_rfl
def YL (x:Val Ě) (k:Int→Option ρ) :
    ŝ (VW ρ) 320 [Ã,Ã] [tI] x k=YM x.1 x.2 k:=by kernel_rfl
def Ej (x:Val Ě) (k:Bool→Option ρ) :
    ŝ (wR ρ) 313 [Ě] [.bool] x k=sY x k:=by kernel_rfl
def YR (x:Val Ě) (k:Val tp→Option ρ) :
    ŝ (V4 ρ) 316 [Ã,Ã] [Ã,tI] x k=YS x.1 x.2 k:=by kernel_rfl
def Ss (x:Val (.pair Ě Ã)) (k:Val adk→Option ρ) :
    ŝ (Cq ρ) 297 [Ě,Ã] [Ě,tI] x k=LY x.1 x.2 k:=by kernel_rfl
def GO (x:Val Ě) (k:Val Ě→Option ρ) :
    ŝ (yI ρ) 263 [Ã,Ã] [Ě] x k=vQ x.1 x.2 k:=by kernel_rfl
def O4 (x:Val ba) (k:Val Ě→Option ρ) :
    ŝ (Ib ρ) 215 [É,Ù] [Ě] x k=GV x.1 x.2 k:=by kernel_rfl
def SS (x:Val ba) (k:Val Ã→Option ρ) :
    ŝ (Mk ρ) 216 [É,Ù] [Ã] x k=Ml x.1 x.2 k:=by kernel_rfl
def Sn (x:Val Ã) (k:Int→Option ρ) :
    ŝ (LU ρ) 265 [tI,tI] [tI] x k=LV x.1 x.2 k:=by kernel_rfl
def V7 (x:Val Ã) (k:Val Ã→Option ρ) :
    ŝ (P9 ρ) 217 [Ã] [tI,tI] x k=Sw x k:=by kernel_rfl
def Sv (x:Val Ã) (k:Val Ã→Option ρ) :
    ŝ (LZ ρ) 218 [Ã] [tI,tI] x k=L1 x k:=by kernel_rfl
def Wc (x:Val ba) (k:Val Ã→Option ρ) :
    ŝ (Qa ρ) 248 [É,Ù] [Ã] x k=SE x.1 x.2 k:=by kernel_rfl
def OS:(Et ρ).Ok (uE ρ):=⟨by kernel_rfl,fun p v kn kx=>by kernel_rfl⟩
def OT:(Ew ρ).Ok (uE ρ):=⟨by kernel_rfl,fun p v kn kx=>by kernel_rfl⟩
def OQ:(Er ρ).Ok (uE ρ):=⟨by kernel_rfl,fun p v kn kx=>by kernel_rfl⟩
def Wf (x:Val É) (k:(Val aD)→Option ρ) :
    ŝ (uE ρ) 132 [É] [aD] x k=SH x k:=by kernel_rfl
def Pa (x:Val É) (k:(Val (.pair Î aW))→Option ρ) :
    ŝ (Ic ρ) 66 [É] [Î,ab,tI] x k=G5 x k:=by kernel_rfl
def Rq:(HV ρ).Ok (KN ρ):=⟨by kernel_rfl,fun p v kn kx=>by kernel_rfl⟩
def Yk (x:Val bg) (k:Int→Option ρ) :
    ŝ (KN ρ) 105 [Â,ag,tI,tI] [tI] x k=Yl x.1 x.2.1 x.2.2.1 x.2.2.2 k:=by kernel_rfl
def xW:(oO ρ).Ok (mE ρ):=⟨by kernel_rfl,fun p v kn kx=>by kernel_rfl⟩
def B9 (x:Val (.pair aa (.pair tI (.pair au aH)))) (k:(Val aa)→Option ρ) :
    ŝ (mE ρ) 183 [aa,tI,au,aH] [aa] x k=pW x.1 x.2.1 x.2.2.1 x.2.2.2 k:=by kernel_rfl
def B7:(rH ρ).Ok (ŷ ρ):=⟨by kernel_rfl,fun p v kn kx=>by kernel_rfl⟩
def B6:(rE ρ).Ok (ŷ ρ):=⟨by kernel_rfl,fun p v kn kx=>by kernel_rfl⟩
def B5:(rC ρ).Ok (ŷ ρ):=⟨by kernel_rfl,fun p v kn kx=>by kernel_rfl⟩
def B4:(rA ρ).Ok (ŷ ρ):=⟨by kernel_rfl,fun p v kn kx=>by kernel_rfl⟩
def Gi (x:Val aI) (k:Val É→Option ρ) :
    ŝ (ŷ ρ) 104 [Â,ag] [É] x k=vu x.1 x.2 k:=by kernel_rfl
def VJ (x:Val (.pair Î tI)) (k:Bool→Option ρ) :
    ŝ (P0 ρ) 196 [Î,tI] [.bool] x k=RU x.1 x.2 k:=by kernel_rfl
def LM:(Bp ρ).Ok (Cn ρ):=⟨by kernel_rfl,fun p v kn kx=>by kernel_rfl⟩
def Sg (x:Val Î) (k:Val Ã→Option ρ) :
    ŝ (Cn ρ) 126 [Î] [tI,tI] x k=LN x k:=by kernel_rfl
def D6:(uB ρ).Ok (δ ρ):=⟨by kernel_rfl,fun p v kn kx=>by kernel_rfl⟩
def D5:(uz ρ).Ok (δ ρ):=⟨by kernel_rfl,fun p v kn kx=>by kernel_rfl⟩
def D3:(ut ρ).Ok (δ ρ):=⟨by kernel_rfl,fun p v kn kx=>by kernel_rfl⟩
def D4:(uw ρ).Ok (δ ρ):=⟨by kernel_rfl,fun p v kn kx=>by kernel_rfl⟩
def D2:(ur ρ).Ok (δ ρ):=⟨by kernel_rfl,fun p v kn kx=>by kernel_rfl⟩
def I8 (x:Val (.pair Î ao)) (k:(Val (.pair aa .bool))→Option ρ) :
    ŝ (δ ρ) 127 [Î,ao] [aa,.bool] x k=yv x.1 x.2 k:=by kernel_rfl
def Ed (x:Val Î) (k:(Val aG)→Option ρ) :
    ŝ (wP ρ) 155 [Î] [.bool,tI] x k=sW x k:=by kernel_rfl
def IR (x:Val aI) (k:Bool→Option ρ) :
    ŝ (A7 ρ) 79 [Â,ag] [.bool] x k=ya x.1 x.2 k:=by kernel_rfl
def II:(xT ρ).Ok (rz ρ):=⟨by kernel_rfl,fun p v kn kx=>by kernel_rfl⟩
def IJ:(xV ρ).Ok (rz ρ):=⟨by kernel_rfl,fun p v kn kx=>by kernel_rfl⟩
def NX (x:Val aI) (k:Int→Option ρ) :
    ŝ (rz ρ) 116 [Â,ag] [tI] x k=Gf x.1 x.2 k:=by kernel_rfl
def Cs (x:Val tI) (k:Bool→Option ρ) :
    ŝ (uD ρ) 234 [tI] [.bool] x k=qt x k:=by kernel_rfl
def yH (x:Val Ã) (k:Int→Option ρ) :
    ŝ (qu ρ) 180 [tI,tI] [tI] x k=mP x.1 x.2 k:=by kernel_rfl
def N3 (x:Val (.pair ag (.pair ag au))) (k:Int→Option ρ) :
    ŝ (HX ρ) 179 [ag,ag,au] [tI] x k=Gg x.1 x.2.1 x.2.2 k:=by kernel_rfl
def la:(Ξ ρ).Ok (õ ρ):=⟨by kernel_rfl,fun p v kn kx=>by kernel_rfl⟩
def lf:(Ο ρ).Ok (õ ρ):=⟨by kernel_rfl,fun p v kn kx=>by kernel_rfl⟩
def l6 (xs:(Val aj)) (x:Val Ã) (m:Val Â) (k:((Val aj))×(Val Â)→Option ρ) :
    uU (õ ρ) (ŵ (õ ρ) 10) [] 273 (BK Ą x) (jT Ą xs m) (J8 Ą fun zs m2=>k (zs,m2))=ū xs x.1 x.2 m k:=by kernel_rfl
def qn:(jR ρ).Ok (Ā ρ):=⟨by kernel_rfl,fun p v kn kx=>by kernel_rfl⟩
def qm:(jQ ρ).Ok (Ā ρ):=⟨by kernel_rfl,fun p v kn kx=>by kernel_rfl⟩
def qo:(jS ρ).Ok (Ā ρ):=⟨by kernel_rfl,fun p v kn kx=>by kernel_rfl⟩
def ql:(jP ρ).Ok (Ā ρ):=⟨by kernel_rfl,fun p v kn kx=>by kernel_rfl⟩
def sR (xs:(Val aj)) (x:Val ŗ) (m:Val Â) (k:((Val aj))×(Val Â)→Option ρ) :
    uU (Ā ρ) (ŵ (Ā ρ) 10) [] 300 (BK į x) (jT į xs m) (J8 į fun zs m2=>k (zs,m2))=jn xs x.1 x.2.1 x.2.2 m k:=by kernel_rfl
def nY {rec:(Val aj)→Int→Int→Int→(Val Â)→Option ((Val aj)×(Val Â))}:(((ħ (Ç rec ρ).P 274).elim [] (Ý 0)).filter fun y=>Nat.beq y.1 0).length=1:=by kernel_rfl
def nZ {rec:(Val aj)→Int→Int→Int→(Val Â)→Option ((Val aj)×(Val Â))} (p:Val aw) (v:Val Ã) (kn:Val aw→Val Ã→Option ρ) (kx:(i:Nat)→Val aw→Val (tyL (ĉ.zs i))→Option ρ) :
    goC (Ç rec ρ) (ŵ (Ç rec ρ) (10-0 / 2)) 274 [] 2 0 (uF (ħ (Ç rec ρ).P 274) 0) (ü ĉ.head ĉ.cs ĉ.vs p v) (FR ĉ kn kx)=(Ū rec ρ).bF p v (kn p) (fun i=>kx i p):=by kernel_rfl
def oH {rec:(Val aj)→Int→Int→Int→(Val Â)→Option ((Val aj)×(Val Â))}:(Ū rec ρ).Ok (Ç rec ρ):=⟨nY,nZ⟩
def nW {rec:(Val aj)→Int→Int→Int→(Val Â)→Option ((Val aj)×(Val Â))}:(((ħ (Ç rec ρ).P 274).elim [] (Ý 0)).filter fun y=>Nat.beq y.1 2).length=1:=by kernel_rfl
def nX {rec:(Val aj)→Int→Int→Int→(Val Â)→Option ((Val aj)×(Val Â))} (p:Val aE) (v:Val aB) (kn:Val aE→Val aB→Option ρ) (kx:(i:Nat)→Val aE→Val (tyL (Ĉ.zs i))→Option ρ) :
    goC (Ç rec ρ) (ŵ (Ç rec ρ) (10-0 / 2)) 274 [] 2 2 (uF (ħ (Ç rec ρ).P 274) 2) (ü Ĉ.head Ĉ.cs Ĉ.vs p v) (FR Ĉ kn kx)=(ũ rec ρ).bF p v (kn p) (fun i=>kx i p):=by kernel_rfl
def oG {rec:(Val aj)→Int→Int→Int→(Val Â)→Option ((Val aj)×(Val Â))}:(ũ rec ρ).Ok (Ç rec ρ):=⟨nW,nX⟩
def nS {rec:(Val aj)→Int→Int→Int→(Val Â)→Option ((Val aj)×(Val Â))}:(((ħ (Ç rec ρ).P 274).elim [] (Ý 0)).filter fun y=>Nat.beq y.1 4).length=1:=by kernel_rfl
def nV {rec:(Val aj)→Int→Int→Int→(Val Â)→Option ((Val aj)×(Val Â))} (p:Val aw) (v:Val Ã) (kn:Val aw→Val Ã→Option ρ) (kx:(i:Nat)→Val aw→Val (tyL (ć.zs i))→Option ρ) :
    goC (Ç rec ρ) (ŵ (Ç rec ρ) (10-0 / 2)) 274 [] 2 4 (uF (ħ (Ç rec ρ).P 274) 4) (ü ć.head ć.cs ć.vs p v) (FR ć kn kx)=(Ũ rec ρ).bF p v (kn p) (fun i=>kx i p):=by kernel_rfl
def oF {rec:(Val aj)→Int→Int→Int→(Val Â)→Option ((Val aj)×(Val Â))}:(Ũ rec ρ).Ok (Ç rec ρ):=⟨nS,nV⟩
def nQ {rec:(Val aj)→Int→Int→Int→(Val Â)→Option ((Val aj)×(Val Â))}:(((ħ (Ç rec ρ).P 274).elim [] (Ý 0)).filter fun y=>Nat.beq y.1 6).length=1:=by kernel_rfl
def nR {rec:(Val aj)→Int→Int→Int→(Val Â)→Option ((Val aj)×(Val Â))} (p:Val aE) (v:Val aB) (kn:Val aE→Val aB→Option ρ) (kx:(i:Nat)→Val aE→Val (tyL (Ć.zs i))→Option ρ) :
    goC (Ç rec ρ) (ŵ (Ç rec ρ) (10-0 / 2)) 274 [] 2 6 (uF (ħ (Ç rec ρ).P 274) 6) (ü Ć.head Ć.cs Ć.vs p v) (FR Ć kn kx)=(ŧ rec ρ).bF p v (kn p) (fun i=>kx i p):=by kernel_rfl
def oE {rec:(Val aj)→Int→Int→Int→(Val Â)→Option ((Val aj)×(Val Â))}:(ŧ rec ρ).Ok (Ç rec ρ):=⟨nQ,nR⟩
def nO {rec:(Val aj)→Int→Int→Int→(Val Â)→Option ((Val aj)×(Val Â))}:(((ħ (Ç rec ρ).P 274).elim [] (Ý 0)).filter fun y=>Nat.beq y.1 8).length=1:=by kernel_rfl
def nP {rec:(Val aj)→Int→Int→Int→(Val Â)→Option ((Val aj)×(Val Â))} (p:Val aR) (v:Val Ã) (kn:Val aR→Val Ã→Option ρ) (kx:(i:Nat)→Val aR→Val (tyL (ą.zs i))→Option ρ) :
    goC (Ç rec ρ) (ŵ (Ç rec ρ) (10-0 / 2)) 274 [] 2 8 (uF (ħ (Ç rec ρ).P 274) 8) (ü ą.head ą.cs ą.vs p v) (FR ą kn kx)=(Ŧ rec ρ).bF p v (kn p) (fun i=>kx i p):=by kernel_rfl
def oD {rec:(Val aj)→Int→Int→Int→(Val Â)→Option ((Val aj)×(Val Â))}:(Ŧ rec ρ).Ok (Ç rec ρ):=⟨nO,nP⟩
def qg {rec:(Val aj)→Int→Int→Int→(Val Â)→Option ((Val aj)×(Val Â))} (F:(Val aj)→Val ŗ→Val Â→Option ((Val aj)×Val Â)) (xs:(Val aj)) (x:Val ŗ) (m:Val Â) (k:((Val aj))×(Val Â)→Option ρ) :
    uU (Ç rec ρ) (ŵ (Ç rec ρ) 10) [] 274 (BK ⟨ag,[tI,tI,tI],179,Â,F⟩ x) (jT ⟨ag,[tI,tI,tI],179,Â,F⟩ xs m) (J8 ⟨ag,[tI,tI,tI],179,Â,F⟩ fun zs m2=>k (zs,m2))=Ĥ rec xs x.1 x.2.1 x.2.2 m k:=by kernel_rfl
def qk:(jO ρ).Ok (ē ρ):=⟨by kernel_rfl,fun p v kn kx=>by kernel_rfl⟩
def qi:(jM ρ).Ok (ē ρ):=⟨by kernel_rfl,fun p v kn kx=>by kernel_rfl⟩
def qj:(jN ρ).Ok (ē ρ):=⟨by kernel_rfl,fun p v kn kx=>by kernel_rfl⟩
def sQ (xs:(Val aj)) (x:Val tI) (m:Val Â) (k:((Val aj))×(Val Â)→Option ρ) :
    uU (ē ρ) (ŵ (ē ρ) 10) [] 233 (BK ġ x) (jT ġ xs m) (J8 ġ fun zs m2=>k (zs,m2))=jm xs x m k:=by kernel_rfl
def Lb:(((ħ (ic ρ).P 230).elim [] (Ý 0)).filter fun y=>Nat.beq y.1 0).length=1:=by kernel_rfl
def Oe:QR (mj (ħ (ic ρ).P 230) 0)=true:=by kernel_rfl
def Oc (p:Val ay) (v v':Val aj):(ü lr [tI,tI,ae,ab,af,ac,ab,ai,tI,tI,ae,ab,af,ac,ab,ai] [aj] p v').t=(ü lr [tI,tI,ae,ab,af,ac,ab,ai,tI,tI,ae,ab,af,ac,ab,ai] [aj] p v).t:=by kernel_rfl
def Od (p:Val ay) (v:Val aj):(ü lr [tI,tI,ae,ab,af,ac,ab,ai,tI,tI,ae,ab,af,ac,ab,ai] [aj] p v).t.all (st3 4)=true:=by kernel_rfl
def Lc (p:Val ay) (v:Val aj) (y:(Val ag)) (kn:Val ay→Val aj→Option ρ):AI (ic ρ) (ŵ (ic ρ) (10-6 / 2)) 230 [1,1,1,3,1,1] 4 0 (mj (ħ (ic ρ).P 230) 0) (ü lr [tI,tI,ae,ab,af,ac,ab,ai,tI,tI,ae,ab,af,ac,ab,ai] [aj] p v) (enc ag y) ((pe ρ).back kn)=(pe ρ).bF p v y (kn p):=by kernel_rfl
def Og (hit:kj Tryz.prog qy):(pe ρ).Ok (ic ρ):=⟨Lb,hit,Oc,Od,Lc⟩
def Oi:(DG ρ).Ok (ic ρ):=⟨by kernel_rfl,fun p v kn kx=>by kernel_rfl⟩
def Oh:(DE ρ).Ok (ic ρ):=⟨by kernel_rfl,fun p v kn kx=>by kernel_rfl⟩
def Vv (x:Val Â) (k:(Val aj)→Option ρ) :
    ŝ (ic ρ) 81 [Â] [aj] x k=RB x k:=by kernel_rfl
def Yx (x:Val Â) (k:(Val (.pair aj tI))→Option ρ) :
    ŝ (VF ρ) 19 [Â] [aj,tI] x k=Yy x k:=by kernel_rfl
def KQ:(((ħ (jE ρ).P 230).elim [] (Ý 0)).filter fun y=>Nat.beq y.1 0).length=1:=by kernel_rfl
def N0:QR (mj (ħ (jE ρ).P 230) 0)=true:=by kernel_rfl
def NY (p:Val ah) (v v':Val aj):(ü lq [tI,tI,ae,ab,af,ac,ab,ai] [aj] p v').t=(ü lq [tI,tI,ae,ab,af,ac,ab,ai] [aj] p v).t:=by kernel_rfl
def NZ (p:Val ah) (v:Val aj):(ü lq [tI,tI,ae,ab,af,ac,ab,ai] [aj] p v).t.all (st3 3)=true:=by kernel_rfl
def KR (p:Val ah) (v:Val aj) (y:(Val ag)) (kn:Val ah→Val aj→Option ρ):AI (jE ρ) (ŵ (jE ρ) (10-4 / 2)) 230 [1,3,1,1] 3 0 (mj (ħ (jE ρ).P 230) 0) (ü lq [tI,tI,ae,ab,af,ac,ab,ai] [aj] p v) (enc ag y) ((pd ρ).back kn)=(pd ρ).bF p v y (kn p):=by kernel_rfl
def N1 (hit:kj Tryz.prog qy):(pd ρ).Ok (jE ρ):=⟨KQ,hit,NY,NZ,KR⟩
def Vp (x:Val Â) (k:(Val aj)→Option ρ) :
    ŝ (jE ρ) 96 [Â] [aj] x k=Rt x k:=by kernel_rfl
def Cg:(rL ρ).Ok (pZ ρ):=⟨by kernel_rfl,fun p v kn kx=>by kernel_rfl⟩
def Gm (x:Val Â) (k:(Val (.pair ag .bool))→Option ρ) :
    ŝ (pZ ρ) 82 [Â] [ag,.bool] x k=vx x k:=by kernel_rfl
def RK (x:Val Â) (k:(Val (.pair ag tI))→Option ρ) :
    ŝ (Ll ρ) 20 [Â] [ag,tI] x k=Lm x k:=by kernel_rfl
def Ck:(rV ρ).Ok (qr ρ):=⟨by kernel_rfl,fun p v kn kx=>by kernel_rfl⟩
def Gy (x:Val (.pair aa aa)) (k:Bool→Option ρ) :
    ŝ (qr ρ) 35 [aa,aa] [.bool] x k=vG x.1 x.2 k:=by kernel_rfl
def DY:(uq ρ).Ok (sS ρ):=⟨by kernel_rfl,fun p v kn kx=>by kernel_rfl⟩
def I5 (x:Val (.pair ag ag)) (k:Bool→Option ρ) :
    ŝ (sS ρ) 26 [ag,ag] [.bool] x k=yu x.1 x.2 k:=by kernel_rfl
def KT:(AW ρ).Ok (Ce ρ):=⟨by kernel_rfl,fun p v kn kx=>by kernel_rfl⟩
def Rx (x:Val (.pair Â Ã)) (k:Int→Option ρ) :
    ŝ (Ce ρ) 88 [Â,tI,tI] [tI] x k=KU x.1 x.2.1 x.2.2 k:=by kernel_rfl
def Pd (x:Val (.pair aa aa)) (k:(Val (.pair aa ax))→Option ρ) :
    ŝ (Ie ρ) 91 [aa,aa] [aa,aa,tI] x k=G7 x.1 x.2 k:=by kernel_rfl
def Ci:(rP ρ).Ok (lz ρ):=⟨by kernel_rfl,fun p v kn kx=>by kernel_rfl⟩
def Ch:(rN ρ).Ok (lz ρ):=⟨by kernel_rfl,fun p v kn kx=>by kernel_rfl⟩
def Gr (x:Val (.pair Â tI)) (k:(Val aG)→Option ρ) :
    ŝ (lz ρ) 28 [Â,tI] [.bool,tI] x k=vy x.1 x.2 k:=by kernel_rfl
def N5:(DB ρ).Ok (zz ρ):=⟨by kernel_rfl,fun p v kn kx=>by kernel_rfl⟩
def N4:(Dz ρ).Ok (zz ρ):=⟨by kernel_rfl,fun p v kn kx=>by kernel_rfl⟩
def Vr (x:Val (.pair Â aa)) (k:Val Â→Option ρ) :
    ŝ (zz ρ) 87 [Â,aa] [Â] x k=Ru x.1 x.2 k:=by kernel_rfl
def Ot:(DU ρ).Ok (zA ρ):=⟨by kernel_rfl,fun p v kn kx=>by kernel_rfl⟩
def Oq:(DT ρ).Ok (zA ρ):=⟨by kernel_rfl,fun p v kn kx=>by kernel_rfl⟩
def VD (x:Val Â) (k:(Val ax)→Option ρ) :
    ŝ (zA ρ) 29 [Â] [aa,tI] x k=RO x k:=by kernel_rfl
def IV:(yf ρ).Ok (yh ρ):=⟨by kernel_rfl,fun p v kn kx=>by kernel_rfl⟩
def Ol (x:Val ax) (k:(Val aa)→Option ρ) :
    ŝ (yh ρ) 98 [aa,tI] [aa] x k=Gp x.1 x.2 k:=by kernel_rfl
def DR:(tW ρ).Ok (ľ ρ):=⟨by kernel_rfl,fun p v kn kx=>by kernel_rfl⟩
def DS:(tY ρ).Ok (ľ ρ):=⟨by kernel_rfl,fun p v kn kx=>by kernel_rfl⟩
def DQ:(tU ρ).Ok (ľ ρ):=⟨by kernel_rfl,fun p v kn kx=>by kernel_rfl⟩
def DP:(tS ρ).Ok (ľ ρ):=⟨by kernel_rfl,fun p v kn kx=>by kernel_rfl⟩
def DM:(tO ρ).Ok (ľ ρ):=⟨by kernel_rfl,fun p v kn kx=>by kernel_rfl⟩
def DL:(tM ρ).Ok (ľ ρ):=⟨by kernel_rfl,fun p v kn kx=>by kernel_rfl⟩
def DK:(tJ ρ).Ok (ľ ρ):=⟨by kernel_rfl,fun p v kn kx=>by kernel_rfl⟩
def DN:(tQ ρ).Ok (ľ ρ):=⟨by kernel_rfl,fun p v kn kx=>by kernel_rfl⟩
def IZ (x:Val (.pair Â aa)) (k:(Val ax)→Option ρ) :
    ŝ (ľ ρ) 30 [Â,aa] [aa,tI] x k=yj x.1 x.2 k:=by kernel_rfl
def Vz (x:Val Â) (k:(Val (.pair aj tI))→Option ρ) :
    ŝ (PZ ρ) 40 [Â] [aj,tI] x k=RF x k:=by kernel_rfl
def Tb (x:Val aM) (k:Val Ã→Option ρ) :
    ŝ (Mv ρ) 68 [É,Ã] [tI,tI] x k=Mw x.1 x.2 k:=by kernel_rfl
def Pb:(EM ρ).Ok (G6 ρ):=⟨by kernel_rfl,fun p v kn kx=>by kernel_rfl⟩
def Ww (x:Val aM) (k:(Val aU)→Option ρ) :
    ŝ (G6 ρ) 69 [É,Ã] [É,tI] x k=S9 x.1 x.2 k:=by kernel_rfl
def LA:(Bc ρ).Ok (Cm ρ):=⟨by kernel_rfl,fun p v kn kx=>by kernel_rfl⟩
def RY (x:Val aX) (k:Int→Option ρ) :
    ŝ (Cm ρ) 133 [Î,aa] [tI] x k=LB x.1 x.2 k:=by kernel_rfl
end Go.Proofs.ZzM
end
