/- lemmas -/
import Derived.Test.YtdmegkgjpgcfgaaGreatMdMA
set_option linter.all false
set_option linter.unusedSectionVars false
set_option linter.unusedVariables false
set_option linter.unusedSimpArgs false
noncomputable section
variable {ρ:Type}
set_option maxRecDepth 100000
namespace Go.Proofs.ZzM
open Go Go.Am
def Gz:(wg ρ).Ok (pY ρ):=⟨by kernel_rfl,fun p v kn kx=>by kernel_rfl⟩
def Gy:(we ρ).Ok (pY ρ):=⟨by kernel_rfl,fun p v kn kx=>by kernel_rfl⟩
def LA (x:Val Â) (k:Bool→Option ρ) :
    ŧ (pY ρ) 15 [Â] [.bool] x k=El x k:=by kernel_rfl
def J3:(zS ρ).Ok (A8 ρ):=⟨by kernel_rfl,fun p v kn kx=>by kernel_rfl⟩
def Qc (x:Val (.pair É ŋ)) (k:Int→Option ρ) :
    ŧ (A8 ρ) 269 [É,tI,aa] [tI] x k=J4 x.1 x.2.1 x.2.2 k:=by kernel_rfl
def TE (x:Val aJ) (k:(Val aH)→Option ρ) :
    ŧ (NQ ρ) 226 [É,tI,tI] [.bool,tI] x k=Qi x.1 x.2.1 x.2.2 k:=by kernel_rfl
def I1:(zp ρ).Ok (jM ρ):=⟨by kernel_rfl,fun p v kn kx=>by kernel_rfl⟩
def I0:(zn ρ).Ok (jM ρ):=⟨by kernel_rfl,fun p v kn kx=>by kernel_rfl⟩
def IZ:(zm ρ).Ok (jM ρ):=⟨by kernel_rfl,fun p v kn kx=>by kernel_rfl⟩
def IY:(zl ρ).Ok (jM ρ):=⟨by kernel_rfl,fun p v kn kx=>by kernel_rfl⟩
def IX:(zk ρ).Ok (jM ρ):=⟨by kernel_rfl,fun p v kn kx=>by kernel_rfl⟩
def Pc (x:Val (.pair É (.pair ai tI))) (k:Int→Option ρ) :
    ŧ (jM ρ) 156 [É,ai,tI] [tI] x k=I2 x.1 x.2.1 x.2.2 k:=by kernel_rfl
def Jg:(zx ρ).Ok (tU ρ):=⟨by kernel_rfl,fun p v kn kx=>by kernel_rfl⟩
def Jh:(zy ρ).Ok (tU ρ):=⟨by kernel_rfl,fun p v kn kx=>by kernel_rfl⟩
def Ps (x:Val Â) (k:Int→Option ρ) :
    ŧ (tU ρ) 80 [Â] [tI] x k=Ji x k:=by kernel_rfl
def kv:(Λ ρ).Ok (Ŕ ρ):=⟨by kernel_rfl,fun p v kn kx=>by kernel_rfl⟩
def lR (x:Val (.pair ab Ã)) (k:Int→Option ρ) :
    ŧ (Ŕ ρ) 135 [ab,Ã] [tI] x k=Ů x.1 x.2 k:=by kernel_rfl
def Hf (x:Val (.pair aU ay)) (k:Int→Option ρ) :
    ŧ (zR ρ) 147 [aU,aa,tI] [tI] x k=xb x.1 x.2.1 x.2.2 k:=by kernel_rfl
def My:(C1 ρ).Ok (xS ρ):=⟨by kernel_rfl,fun p v kn kx=>by kernel_rfl⟩
def Mw:(CZ ρ).Ok (xS ρ):=⟨by kernel_rfl,fun p v kn kx=>by kernel_rfl⟩
def Tp (x:Val (.pair É (.pair Ô Ã))) (k:Int→Option ρ) :
    ŧ (xS ρ) 247 [É,Ô,tI,tI] [tI] x k=PY x.1 x.2.1 x.2.2.1 x.2.2.2 k:=by kernel_rfl
def yO (x:Val (.pair am aa)) (k:Val Ã→Option ρ) :
    ŧ (qF ρ) 261 [am,aa] [Ã] x k=nz x.1 x.2 k:=by kernel_rfl
def JC:(zN ρ).Ok (AQ ρ):=⟨by kernel_rfl,fun p v kn kx=>by kernel_rfl⟩
def PI (x:Val ab) (k:Int→Option ρ) :
    ŧ (AQ ρ) 264 [ab] [tI] x k=JD x k:=by kernel_rfl
def JF (x:Val Ã) (k:Val Bs→Option ρ) :
    ŧ (CL ρ) 312 [tI,tI] [Ã,tI] x k=AR x.1 x.2 k:=by kernel_rfl
def VB (x:Val Ĕ) (k:Val Bs→Option ρ) :
    ŧ (Tc ρ) 296 [Ã,Ã] [Ã,tI] x k=VC x.1 x.2 k:=by kernel_rfl
def EV (x:Val Ĕ) (k:Val Ã→Option ρ) :
    ŧ (xa ρ) 262 [Ã,Ã] [Ã] x k=uq x.1 x.2 k:=by kernel_rfl
def Vy (x:Val Ĕ) (k:Int→Option ρ) :
    ŧ (Ta ρ) 320 [Ã,Ã] [tI] x k=Vz x.1 x.2 k:=by kernel_rfl
def CN (x:Val Ĕ) (k:Bool→Option ρ) :
    ŧ (vm ρ) 313 [Ĕ] [.bool] x k=rA x k:=by kernel_rfl
def VE (x:Val Ĕ) (k:Val Bs→Option ρ) :
    ŧ (Te ρ) 316 [Ã,Ã] [Ã,tI] x k=VF x.1 x.2 k:=by kernel_rfl
def PP (x:Val (.pair Ĕ Ã)) (k:Val Z4→Option ρ) :
    ŧ (AU ρ) 297 [Ĕ,Ã] [Ĕ,tI] x k=JL x.1 x.2 k:=by kernel_rfl
def ET (x:Val Ĕ) (k:Val Ĕ→Option ρ) :
    ŧ (wZ ρ) 263 [Ã,Ã] [Ĕ] x k=un x.1 x.2 k:=by kernel_rfl
def MH (x:Val aX) (k:Val Ĕ→Option ρ) :
    ŧ (Ga ρ) 215 [É,å] [Ĕ] x k=EY x.1 x.2 k:=by kernel_rfl
def P7 (x:Val aX) (k:Val Ã→Option ρ) :
    ŧ (J1 ρ) 216 [É,å] [Ã] x k=J2 x.1 x.2 k:=by kernel_rfl
def PM (x:Val Ã) (k:Int→Option ρ) :
    ŧ (JH ρ) 265 [tI,tI] [tI] x k=JI x.1 x.2 k:=by kernel_rfl
def Th (x:Val Ã) (k:Val Ã→Option ρ) :
    ŧ (NN ρ) 217 [Ã] [tI,tI] x k=PS x k:=by kernel_rfl
def PR (x:Val Ã) (k:Val Ã→Option ρ) :
    ŧ (JM ρ) 218 [Ã] [tI,tI] x k=JN x k:=by kernel_rfl
def Tj (x:Val aX) (k:Val Ã→Option ρ) :
    ŧ (NP ρ) 248 [É,å] [Ã] x k=PU x.1 x.2 k:=by kernel_rfl
def Mu:(CV ρ).Ok (sS ρ):=⟨by kernel_rfl,fun p v kn kx=>by kernel_rfl⟩
def Mv:(CX ρ).Ok (sS ρ):=⟨by kernel_rfl,fun p v kn kx=>by kernel_rfl⟩
def Ms:(CT ρ).Ok (sS ρ):=⟨by kernel_rfl,fun p v kn kx=>by kernel_rfl⟩
def Tm (x:Val É) (k:(Val aU)→Option ρ) :
    ŧ (sS ρ) 132 [É] [aU] x k=PX x k:=by kernel_rfl
def MN (x:Val É) (k:(Val (.pair Ì bc))→Option ρ) :
    ŧ (Gb ρ) 66 [É] [Ì,ab,tI] x k=E6 x k:=by kernel_rfl
def O2:(FW ρ).Ok (IF ρ):=⟨by kernel_rfl,fun p v kn kx=>by kernel_rfl⟩
def U8 (x:Val aZ) (k:Int→Option ρ) :
    ŧ (IF ρ) 105 [Â,aj,tI,tI] [tI] x k=U9 x.1 x.2.1 x.2.2.1 x.2.2.2 k:=by kernel_rfl
def wn:(nH ρ).Ok (lH ρ):=⟨by kernel_rfl,fun p v kn kx=>by kernel_rfl⟩
def Az (x:Val (.pair aa (.pair tI (.pair ar aF)))) (k:(Val aa)→Option ρ) :
    ŧ (lH ρ) 183 [aa,tI,ar,aF] [aa] x k=oP x.1 x.2.1 x.2.2.1 x.2.2.2 k:=by kernel_rfl
def Ax:(qk ρ).Ok (ũ ρ):=⟨by kernel_rfl,fun p v kn kx=>by kernel_rfl⟩
def Aw:(qi ρ).Ok (ũ ρ):=⟨by kernel_rfl,fun p v kn kx=>by kernel_rfl⟩
def Au:(qf ρ).Ok (ũ ρ):=⟨by kernel_rfl,fun p v kn kx=>by kernel_rfl⟩
def As:(qd ρ).Ok (ũ ρ):=⟨by kernel_rfl,fun p v kn kx=>by kernel_rfl⟩
def Ep (x:Val aG) (k:Val É→Option ρ) :
    ŧ (ũ ρ) 104 [Â,aj] [É] x k=tN x.1 x.2 k:=by kernel_rfl
def SV (x:Val (.pair Ì tI)) (k:Bool→Option ρ) :
    ŧ (NE ρ) 196 [Ì,tI] [.bool] x k=Pw x.1 x.2 k:=by kernel_rfl
def JA:(zM ρ).Ok (AP ρ):=⟨by kernel_rfl,fun p v kn kx=>by kernel_rfl⟩
def PG (x:Val Ì) (k:Val Ã→Option ρ) :
    ŧ (AP ρ) 126 [Ì] [tI,tI] x k=JB x k:=by kernel_rfl
def CC:(sP ρ).Ok (Η ρ):=⟨by kernel_rfl,fun p v kn kx=>by kernel_rfl⟩
def CB:(sN ρ).Ok (Η ρ):=⟨by kernel_rfl,fun p v kn kx=>by kernel_rfl⟩
def Cz:(sK ρ).Ok (Η ρ):=⟨by kernel_rfl,fun p v kn kx=>by kernel_rfl⟩
def CA:(sM ρ).Ok (Η ρ):=⟨by kernel_rfl,fun p v kn kx=>by kernel_rfl⟩
def Cy:(sJ ρ).Ok (Η ρ):=⟨by kernel_rfl,fun p v kn kx=>by kernel_rfl⟩
def G4 (x:Val (.pair Ì ao)) (k:(Val (.pair aa .bool))→Option ρ) :
    ŧ (Η ρ) 127 [Ì,ao] [aa,.bool] x k=wM x.1 x.2 k:=by kernel_rfl
def CG (x:Val Ì) (k:(Val aH)→Option ρ) :
    ŧ (vk ρ) 155 [Ì] [.bool,tI] x k=ru x k:=by kernel_rfl
def GK (x:Val aG) (k:Bool→Option ρ) :
    ŧ (zr ρ) 79 [Â,aj] [.bool] x k=wt x.1 x.2 k:=by kernel_rfl
def GC:(wi ρ).Ok (pZ ρ):=⟨by kernel_rfl,fun p v kn kx=>by kernel_rfl⟩
def GD:(wm ρ).Ok (pZ ρ):=⟨by kernel_rfl,fun p v kn kx=>by kernel_rfl⟩
def LD (x:Val aG) (k:Int→Option ρ) :
    ŧ (pZ ρ) 116 [Â,aj] [tI] x k=En x.1 x.2 k:=by kernel_rfl
def AX (x:Val tI) (k:Bool→Option ρ) :
    ŧ (sR ρ) 234 [tI] [.bool] x k=pj x k:=by kernel_rfl
def wY (x:Val Ã) (k:Int→Option ρ) :
    ŧ (pk ρ) 180 [tI,tI] [tI] x k=lS x.1 x.2 k:=by kernel_rfl
def LL (x:Val (.pair aj (.pair aj ar))) (k:Int→Option ρ) :
    ŧ (FY ρ) 179 [aj,aj,ar] [tI] x k=Eo x.1 x.2.1 x.2.2 k:=by kernel_rfl
def j8:(ż ρ).Ok (ð ρ):=⟨by kernel_rfl,fun p v kn kx=>by kernel_rfl⟩
def j9:(Ž ρ).Ok (ð ρ):=⟨by kernel_rfl,fun p v kn kx=>by kernel_rfl⟩
def kX (xs:(Val af)) (x:Val Ã) (m:Val Â) (k:((Val af))×(Val Â)→Option ρ) :
    tk (ð ρ) (Ŧ (ð ρ) 10) [] 273 (Ag þ x) (jh þ xs m) (H6 þ fun zs m2=>k (zs,m2))=Ş xs x.1 x.2 m k:=by kernel_rfl
def pb:(jf ρ).Ok (ù ρ):=⟨by kernel_rfl,fun p v kn kx=>by kernel_rfl⟩
def o9:(je ρ).Ok (ù ρ):=⟨by kernel_rfl,fun p v kn kx=>by kernel_rfl⟩
def pd:(jg ρ).Ok (ù ρ):=⟨by kernel_rfl,fun p v kn kx=>by kernel_rfl⟩
def o8:(jd ρ).Ok (ù ρ):=⟨by kernel_rfl,fun p v kn kx=>by kernel_rfl⟩
def rr (xs:(Val af)) (x:Val Ō) (m:Val Â) (k:((Val af))×(Val Â)→Option ρ) :
    tk (ù ρ) (Ŧ (ù ρ) 10) [] 300 (Ag ħ x) (jh ħ xs m) (H6 ħ fun zs m2=>k (zs,m2))=iF xs x.1 x.2.1 x.2.2 m k:=by kernel_rfl
def mM {rec:(Val af)→Int→Int→Int→(Val Â)→Option ((Val af)×(Val Â))}:(((Ġ (Æ rec ρ).P 274).elim [] (Û 0)).filter fun y=>Nat.beq y.1 0).length=1:=by kernel_rfl
def mN {rec:(Val af)→Int→Int→Int→(Val Â)→Option ((Val af)×(Val Â))} (p:Val aw) (v:Val Ã) (kn:Val aw→Val Ã→Option ρ) (kx:(i:Nat)→Val aw→Val (tyL (ă.zs i))→Option ρ) :
    goC (Æ rec ρ) (Ŧ (Æ rec ρ) (10-0 / 2)) 274 [] 2 0 (sW (Ġ (Æ rec ρ).P 274) 0) (ô ă.head ă.cs ă.vs p v) (D5 ă kn kx)=(ŝ rec ρ).bF p v (kn p) (fun i=>kx i p):=by kernel_rfl
def ny {rec:(Val af)→Int→Int→Int→(Val Â)→Option ((Val af)×(Val Â))}:(ŝ rec ρ).Ok (Æ rec ρ):=⟨mM,mN⟩
def mK {rec:(Val af)→Int→Int→Int→(Val Â)→Option ((Val af)×(Val Â))}:(((Ġ (Æ rec ρ).P 274).elim [] (Û 0)).filter fun y=>Nat.beq y.1 2).length=1:=by kernel_rfl
def mL {rec:(Val af)→Int→Int→Int→(Val Â)→Option ((Val af)×(Val Â))} (p:Val aD) (v:Val aB) (kn:Val aD→Val aB→Option ρ) (kx:(i:Nat)→Val aD→Val (tyL (Ă.zs i))→Option ρ) :
    goC (Æ rec ρ) (Ŧ (Æ rec ρ) (10-0 / 2)) 274 [] 2 2 (sW (Ġ (Æ rec ρ).P 274) 2) (ô Ă.head Ă.cs Ă.vs p v) (D5 Ă kn kx)=(Ŝ rec ρ).bF p v (kn p) (fun i=>kx i p):=by kernel_rfl
def nw {rec:(Val af)→Int→Int→Int→(Val Â)→Option ((Val af)×(Val Â))}:(Ŝ rec ρ).Ok (Æ rec ρ):=⟨mK,mL⟩
def mI {rec:(Val af)→Int→Int→Int→(Val Â)→Option ((Val af)×(Val Â))}:(((Ġ (Æ rec ρ).P 274).elim [] (Û 0)).filter fun y=>Nat.beq y.1 4).length=1:=by kernel_rfl
def mJ {rec:(Val af)→Int→Int→Int→(Val Â)→Option ((Val af)×(Val Â))} (p:Val aw) (v:Val Ã) (kn:Val aw→Val Ã→Option ρ) (kx:(i:Nat)→Val aw→Val (tyL (ā.zs i))→Option ρ) :
    goC (Æ rec ρ) (Ŧ (Æ rec ρ) (10-0 / 2)) 274 [] 2 4 (sW (Ġ (Æ rec ρ).P 274) 4) (ô ā.head ā.cs ā.vs p v) (D5 ā kn kx)=(ś rec ρ).bF p v (kn p) (fun i=>kx i p):=by kernel_rfl
def nu {rec:(Val af)→Int→Int→Int→(Val Â)→Option ((Val af)×(Val Â))}:(ś rec ρ).Ok (Æ rec ρ):=⟨mI,mJ⟩
def mG {rec:(Val af)→Int→Int→Int→(Val Â)→Option ((Val af)×(Val Â))}:(((Ġ (Æ rec ρ).P 274).elim [] (Û 0)).filter fun y=>Nat.beq y.1 6).length=1:=by kernel_rfl
def mH {rec:(Val af)→Int→Int→Int→(Val Â)→Option ((Val af)×(Val Â))} (p:Val aD) (v:Val aB) (kn:Val aD→Val aB→Option ρ) (kx:(i:Nat)→Val aD→Val (tyL (Ā.zs i))→Option ρ) :
    goC (Æ rec ρ) (Ŧ (Æ rec ρ) (10-0 / 2)) 274 [] 2 6 (sW (Ġ (Æ rec ρ).P 274) 6) (ô Ā.head Ā.cs Ā.vs p v) (D5 Ā kn kx)=(Ś rec ρ).bF p v (kn p) (fun i=>kx i p):=by kernel_rfl
def nt {rec:(Val af)→Int→Int→Int→(Val Â)→Option ((Val af)×(Val Â))}:(Ś rec ρ).Ok (Æ rec ρ):=⟨mG,mH⟩
def mE {rec:(Val af)→Int→Int→Int→(Val Â)→Option ((Val af)×(Val Â))}:(((Ġ (Æ rec ρ).P 274).elim [] (Û 0)).filter fun y=>Nat.beq y.1 8).length=1:=by kernel_rfl
def mF {rec:(Val af)→Int→Int→Int→(Val Â)→Option ((Val af)×(Val Â))} (p:Val aM) (v:Val Ã) (kn:Val aM→Val Ã→Option ρ) (kx:(i:Nat)→Val aM→Val (tyL (ÿ.zs i))→Option ρ) :
    goC (Æ rec ρ) (Ŧ (Æ rec ρ) (10-0 / 2)) 274 [] 2 8 (sW (Ġ (Æ rec ρ).P 274) 8) (ô ÿ.head ÿ.cs ÿ.vs p v) (D5 ÿ kn kx)=(ř rec ρ).bF p v (kn p) (fun i=>kx i p):=by kernel_rfl
def nr {rec:(Val af)→Int→Int→Int→(Val Â)→Option ((Val af)×(Val Â))}:(ř rec ρ).Ok (Æ rec ρ):=⟨mE,mF⟩
def oW {rec:(Val af)→Int→Int→Int→(Val Â)→Option ((Val af)×(Val Â))} (F:(Val af)→Val Ō→Val Â→Option ((Val af)×Val Â)) (xs:(Val af)) (x:Val Ō) (m:Val Â) (k:((Val af))×(Val Â)→Option ρ) :
    tk (Æ rec ρ) (Ŧ (Æ rec ρ) 10) [] 274 (Ag ⟨aj,[tI,tI,tI],179,Â,F⟩ x) (jh ⟨aj,[tI,tI,tI],179,Â,F⟩ xs m) (H6 ⟨aj,[tI,tI,tI],179,Â,F⟩ fun zs m2=>k (zs,m2))=Ğ rec xs x.1 x.2.1 x.2.2 m k:=by kernel_rfl
def oZ:(jc ρ).Ok (č ρ):=⟨by kernel_rfl,fun p v kn kx=>by kernel_rfl⟩
def oX:(ja ρ).Ok (č ρ):=⟨by kernel_rfl,fun p v kn kx=>by kernel_rfl⟩
def oY:(jb ρ).Ok (č ρ):=⟨by kernel_rfl,fun p v kn kx=>by kernel_rfl⟩
def rq (xs:(Val af)) (x:Val tI) (m:Val Â) (k:((Val af))×(Val Â)→Option ρ) :
    tk (č ρ) (Ŧ (č ρ) 10) [] 233 (Ag ě x) (jh ě xs m) (H6 ě fun zs m2=>k (zs,m2))=iE xs x m k:=by kernel_rfl
def I4:(((Ġ (δ ρ).P 230).elim [] (Û 0)).filter fun y=>Nat.beq y.1 0).length=1:=by kernel_rfl
def LX:Ox (lq (Ġ (δ ρ).P 230) 0)=true:=by kernel_rfl
def LV (p:Val ax) (v v':Val af):(ô kp [tI,tI,ag,ab,ah,ac,ab,ai,tI,tI,ag,ab,ah,ac,ab,ai] [af] p v').t=(ô kp [tI,tI,ag,ab,ah,ac,ab,ai,tI,tI,ag,ab,ah,ac,ab,ai] [af] p v).t:=by kernel_rfl
def LW (p:Val ax) (v:Val af):(ô kp [tI,tI,ag,ab,ah,ac,ab,ai,tI,tI,ag,ab,ah,ac,ab,ai] [af] p v).t.all (st3 4)=true:=by kernel_rfl
def I5 (p:Val ax) (v:Val af) (y:(Val aj)) (kn:Val ax→Val af→Option ρ):yY (δ ρ) (Ŧ (δ ρ) (10-6 / 2)) 230 [1,1,1,3,1,1] 4 0 (lq (Ġ (δ ρ).P 230) 0) (ô kp [tI,tI,ag,ab,ah,ac,ab,ai,tI,tI,ag,ab,ah,ac,ab,ai] [af] p v) (enc aj y) ((nX ρ).back kn)=(nX ρ).bF p v y (kn p):=by kernel_rfl
def LY (hit:jz Tryz.prog po):(nX ρ).Ok (δ ρ):=⟨I4,hit,LV,LW,I5⟩
def L1:(Cf ρ).Ok (δ ρ):=⟨by kernel_rfl,fun p v kn kx=>by kernel_rfl⟩
def LZ:(Cd ρ).Ok (δ ρ):=⟨by kernel_rfl,fun p v kn kx=>by kernel_rfl⟩
def SF (x:Val Â) (k:(Val af)→Option ρ) :
    ŧ (δ ρ) 81 [Â] [af] x k=Pd x k:=by kernel_rfl
def Vl (x:Val Â) (k:(Val (.pair af tI))→Option ρ) :
    ŧ (SP ρ) 19 [Â] [af,tI] x k=Vm x k:=by kernel_rfl
def II:(((Ġ (iV ρ).P 230).elim [] (Û 0)).filter fun y=>Nat.beq y.1 0).length=1:=by kernel_rfl
def LH:Ox (lq (Ġ (iV ρ).P 230) 0)=true:=by kernel_rfl
def LF (p:Val ae) (v v':Val af):(ô km [tI,tI,ag,ab,ah,ac,ab,ai] [af] p v').t=(ô km [tI,tI,ag,ab,ah,ac,ab,ai] [af] p v).t:=by kernel_rfl
def LG (p:Val ae) (v:Val af):(ô km [tI,tI,ag,ab,ah,ac,ab,ai] [af] p v).t.all (st3 3)=true:=by kernel_rfl
def IJ (p:Val ae) (v:Val af) (y:(Val aj)) (kn:Val ae→Val af→Option ρ):yY (iV ρ) (Ŧ (iV ρ) (10-4 / 2)) 230 [1,3,1,1] 3 0 (lq (Ġ (iV ρ).P 230) 0) (ô km [tI,tI,ag,ab,ah,ac,ab,ai] [af] p v) (enc aj y) ((nW ρ).back kn)=(nW ρ).bF p v y (kn p):=by kernel_rfl
def LJ (hit:jz Tryz.prog po):(nW ρ).Ok (iV ρ):=⟨II,hit,LF,LG,IJ⟩
def Sx (x:Val Â) (k:(Val af)→Option ρ) :
    ŧ (iV ρ) 96 [Â] [af] x k=O5 x k:=by kernel_rfl
def AG:(qo ρ).Ok (oS ρ):=⟨by kernel_rfl,fun p v kn kx=>by kernel_rfl⟩
def Et (x:Val Â) (k:(Val (.pair aj .bool))→Option ρ) :
    ŧ (oS ρ) 82 [Â] [aj,.bool] x k=tQ x k:=by kernel_rfl
def Pm (x:Val Â) (k:(Val (.pair aj tI))→Option ρ) :
    ŧ (Jd ρ) 20 [Â] [aj,tI] x k=Je x k:=by kernel_rfl
def AK:(qy ρ).Ok (ph ρ):=⟨by kernel_rfl,fun p v kn kx=>by kernel_rfl⟩
def EF (x:Val (.pair aa aa)) (k:Bool→Option ρ) :
    ŧ (ph ρ) 35 [aa,aa] [.bool] x k=tZ x.1 x.2 k:=by kernel_rfl
def Cv:(sI ρ).Ok (rt ρ):=⟨by kernel_rfl,fun p v kn kx=>by kernel_rfl⟩
def GZ (x:Val (.pair aj aj)) (k:Bool→Option ρ) :
    ŧ (rt ρ) 26 [aj,aj] [.bool] x k=wL x.1 x.2 k:=by kernel_rfl
def IL:(zh ρ).Ok (AE ρ):=⟨by kernel_rfl,fun p v kn kx=>by kernel_rfl⟩
def O9 (x:Val (.pair Â Ã)) (k:Int→Option ρ) :
    ŧ (AE ρ) 88 [Â,tI,tI] [tI] x k=IM x.1 x.2.1 x.2.2 k:=by kernel_rfl
def MQ (x:Val (.pair aa aa)) (k:(Val (.pair aa ay))→Option ρ) :
    ŧ (Gc ρ) 91 [aa,aa] [aa,aa,tI] x k=E8 x.1 x.2 k:=by kernel_rfl
def AI:(qt ρ).Ok (kq ρ):=⟨by kernel_rfl,fun p v kn kx=>by kernel_rfl⟩
def AH:(qq ρ).Ok (kq ρ):=⟨by kernel_rfl,fun p v kn kx=>by kernel_rfl⟩
def Ey (x:Val (.pair Â tI)) (k:(Val aH)→Option ρ) :
    ŧ (kq ρ) 28 [Â,tI] [.bool,tI] x k=tR x.1 x.2 k:=by kernel_rfl
def LN:(Ca ρ).Ok (xO ρ):=⟨by kernel_rfl,fun p v kn kx=>by kernel_rfl⟩
def LM:(B8 ρ).Ok (xO ρ):=⟨by kernel_rfl,fun p v kn kx=>by kernel_rfl⟩
def Sz (x:Val (.pair Â aa)) (k:Val Â→Option ρ) :
    ŧ (xO ρ) 87 [Â,aa] [Â] x k=O6 x.1 x.2 k:=by kernel_rfl
def L8:(Cs ρ).Ok (xP ρ):=⟨by kernel_rfl,fun p v kn kx=>by kernel_rfl⟩
def L7:(Cr ρ).Ok (xP ρ):=⟨by kernel_rfl,fun p v kn kx=>by kernel_rfl⟩
def SN (x:Val Â) (k:(Val ay)→Option ρ) :
    ŧ (xP ρ) 29 [Â] [aa,tI] x k=Pq x k:=by kernel_rfl
def GN:(wz ρ).Ok (wA ρ):=⟨by kernel_rfl,fun p v kn kx=>by kernel_rfl⟩
def L3 (x:Val ay) (k:(Val aa)→Option ρ) :
    ŧ (wA ρ) 98 [aa,tI] [aa] x k=Ew x.1 x.2 k:=by kernel_rfl
def Cp:(sk ρ).Ok (į ρ):=⟨by kernel_rfl,fun p v kn kx=>by kernel_rfl⟩
def Cq:(sm ρ).Ok (į ρ):=⟨by kernel_rfl,fun p v kn kx=>by kernel_rfl⟩
def Co:(si ρ).Ok (į ρ):=⟨by kernel_rfl,fun p v kn kx=>by kernel_rfl⟩
def Cn:(sg ρ).Ok (į ρ):=⟨by kernel_rfl,fun p v kn kx=>by kernel_rfl⟩
def Cl:(sc ρ).Ok (į ρ):=⟨by kernel_rfl,fun p v kn kx=>by kernel_rfl⟩
def Ck:(rZ ρ).Ok (į ρ):=⟨by kernel_rfl,fun p v kn kx=>by kernel_rfl⟩
def Cj:(rX ρ).Ok (į ρ):=⟨by kernel_rfl,fun p v kn kx=>by kernel_rfl⟩
def Cm:(se ρ).Ok (į ρ):=⟨by kernel_rfl,fun p v kn kx=>by kernel_rfl⟩
def GR (x:Val (.pair Â aa)) (k:(Val ay)→Option ρ) :
    ŧ (į ρ) 30 [Â,aa] [aa,tI] x k=wC x.1 x.2 k:=by kernel_rfl
def SJ (x:Val Â) (k:(Val (.pair af tI))→Option ρ) :
    ŧ (ND ρ) 40 [Â] [af,tI] x k=Ph x k:=by kernel_rfl
def Qg (x:Val aJ) (k:Val Ã→Option ρ) :
    ŧ (J5 ρ) 68 [É,Ã] [tI,tI] x k=J6 x.1 x.2 k:=by kernel_rfl
def MO:(De ρ).Ok (E7 ρ):=⟨by kernel_rfl,fun p v kn kx=>by kernel_rfl⟩
def TB (x:Val aJ) (k:(Val (.pair É tI))→Option ρ) :
    ŧ (E7 ρ) 69 [É,Ã] [É,tI] x k=Qe x.1 x.2 k:=by kernel_rfl
def Jp:(zz ρ).Ok (AO ρ):=⟨by kernel_rfl,fun p v kn kx=>by kernel_rfl⟩
def PA (x:Val bi) (k:Int→Option ρ) :
    ŧ (AO ρ) 133 [Ì,aa] [tI] x k=Jq x.1 x.2 k:=by kernel_rfl
end Go.Proofs.ZzM
end
