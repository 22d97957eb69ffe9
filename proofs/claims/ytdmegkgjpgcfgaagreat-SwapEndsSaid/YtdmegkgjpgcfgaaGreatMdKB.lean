/- lemmas -/
import Derived.Test.YtdmegkgjpgcfgaaGreatMdMA
set_option linter.all false
set_option linter.unusedSectionVars false
set_option linter.unusedVariables false
set_option linter.unusedSimpArgs false
noncomputable section
variable {ρ:Type}
set_option maxRecDepth 100000
namespace Go.Proofs.ZzM
open Go Go.Am
def HE:(xf ρ).Ok (qA ρ):=⟨by kernel_rfl,fun p v kn kx=>by kernel_rfl⟩
def HD:(xd ρ).Ok (qA ρ):=⟨by kernel_rfl,fun p v kn kx=>by kernel_rfl⟩
def MQ (x:Val Â) (k:Bool→Option ρ) :
    š (qA ρ) 15 [Â] [.bool] x k=Fm x k:=by kernel_rfl
def Lh:(AW ρ).Ok (BX ρ):=⟨by kernel_rfl,fun p v kn kx=>by kernel_rfl⟩
def RA (x:Val (.pair Ê œ)) (k:Int→Option ρ) :
    š (BX ρ) 269 [Ê,tI,aa] [tI] x k=Li x.1 x.2.1 x.2.2 k:=by kernel_rfl
def U7 (x:Val aK) (k:(Val aH)→Option ρ) :
    š (Pa ρ) 226 [Ê,tI,tI] [.bool,tI] x k=RH x.1 x.2.1 x.2.2 k:=by kernel_rfl
def J5:(Ap ρ).Ok (j7 ρ):=⟨by kernel_rfl,fun p v kn kx=>by kernel_rfl⟩
def J4:(Al ρ).Ok (j7 ρ):=⟨by kernel_rfl,fun p v kn kx=>by kernel_rfl⟩
def J3:(Ak ρ).Ok (j7 ρ):=⟨by kernel_rfl,fun p v kn kx=>by kernel_rfl⟩
def J2:(Aj ρ).Ok (j7 ρ):=⟨by kernel_rfl,fun p v kn kx=>by kernel_rfl⟩
def J1:(Ai ρ).Ok (j7 ρ):=⟨by kernel_rfl,fun p v kn kx=>by kernel_rfl⟩
def Qu (x:Val (.pair Ê (.pair ai tI))) (k:Int→Option ρ) :
    š (j7 ρ) 156 [Ê,ai,tI] [tI] x k=J6 x.1 x.2.1 x.2.2 k:=by kernel_rfl
def Kk:(Au ρ).Ok (uQ ρ):=⟨by kernel_rfl,fun p v kn kx=>by kernel_rfl⟩
def Kl:(Aw ρ).Ok (uQ ρ):=⟨by kernel_rfl,fun p v kn kx=>by kernel_rfl⟩
def QJ (x:Val Â) (k:Int→Option ρ) :
    š (uQ ρ) 80 [Â] [tI] x k=Kn x k:=by kernel_rfl
def kS:(η ρ).Ok (ŝ ρ):=⟨by kernel_rfl,fun p v kn kx=>by kernel_rfl⟩
def mq (x:Val (.pair ab Ã)) (k:Int→Option ρ) :
    š (ŝ ρ) 135 [ab,Ã] [tI] x k=Ÿ x.1 x.2 k:=by kernel_rfl
def Il (x:Val (.pair aD aw)) (k:Int→Option ρ) :
    š (AU ρ) 147 [aD,aa,tI] [tI] x k=yb x.1 x.2.1 x.2.2 k:=by kernel_rfl
def NN:(DS ρ).Ok (yS ρ):=⟨by kernel_rfl,fun p v kn kx=>by kernel_rfl⟩
def NM:(DQ ρ).Ok (yS ρ):=⟨by kernel_rfl,fun p v kn kx=>by kernel_rfl⟩
def UP (x:Val (.pair Ê (.pair Õ Ã))) (k:Int→Option ρ) :
    š (yS ρ) 247 [Ê,Õ,tI,tI] [tI] x k=Rm x.1 x.2.1 x.2.2.1 x.2.2.2 k:=by kernel_rfl
def zM (x:Val (.pair am aa)) (k:Val Ã→Option ρ) :
    š (rl ρ) 261 [am,aa] [Ã] x k=oe x.1 x.2 k:=by kernel_rfl
def KN:(AM ρ).Ok (BI ρ):=⟨by kernel_rfl,fun p v kn kx=>by kernel_rfl⟩
def Q5 (x:Val ab) (k:Int→Option ρ) :
    š (BI ρ) 264 [ab] [tI] x k=KO x k:=by kernel_rfl
def KQ (x:Val Ã) (k:Val Cl→Option ρ) :
    š (DA ρ) 312 [tI,tI] [Ã,tI] x k=BJ x.1 x.2 k:=by kernel_rfl
def Xw (x:Val Ė) (k:Val Cl→Option ρ) :
    š (UD ρ) 296 [Ã,Ã] [Ã,tI] x k=Xx x.1 x.2 k:=by kernel_rfl
def FX (x:Val Ė) (k:Val Ã→Option ρ) :
    š (xY ρ) 262 [Ã,Ã] [Ã] x k=vl x.1 x.2 k:=by kernel_rfl
def Xt (x:Val Ė) (k:Int→Option ρ) :
    š (UB ρ) 320 [Ã,Ã] [tI] x k=Xu x.1 x.2 k:=by kernel_rfl
def DC (x:Val Ė) (k:Bool→Option ρ) :
    š (wn ρ) 313 [Ė] [.bool] x k=sj x k:=by kernel_rfl
def Xz (x:Val Ė) (k:Val Cl→Option ρ) :
    š (UF ρ) 316 [Ã,Ã] [Ã,tI] x k=XA x.1 x.2 k:=by kernel_rfl
def Rc (x:Val (.pair Ė Ã)) (k:Val ab2→Option ρ) :
    š (BK ρ) 297 [Ė,Ã] [Ė,tI] x k=KW x.1 x.2 k:=by kernel_rfl
def FV (x:Val Ė) (k:Val Ė→Option ρ) :
    š (xX ρ) 263 [Ã,Ã] [Ė] x k=vk x.1 x.2 k:=by kernel_rfl
def NX (x:Val aX) (k:Val Ė→Option ρ) :
    š (He ρ) 215 [Ê,â] [Ė] x k=F3 x.1 x.2 k:=by kernel_rfl
def Rv (x:Val aX) (k:Val Ã→Option ρ) :
    š (Lf ρ) 216 [Ê,â] [Ã] x k=Lg x.1 x.2 k:=by kernel_rfl
def Q9 (x:Val Ã) (k:Int→Option ρ) :
    š (KS ρ) 265 [tI,tI] [tI] x k=KT x.1 x.2 k:=by kernel_rfl
def UI (x:Val Ã) (k:Val Ã→Option ρ) :
    š (O7 ρ) 217 [Ã] [tI,tI] x k=Rg x k:=by kernel_rfl
def Rf (x:Val Ã) (k:Val Ã→Option ρ) :
    š (KX ρ) 218 [Ã] [tI,tI] x k=KY x k:=by kernel_rfl
def UK (x:Val aX) (k:Val Ã→Option ρ) :
    š (O8 ρ) 248 [Ê,â] [Ã] x k=Ri x.1 x.2 k:=by kernel_rfl
def NK:(DL ρ).Ok (tR ρ):=⟨by kernel_rfl,fun p v kn kx=>by kernel_rfl⟩
def NL:(DN ρ).Ok (tR ρ):=⟨by kernel_rfl,fun p v kn kx=>by kernel_rfl⟩
def NJ:(DJ ρ).Ok (tR ρ):=⟨by kernel_rfl,fun p v kn kx=>by kernel_rfl⟩
def UN (x:Val Ê) (k:(Val aD)→Option ρ) :
    š (tR ρ) 132 [Ê] [aD] x k=Rl x k:=by kernel_rfl
def N2 (x:Val Ê) (k:(Val (.pair Ì bg))→Option ρ) :
    š (Hf ρ) 66 [Ê] [Ì,ab,tI] x k=F7 x k:=by kernel_rfl
def Qk:(G0 ρ).Ok (JN ρ):=⟨by kernel_rfl,fun p v kn kx=>by kernel_rfl⟩
def WY (x:Val bc) (k:Int→Option ρ) :
    š (JN ρ) 105 [Â,aj,tI,tI] [tI] x k=WZ x.1 x.2.1 x.2.2.1 x.2.2.2 k:=by kernel_rfl
def xl:(oj ρ).Ok (me ρ):=⟨by kernel_rfl,fun p v kn kx=>by kernel_rfl⟩
def Bs (x:Val (.pair aa (.pair tI (.pair ar aG)))) (k:(Val aa)→Option ρ) :
    š (me ρ) 183 [aa,tI,ar,aG] [aa] x k=pr x.1 x.2.1 x.2.2.1 x.2.2.2 k:=by kernel_rfl
def Bq:(qM ρ).Ok (ų ρ):=⟨by kernel_rfl,fun p v kn kx=>by kernel_rfl⟩
def Bp:(qK ρ).Ok (ų ρ):=⟨by kernel_rfl,fun p v kn kx=>by kernel_rfl⟩
def Bo:(qI ρ).Ok (ų ρ):=⟨by kernel_rfl,fun p v kn kx=>by kernel_rfl⟩
def Bn:(qG ρ).Ok (ų ρ):=⟨by kernel_rfl,fun p v kn kx=>by kernel_rfl⟩
def Ft (x:Val aI) (k:Val Ê→Option ρ) :
    š (ų ρ) 104 [Â,aj] [Ê] x k=uJ x.1 x.2 k:=by kernel_rfl
def Un (x:Val (.pair Ì tI)) (k:Bool→Option ρ) :
    š (OY ρ) 196 [Ì,tI] [.bool] x k=QM x.1 x.2 k:=by kernel_rfl
def KJ:(AK ρ).Ok (BH ρ):=⟨by kernel_rfl,fun p v kn kx=>by kernel_rfl⟩
def Q0 (x:Val Ì) (k:Val Ã→Option ρ) :
    š (BH ρ) 126 [Ì] [tI,tI] x k=KK x k:=by kernel_rfl
def Dp:(tO ρ).Ok (Ω ρ):=⟨by kernel_rfl,fun p v kn kx=>by kernel_rfl⟩
def Dn:(tM ρ).Ok (Ω ρ):=⟨by kernel_rfl,fun p v kn kx=>by kernel_rfl⟩
def Dl:(tG ρ).Ok (Ω ρ):=⟨by kernel_rfl,fun p v kn kx=>by kernel_rfl⟩
def Dm:(tK ρ).Ok (Ω ρ):=⟨by kernel_rfl,fun p v kn kx=>by kernel_rfl⟩
def Dk:(tF ρ).Ok (Ω ρ):=⟨by kernel_rfl,fun p v kn kx=>by kernel_rfl⟩
def H9 (x:Val (.pair Ì ao)) (k:(Val (.pair aa .bool))→Option ρ) :
    š (Ω ρ) 127 [Ì,ao] [aa,.bool] x k=xJ x.1 x.2 k:=by kernel_rfl
def Dw (x:Val Ì) (k:(Val aH)→Option ρ) :
    š (wj ρ) 155 [Ì] [.bool,tI] x k=sh x k:=by kernel_rfl
def HP (x:Val aI) (k:Bool→Option ρ) :
    š (Ar ρ) 79 [Â,aj] [.bool] x k=xp x.1 x.2 k:=by kernel_rfl
def HI:(xh ρ).Ok (qF ρ):=⟨by kernel_rfl,fun p v kn kx=>by kernel_rfl⟩
def HJ:(xj ρ).Ok (qF ρ):=⟨by kernel_rfl,fun p v kn kx=>by kernel_rfl⟩
def MT (x:Val aI) (k:Int→Option ρ) :
    š (qF ρ) 116 [Â,aj] [tI] x k=Fq x.1 x.2 k:=by kernel_rfl
def BM (x:Val tI) (k:Bool→Option ρ) :
    š (tQ ρ) 234 [tI] [.bool] x k=pN x k:=by kernel_rfl
def xW (x:Val Ã) (k:Int→Option ρ) :
    š (pO ρ) 180 [tI,tI] [tI] x k=mu x.1 x.2 k:=by kernel_rfl
def MZ (x:Val (.pair aj (.pair aj ar))) (k:Int→Option ρ) :
    š (G4 ρ) 179 [aj,aj,ar] [tI] x k=Fs x.1 x.2.1 x.2.2 k:=by kernel_rfl
def kz:(Ν ρ).Ok (ò ρ):=⟨by kernel_rfl,fun p v kn kx=>by kernel_rfl⟩
def kB:(Ξ ρ).Ok (ò ρ):=⟨by kernel_rfl,fun p v kn kx=>by kernel_rfl⟩
def lG (xs:(Val af)) (x:Val Ã) (m:Val Â) (k:((Val af))×(Val Â)→Option ρ) :
    uh (ò ρ) (Ű (ò ρ) 10) [] 273 (Bb Ā x) (jw Ā xs m) (Jf Ā fun zs m2=>k (zs,m2))=Ũ xs x.1 x.2 m k:=by kernel_rfl
def pI:(ju ρ).Ok (û ρ):=⟨by kernel_rfl,fun p v kn kx=>by kernel_rfl⟩
def pH:(jt ρ).Ok (û ρ):=⟨by kernel_rfl,fun p v kn kx=>by kernel_rfl⟩
def pJ:(jv ρ).Ok (û ρ):=⟨by kernel_rfl,fun p v kn kx=>by kernel_rfl⟩
def pG:(jr ρ).Ok (û ρ):=⟨by kernel_rfl,fun p v kn kx=>by kernel_rfl⟩
def sf (xs:(Val af)) (x:Val ŕ) (m:Val Â) (k:((Val af))×(Val Â)→Option ρ) :
    uh (û ρ) (Ű (û ρ) 10) [] 300 (Bb ī x) (jw ī xs m) (Jf ī fun zs m2=>k (zs,m2))=iV xs x.1 x.2.1 x.2.2 m k:=by kernel_rfl
def nt {rec:(Val af)→Int→Int→Int→(Val Â)→Option ((Val af)×(Val Â))}:(((ģ (Æ rec ρ).P 274).elim [] (Û 0)).filter fun y=>Nat.beq y.1 0).length=1:=by kernel_rfl
def nu {rec:(Val af)→Int→Int→Int→(Val Â)→Option ((Val af)×(Val Â))} (p:Val au) (v:Val Ã) (kn:Val au→Val Ã→Option ρ) (kx:(i:Nat)→Val au→Val (tyL (ą.zs i))→Option ρ) :
    goC (Æ rec ρ) (Ű (Æ rec ρ) (10-0 / 2)) 274 [] 2 0 (tS (ģ (Æ rec ρ).P 274) 0) (õ ą.head ą.cs ą.vs p v) (EX ą kn kx)=(ŧ rec ρ).bF p v (kn p) (fun i=>kx i p):=by kernel_rfl
def od {rec:(Val af)→Int→Int→Int→(Val Â)→Option ((Val af)×(Val Â))}:(ŧ rec ρ).Ok (Æ rec ρ):=⟨nt,nu⟩
def nq {rec:(Val af)→Int→Int→Int→(Val Â)→Option ((Val af)×(Val Â))}:(((ģ (Æ rec ρ).P 274).elim [] (Û 0)).filter fun y=>Nat.beq y.1 2).length=1:=by kernel_rfl
def nr {rec:(Val af)→Int→Int→Int→(Val Â)→Option ((Val af)×(Val Â))} (p:Val aB) (v:Val az) (kn:Val aB→Val az→Option ρ) (kx:(i:Nat)→Val aB→Val (tyL (Ą.zs i))→Option ρ) :
    goC (Æ rec ρ) (Ű (Æ rec ρ) (10-0 / 2)) 274 [] 2 2 (tS (ģ (Æ rec ρ).P 274) 2) (õ Ą.head Ą.cs Ą.vs p v) (EX Ą kn kx)=(Ŧ rec ρ).bF p v (kn p) (fun i=>kx i p):=by kernel_rfl
def oc {rec:(Val af)→Int→Int→Int→(Val Â)→Option ((Val af)×(Val Â))}:(Ŧ rec ρ).Ok (Æ rec ρ):=⟨nq,nr⟩
def nl {rec:(Val af)→Int→Int→Int→(Val Â)→Option ((Val af)×(Val Â))}:(((ģ (Æ rec ρ).P 274).elim [] (Û 0)).filter fun y=>Nat.beq y.1 4).length=1:=by kernel_rfl
def np {rec:(Val af)→Int→Int→Int→(Val Â)→Option ((Val af)×(Val Â))} (p:Val au) (v:Val Ã) (kn:Val au→Val Ã→Option ρ) (kx:(i:Nat)→Val au→Val (tyL (ă.zs i))→Option ρ) :
    goC (Æ rec ρ) (Ű (Æ rec ρ) (10-0 / 2)) 274 [] 2 4 (tS (ģ (Æ rec ρ).P 274) 4) (õ ă.head ă.cs ă.vs p v) (EX ă kn kx)=(ť rec ρ).bF p v (kn p) (fun i=>kx i p):=by kernel_rfl
def ob {rec:(Val af)→Int→Int→Int→(Val Â)→Option ((Val af)×(Val Â))}:(ť rec ρ).Ok (Æ rec ρ):=⟨nl,np⟩
def nh {rec:(Val af)→Int→Int→Int→(Val Â)→Option ((Val af)×(Val Â))}:(((ģ (Æ rec ρ).P 274).elim [] (Û 0)).filter fun y=>Nat.beq y.1 6).length=1:=by kernel_rfl
def nk {rec:(Val af)→Int→Int→Int→(Val Â)→Option ((Val af)×(Val Â))} (p:Val aB) (v:Val az) (kn:Val aB→Val az→Option ρ) (kx:(i:Nat)→Val aB→Val (tyL (Ă.zs i))→Option ρ) :
    goC (Æ rec ρ) (Ű (Æ rec ρ) (10-0 / 2)) 274 [] 2 6 (tS (ģ (Æ rec ρ).P 274) 6) (õ Ă.head Ă.cs Ă.vs p v) (EX Ă kn kx)=(Ť rec ρ).bF p v (kn p) (fun i=>kx i p):=by kernel_rfl
def oa {rec:(Val af)→Int→Int→Int→(Val Â)→Option ((Val af)×(Val Â))}:(Ť rec ρ).Ok (Æ rec ρ):=⟨nh,nk⟩
def nf {rec:(Val af)→Int→Int→Int→(Val Â)→Option ((Val af)×(Val Â))}:(((ģ (Æ rec ρ).P 274).elim [] (Û 0)).filter fun y=>Nat.beq y.1 8).length=1:=by kernel_rfl
def ng {rec:(Val af)→Int→Int→Int→(Val Â)→Option ((Val af)×(Val Â))} (p:Val aP) (v:Val Ã) (kn:Val aP→Val Ã→Option ρ) (kx:(i:Nat)→Val aP→Val (tyL (ā.zs i))→Option ρ) :
    goC (Æ rec ρ) (Ű (Æ rec ρ) (10-0 / 2)) 274 [] 2 8 (tS (ģ (Æ rec ρ).P 274) 8) (õ ā.head ā.cs ā.vs p v) (EX ā kn kx)=(ţ rec ρ).bF p v (kn p) (fun i=>kx i p):=by kernel_rfl
def nZ {rec:(Val af)→Int→Int→Int→(Val Â)→Option ((Val af)×(Val Â))}:(ţ rec ρ).Ok (Æ rec ρ):=⟨nf,ng⟩
def pC {rec:(Val af)→Int→Int→Int→(Val Â)→Option ((Val af)×(Val Â))} (F:(Val af)→Val ŕ→Val Â→Option ((Val af)×Val Â)) (xs:(Val af)) (x:Val ŕ) (m:Val Â) (k:((Val af))×(Val Â)→Option ρ) :
    uh (Æ rec ρ) (Ű (Æ rec ρ) 10) [] 274 (Bb ⟨aj,[tI,tI,tI],179,Â,F⟩ x) (jw ⟨aj,[tI,tI,tI],179,Â,F⟩ xs m) (Jf ⟨aj,[tI,tI,tI],179,Â,F⟩ fun zs m2=>k (zs,m2))=ġ rec xs x.1 x.2.1 x.2.2 m k:=by kernel_rfl
def pF:(jq ρ).Ok (ď ρ):=⟨by kernel_rfl,fun p v kn kx=>by kernel_rfl⟩
def pD:(jo ρ).Ok (ď ρ):=⟨by kernel_rfl,fun p v kn kx=>by kernel_rfl⟩
def pE:(jp ρ).Ok (ď ρ):=⟨by kernel_rfl,fun p v kn kx=>by kernel_rfl⟩
def se (xs:(Val af)) (x:Val tI) (m:Val Â) (k:((Val af))×(Val Â)→Option ρ) :
    uh (ď ρ) (Ű (ď ρ) 10) [] 233 (Bb ĝ x) (jw ĝ xs m) (Jf ĝ fun zs m2=>k (zs,m2))=iU xs x m k:=by kernel_rfl
def J8:(((ģ (χ ρ).P 230).elim [] (Û 0)).filter fun y=>Nat.beq y.1 0).length=1:=by kernel_rfl
def Nd:PT (lT (ģ (χ ρ).P 230) 0)=true:=by kernel_rfl
def Nb (p:Val ax) (v v':Val af):(õ kM [tI,tI,ag,ab,ah,ae,ab,ai,tI,tI,ag,ab,ah,ae,ab,ai] [af] p v').t=(õ kM [tI,tI,ag,ab,ah,ae,ab,ai,tI,tI,ag,ab,ah,ae,ab,ai] [af] p v).t:=by kernel_rfl
def Nc (p:Val ax) (v:Val af):(õ kM [tI,tI,ag,ab,ah,ae,ab,ai,tI,tI,ag,ab,ah,ae,ab,ai] [af] p v).t.all (st3 4)=true:=by kernel_rfl
def J9 (p:Val ax) (v:Val af) (y:(Val aj)) (kn:Val ax→Val af→Option ρ):zW (χ ρ) (Ű (χ ρ) (10-6 / 2)) 230 [1,1,1,3,1,1] 4 0 (lT (ģ (χ ρ).P 230) 0) (õ kM [tI,tI,ag,ab,ah,ae,ab,ai,tI,tI,ag,ab,ah,ae,ab,ai] [af] p v) (enc aj y) ((oB ρ).back kn)=(oB ρ).bF p v y (kn p):=by kernel_rfl
def Nf (hit:jP Tryz.prog pT):(oB ρ).Ok (χ ρ):=⟨J8,hit,Nb,Nc,J9⟩
def Nh:(C0 ρ).Ok (χ ρ):=⟨by kernel_rfl,fun p v kn kx=>by kernel_rfl⟩
def Ng:(CY ρ).Ok (χ ρ):=⟨by kernel_rfl,fun p v kn kx=>by kernel_rfl⟩
def T9 (x:Val Â) (k:(Val af)→Option ρ) :
    š (χ ρ) 81 [Â] [af] x k=Qv x k:=by kernel_rfl
def Xf (x:Val Â) (k:(Val (.pair af tI))→Option ρ) :
    š (Uj ρ) 19 [Â] [af,tI] x k=Xg x k:=by kernel_rfl
def JQ:(((ģ (je ρ).P 230).elim [] (Û 0)).filter fun y=>Nat.beq y.1 0).length=1:=by kernel_rfl
def MW:PT (lT (ģ (je ρ).P 230) 0)=true:=by kernel_rfl
def MU (p:Val ac) (v v':Val af):(õ kL [tI,tI,ag,ab,ah,ae,ab,ai] [af] p v').t=(õ kL [tI,tI,ag,ab,ah,ae,ab,ai] [af] p v).t:=by kernel_rfl
def MV (p:Val ac) (v:Val af):(õ kL [tI,tI,ag,ab,ah,ae,ab,ai] [af] p v).t.all (st3 3)=true:=by kernel_rfl
def JR (p:Val ac) (v:Val af) (y:(Val aj)) (kn:Val ac→Val af→Option ρ):zW (je ρ) (Ű (je ρ) (10-4 / 2)) 230 [1,3,1,1] 3 0 (lT (ģ (je ρ).P 230) 0) (õ kL [tI,tI,ag,ab,ah,ae,ab,ai] [af] p v) (enc aj y) ((oA ρ).back kn)=(oA ρ).bF p v y (kn p):=by kernel_rfl
def MX (hit:jP Tryz.prog pT):(oA ρ).Ok (je ρ):=⟨JQ,hit,MU,MV,JR⟩
def T3 (x:Val Â) (k:(Val af)→Option ρ) :
    š (je ρ) 96 [Â] [af] x k=Qn x k:=by kernel_rfl
def Bz:(qQ ρ).Ok (pw ρ):=⟨by kernel_rfl,fun p v kn kx=>by kernel_rfl⟩
def Fw (x:Val Â) (k:(Val (.pair aj .bool))→Option ρ) :
    š (pw ρ) 82 [Â] [aj,.bool] x k=uM x k:=by kernel_rfl
def QD (x:Val Â) (k:(Val (.pair aj tI))→Option ρ) :
    š (Ki ρ) 20 [Â] [aj,tI] x k=Kj x k:=by kernel_rfl
def BD:(qZ ρ).Ok (pM ρ):=⟨by kernel_rfl,fun p v kn kx=>by kernel_rfl⟩
def FH (x:Val (.pair aa aa)) (k:Bool→Option ρ) :
    š (pM ρ) 35 [aa,aa] [.bool] x k=uV x.1 x.2 k:=by kernel_rfl
def Dh:(tE ρ).Ok (sg ρ):=⟨by kernel_rfl,fun p v kn kx=>by kernel_rfl⟩
def H6 (x:Val (.pair aj aj)) (k:Bool→Option ρ) :
    š (sg ρ) 26 [aj,aj] [.bool] x k=xI x.1 x.2 k:=by kernel_rfl
def JT:(Af ρ).Ok (Bx ρ):=⟨by kernel_rfl,fun p v kn kx=>by kernel_rfl⟩
def Qr (x:Val aZ) (k:Int→Option ρ) :
    š (Bx ρ) 88 [Â,tI,tI] [tI] x k=JU x.1 x.2.1 x.2.2 k:=by kernel_rfl
def N5 (x:Val (.pair aa aa)) (k:(Val (.pair aa aw))→Option ρ) :
    š (Hg ρ) 91 [aa,aa] [aa,aa,tI] x k=F9 x.1 x.2 k:=by kernel_rfl
def BB:(qU ρ).Ok (kO ρ):=⟨by kernel_rfl,fun p v kn kx=>by kernel_rfl⟩
def BA:(qS ρ).Ok (kO ρ):=⟨by kernel_rfl,fun p v kn kx=>by kernel_rfl⟩
def FA (x:Val (.pair Â tI)) (k:(Val aH)→Option ρ) :
    š (kO ρ) 28 [Â,tI] [.bool,tI] x k=uN x.1 x.2 k:=by kernel_rfl
def M4:(CV ρ).Ok (yN ρ):=⟨by kernel_rfl,fun p v kn kx=>by kernel_rfl⟩
def M3:(CT ρ).Ok (yN ρ):=⟨by kernel_rfl,fun p v kn kx=>by kernel_rfl⟩
def T5 (x:Val (.pair Â aa)) (k:Val Â→Option ρ) :
    š (yN ρ) 87 [Â,aa] [Â] x k=Qo x.1 x.2 k:=by kernel_rfl
def Np:(De ρ).Ok (yO ρ):=⟨by kernel_rfl,fun p v kn kx=>by kernel_rfl⟩
def No:(Dc ρ).Ok (yO ρ):=⟨by kernel_rfl,fun p v kn kx=>by kernel_rfl⟩
def Uh (x:Val Â) (k:(Val aw)→Option ρ) :
    š (yO ρ) 29 [Â] [aa,tI] x k=QH x k:=by kernel_rfl
def HS:(xw ρ).Ok (xx ρ):=⟨by kernel_rfl,fun p v kn kx=>by kernel_rfl⟩
def Nj (x:Val aw) (k:(Val aa)→Option ρ) :
    š (xx ρ) 98 [aa,tI] [aa] x k=Fy x.1 x.2 k:=by kernel_rfl
def Da:(tf ρ).Ok (ĺ ρ):=⟨by kernel_rfl,fun p v kn kx=>by kernel_rfl⟩
def Db:(tj ρ).Ok (ĺ ρ):=⟨by kernel_rfl,fun p v kn kx=>by kernel_rfl⟩
def C9:(tc ρ).Ok (ĺ ρ):=⟨by kernel_rfl,fun p v kn kx=>by kernel_rfl⟩
def C8:(s9 ρ).Ok (ĺ ρ):=⟨by kernel_rfl,fun p v kn kx=>by kernel_rfl⟩
def C6:(sY ρ).Ok (ĺ ρ):=⟨by kernel_rfl,fun p v kn kx=>by kernel_rfl⟩
def C5:(sW ρ).Ok (ĺ ρ):=⟨by kernel_rfl,fun p v kn kx=>by kernel_rfl⟩
def C4:(sR ρ).Ok (ĺ ρ):=⟨by kernel_rfl,fun p v kn kx=>by kernel_rfl⟩
def C7:(s7 ρ).Ok (ĺ ρ):=⟨by kernel_rfl,fun p v kn kx=>by kernel_rfl⟩
def HW (x:Val (.pair Â aa)) (k:(Val aw)→Option ρ) :
    š (ĺ ρ) 30 [Â,aa] [aa,tI] x k=xz x.1 x.2 k:=by kernel_rfl
def Ud (x:Val Â) (k:(Val (.pair af tI))→Option ρ) :
    š (OX ρ) 40 [Â] [af,tI] x k=Qz x k:=by kernel_rfl
def RE (x:Val aK) (k:Val Ã→Option ρ) :
    š (Lj ρ) 68 [Ê,Ã] [tI,tI] x k=Ll x.1 x.2 k:=by kernel_rfl
def N3:(D6 ρ).Ok (F8 ρ):=⟨by kernel_rfl,fun p v kn kx=>by kernel_rfl⟩
def U0 (x:Val aK) (k:(Val (.pair Ê tI))→Option ρ) :
    š (F8 ρ) 69 [Ê,Ã] [Ê,tI] x k=RC x.1 x.2 k:=by kernel_rfl
def Kv:(Ay ρ).Ok (BG ρ):=⟨by kernel_rfl,fun p v kn kx=>by kernel_rfl⟩
def QQ (x:Val aU) (k:Int→Option ρ) :
    š (BG ρ) 133 [Ì,aa] [tI] x k=Kw x.1 x.2 k:=by kernel_rfl
end Go.Proofs.ZzM
end
