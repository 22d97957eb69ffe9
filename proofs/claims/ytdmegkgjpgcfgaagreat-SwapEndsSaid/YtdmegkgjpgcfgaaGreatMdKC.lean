/- lemmas -/
import Derived.Test.YtdmegkgjpgcfgaaGreatMdMA
set_option linter.all false
set_option linter.unusedSectionVars false
set_option linter.unusedVariables false
set_option linter.unusedSimpArgs false
noncomputable section
variable {ρ:Type}
set_option maxRecDepth 100000
namespace Go.Proofs.ZzM
open Go Go.Am
def tD:(kX ρ).Ok (κ ρ):=⟨by kernel_rfl,fun p v kn kx=>by kernel_rfl⟩
def tC:(kT ρ).Ok (κ ρ):=⟨by kernel_rfl,fun p v kn kx=>by kernel_rfl⟩
def wz (x:Val aj) (k:(Val aa)→Option ρ) :
    š (κ ρ) 93 [aj] [aa] x k=kZ x k:=by kernel_rfl
def Bt {al:(Val aj)} {rec:(Val aa)→Option ((Val aj))}:(((ģ (ý al rec ρ).P 272).elim [] (Û 0)).filter fun y=>Nat.beq y.1 2).length=1:=by kernel_rfl
def CP {al:(Val aj)} {rec:(Val aa)→Option ((Val aj))}:PT (lT (ģ (ý al rec ρ).P 272) 2)=true:=by kernel_rfl
def CN (p:Val aS) (v v':Val aj):(õ υ [aa,tI,tI,aa,tI] [aj] p v').t=(õ υ [aa,tI,tI,aa,tI] [aj] p v).t:=by kernel_rfl
def CO (p:Val aS) (v:Val aj):(õ υ [aa,tI,tI,aa,tI] [aj] p v).t.all (st3 4)=true:=by kernel_rfl
def Bu {al:(Val aj)} {rec:(Val aa)→Option ((Val aj))} (p:Val aS) (v:Val aj) (y:(Val aa)) (kn:Val aS→Val aj→Option ρ):zW (ý al rec ρ) (Ű (ý al rec ρ) (10-0 / 2)) 272 [] 4 2 (lT (ģ (ý al rec ρ).P 272) 2) (õ υ [aa,tI,tI,aa,tI] [aj] p v) (enc aa y) ((jf al rec ρ).back kn)=(jf al rec ρ).bF p v y (kn p):=by kernel_rfl
def CQ {al:(Val aj)} {rec:(Val aa)→Option ((Val aj))} (hit:jP Tryz.prog ⟨272,aa,aa,rec⟩):(jf al rec ρ).Ok (ý al rec ρ):=⟨Bt,hit,CN,CO,Bu⟩
def Bv {al:(Val aj)} {rec:(Val aa)→Option ((Val aj))}:(((ģ (ý al rec ρ).P 272).elim [] (Û 0)).filter fun y=>Nat.beq y.1 0).length=1:=by kernel_rfl
def Bw {al:(Val aj)} {rec:(Val aa)→Option ((Val aj))} (p:Val aV) (v:Val bf) (kn:Val aV→Val bf→Option ρ) (kx:(i:Nat)→Val aV→Val (tyL (Ů.zs i))→Option ρ) :
    goC (ý al rec ρ) (Ű (ý al rec ρ) (10-0 / 2)) 272 [] 2 0 (tS (ģ (ý al rec ρ).P 272) 0) (õ Ů.head Ů.cs Ů.vs p v) (EX Ů kn kx)=(mf al rec ρ).bF p v (kn p) (fun i=>kx i p):=by kernel_rfl
def CS {al:(Val aj)} {rec:(Val aa)→Option ((Val aj))}:(mf al rec ρ).Ok (ý al rec ρ):=⟨Bv,Bw⟩
def HL {al:(Val aj)} {rec:(Val aa)→Option ((Val aj))} (mm:(Val aa)) (F:(Val aa)→Option (List (Val aa))):uh (ý al rec _) (Ű (ý al rec _) 10) [] 272 yZ (ο ⟨272,aa,aa,F⟩ mm) (Lw ⟨272,aa,aa,F⟩)=xn al rec mm some:=by kernel_rfl
def xq {al:(Val af)} {rec:(Val ai)→Option ((Val af))}:(((ģ (è al rec ρ).P 231).elim [] (Û 0)).filter fun y=>Nat.beq y.1 2).length=1:=by kernel_rfl
def zB {al:(Val af)} {rec:(Val ai)→Option ((Val af))}:PT (lT (ģ (è al rec ρ).P 231) 2)=true:=by kernel_rfl
def zz (p:Val bh) (v v':Val af):(õ Ŵ [aa,ai,aa] [af] p v').t=(õ Ŵ [aa,ai,aa] [af] p v).t:=by kernel_rfl
def zA (p:Val bh) (v:Val af):(õ Ŵ [aa,ai,aa] [af] p v).t.all (st3 4)=true:=by kernel_rfl
def xr {al:(Val af)} {rec:(Val ai)→Option ((Val af))} (p:Val bh) (v:Val af) (y:(Val aj)) (kn:Val bh→Val af→Option ρ):zW (è al rec ρ) (Ű (è al rec ρ) (10-0 / 2)) 231 [] 4 2 (lT (ģ (è al rec ρ).P 231) 2) (õ Ŵ [aa,ai,aa] [af] p v) (enc aj y) ((iq al rec ρ).back kn)=(iq al rec ρ).bF p v y (kn p):=by kernel_rfl
def zD {al:(Val af)} {rec:(Val ai)→Option ((Val af))} (hit:jP Tryz.prog ⟨231,ai,aj,rec⟩):(iq al rec ρ).Ok (è al rec ρ):=⟨xq,hit,zz,zA,xr⟩
def xu {al:(Val af)} {rec:(Val ai)→Option ((Val af))}:(((ģ (è al rec ρ).P 231).elim [] (Û 0)).filter fun y=>Nat.beq y.1 0).length=1:=by kernel_rfl
def zG {al:(Val af)} {rec:(Val ai)→Option ((Val af))}:PT (lT (ģ (è al rec ρ).P 231) 0)=true:=by kernel_rfl
def zE (p:Val ai) (v v':Val af):(õ ŵ [ai] [af] p v').t=(õ ŵ [ai] [af] p v).t:=by kernel_rfl
def zF (p:Val ai) (v:Val af):(õ ŵ [ai] [af] p v).t.all (st3 3)=true:=by kernel_rfl
def xv {al:(Val af)} {rec:(Val ai)→Option ((Val af))} (p:Val ai) (v:Val af) (y:(Val aa)) (kn:Val ai→Val af→Option ρ):zW (è al rec ρ) (Ű (è al rec ρ) (10-0 / 2)) 231 [] 3 0 (lT (ģ (è al rec ρ).P 231) 0) (õ ŵ [ai] [af] p v) (enc aa y) ((ir al rec ρ).back kn)=(ir al rec ρ).bF p v y (kn p):=by kernel_rfl
def zH {al:(Val af)} {rec:(Val ai)→Option ((Val af))} (hit:jP Tryz.prog Lx):(ir al rec ρ).Ok (è al rec ρ):=⟨xu,hit,zE,zF,xv⟩
def C3 {al:(Val af)} {rec:(Val ai)→Option ((Val af))} (mm:(Val ai)) (F:(Val ai)→Option (List (Val aj))):uh (è al rec _) (Ű (è al rec _) 10) [] 231 yZ (ο ⟨231,ai,aj,F⟩ mm) (Lw ⟨231,ai,aj,F⟩)=sc al rec mm some:=by kernel_rfl
def pK {al:(Val aa)} {rec:(Val aa)→Option ((Val aa))}:(((ģ (ć al rec ρ).P 268).elim [] (Û 0)).filter fun y=>Nat.beq y.1 0).length=1:=by kernel_rfl
def pL {al:(Val aa)} {rec:(Val aa)→Option ((Val aa))} (p:Val aV) (v:Val œ) (kn:Val aV→Val œ→Option ρ) (kx:(i:Nat)→Val aV→Val (tyL (Ĕ.zs i))→Option ρ) :
    goC (ć al rec ρ) (Ű (ć al rec ρ) (10-0 / 2)) 268 [] 2 0 (tS (ģ (ć al rec ρ).P 268) 0) (õ Ĕ.head Ĕ.cs Ĕ.vs p v) (EX Ĕ kn kx)=(Χ al rec ρ).bF p v (kn p) (fun i=>kx i p):=by kernel_rfl
def qo {al:(Val aa)} {rec:(Val aa)→Option ((Val aa))}:(Χ al rec ρ).Ok (ć al rec ρ):=⟨pK,pL⟩
def tx {al:(Val aa)} {rec:(Val aa)→Option ((Val aa))} (mm:(Val aa)) (F:(Val aa)→Option (List Int)):uh (ć al rec _) (Ű (ć al rec _) 10) [] 268 yZ (ο ⟨268,aa,tI,F⟩ mm) (Lw ⟨268,aa,tI,F⟩)=jy al rec mm some:=by kernel_rfl
def uS:(lQ ρ).Ok (j8 ρ):=⟨by kernel_rfl,fun p v kn kx=>by kernel_rfl⟩
def xG (x:Val aw) (k:Int→Option ρ) :
    š (j8 ρ) 173 [aa,tI] [tI] x k=mn x.1 x.2 k:=by kernel_rfl
def tB (x:Val aw) (k:Bool→Option ρ) :
    š (lR ρ) 92 [aa,tI] [.bool] x k=jz x.1 x.2 k:=by kernel_rfl
def NZ:(D2 ρ).Ok (yU ρ):=⟨by kernel_rfl,fun p v kn kx=>by kernel_rfl⟩
def NY:(DZ ρ).Ok (yU ρ):=⟨by kernel_rfl,fun p v kn kx=>by kernel_rfl⟩
def UV (x:Val (.pair Ê Õ)) (k:(Val aa)→Option ρ) :
    š (yU ρ) 201 [Ê,Õ] [aa] x k=Rx x.1 x.2 k:=by kernel_rfl
def K6:(AO ρ).Ok (vm ρ):=⟨by kernel_rfl,fun p v kn kx=>by kernel_rfl⟩
def K7:(AQ ρ).Ok (vm ρ):=⟨by kernel_rfl,fun p v kn kx=>by kernel_rfl⟩
def Rk (x:Val Ê) (k:(Val ab)→Option ρ) :
    š (vm ρ) 136 [Ê] [ab] x k=K8 x k:=by kernel_rfl
def NV (x:Val Ė) (k:Bool→Option ρ) :
    š (Hd ρ) 141 [Ã,tI,tI] [.bool] x k=F0 x.1 x.2.1 x.2.2 k:=by kernel_rfl
def NG (x:Val ŕ) (k:Bool→Option ρ) :
    š (Hc ρ) 212 [tI,tI,tI] [.bool] x k=FR x.1 x.2.1 x.2.2 k:=by kernel_rfl
def Rr (x:Val tI) (k:Bool→Option ρ) :
    š (Ld ρ) 205 [tI] [.bool] x k=Le x k:=by kernel_rfl
def Uy (x:Val tI) (k:Int→Option ρ) :
    š (O6 ρ) 291 [tI] [(.int .u64)] x k=Q6 x k:=by kernel_rfl
def Q7:(G9 ρ).Ok (KR ρ):=⟨by kernel_rfl,fun p v kn kx=>by kernel_rfl⟩
def Xq (x:Val bj) (k:Int→Option ρ) :
    š (KR ρ) 292 [(.int .u64),(.int .u64)] [(.int .u64)] x k=Xr x.1 x.2 k:=by kernel_rfl
def Rb (x:Val Ã) (k:Bool→Option ρ) :
    š (KU ρ) 253 [Ã] [.bool] x k=KV x k:=by kernel_rfl
def Lc (x:Val Õ) (k:Bool→Option ρ) :
    š (DY ρ) 203 [Õ] [.bool] x k=BQ x k:=by kernel_rfl
def ye:(om ρ).Ok (mz ρ):=⟨by kernel_rfl,fun p v kn kx=>by kernel_rfl⟩
def BV (x:Val Ê) (k:Int→Option ρ) :
    š (mz ρ) 142 [Ê] [tI] x k=pP x k:=by kernel_rfl
def FS:(wo ρ).Ok (vh ρ):=⟨by kernel_rfl,fun p v kn kx=>by kernel_rfl⟩
def K3 (x:Val Ê) (k:(Val am)→Option ρ) :
    š (vh ρ) 143 [Ê] [am] x k=BN x k:=by kernel_rfl
def DF (x:Val (.pair am Ã)) (k:Int→Option ρ) :
    š (wp ρ) 206 [am,tI,tI] [tI] x k=sk x.1 x.2.1 x.2.2 k:=by kernel_rfl
def K5 (x:Val (.pair tI (.pair tI (.ptr am)))) (k:Int→Option ρ) :
    š (DG ρ) 204 [tI,tI,(.ptr am)] [tI] x k=BP x.1 x.2.1 x.2.2 k:=by kernel_rfl
def BT:(ru ρ).Ok (lf ρ):=⟨by kernel_rfl,fun p v kn kx=>by kernel_rfl⟩
def BS:(rr ρ).Ok (lf ρ):=⟨by kernel_rfl,fun p v kn kx=>by kernel_rfl⟩
def F5 (x:Val bm) (k:Int→Option ρ) :
    š (lf ρ) 208 [Ê,am,tI] [tI] x k=vy x.1 x.2.1 x.2.2 k:=by kernel_rfl
def NQ:(DW ρ).Ok (yT ρ):=⟨by kernel_rfl,fun p v kn kx=>by kernel_rfl⟩
def NP:(DU ρ).Ok (yT ρ):=⟨by kernel_rfl,fun p v kn kx=>by kernel_rfl⟩
def UR (x:Val (.pair aa aa)) (k:(Val aa)→Option ρ) :
    š (yT ρ) 148 [aa,aa] [aa] x k=Ro x.1 x.2 k:=by kernel_rfl
def Im:(yc ρ).Ok (yd ρ):=⟨by kernel_rfl,fun p v kn kx=>by kernel_rfl⟩
def NS (x:Val aa) (k:Bool→Option ρ) :
    š (yd ρ) 172 [aa] [.bool] x k=FZ x k:=by kernel_rfl
def N0:(D4 ρ).Ok (F6 ρ):=⟨by kernel_rfl,fun p v kn kx=>by kernel_rfl⟩
def UX (x:Val aK) (k:(Val (.pair iJ .bool))→Option ρ) :
    š (F6 ρ) 259 [Ê,tI,tI] [iJ,.bool] x k=Ry x.1 x.2.1 x.2.2 k:=by kernel_rfl
def wE:(nI ρ).Ok (Ŝ ρ):=⟨by kernel_rfl,fun p v kn kx=>by kernel_rfl⟩
def wC:(nD ρ).Ok (Ŝ ρ):=⟨by kernel_rfl,fun p v kn kx=>by kernel_rfl⟩
def wD:(nF ρ).Ok (Ŝ ρ):=⟨by kernel_rfl,fun p v kn kx=>by kernel_rfl⟩
def wB:(nA ρ).Ok (Ŝ ρ):=⟨by kernel_rfl,fun p v kn kx=>by kernel_rfl⟩
def zP (x:Val bm) (k:Int→Option ρ) :
    š (Ŝ ρ) 209 [Ê,am,tI] [tI] x k=og x.1 x.2.1 x.2.2 k:=by kernel_rfl
end Go.Proofs.ZzM
end
