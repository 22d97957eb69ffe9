/- lemmas -/
import Derived.Test.YtdmegkgjpgcfgaaGreatAmD
import Derived.Test.YtdmegkgjpgcfgaaGreatAmE
import Derived.Ground.NamesProg
import Derived.Ground.Names2Prog
import Derived.KernelRfl
import Derived.Test.YtdmegkgjpgcfgaaGreatMdMA
import Derived.Test.YtdmegkgjpgcfgaaGreatMdKC
import Derived.Test.YtdmegkgjpgcfgaaGreatMdPA
import Derived.RangeFuncBox
import Derived.Lib.SliceRun
import Derived.RangeFuncLeaves
import Derived.WalkKit
import Derived.OwnWalkIn
import Derived.TacticsInMore
import Derived.LoopNIn
import Derived.LoopIn
import Derived.Test.YtdmegkgjpgcfgaaGreatProg
import Derived.RangeFuncFrom
import Derived.RangeFuncRecord
import Derived.Laws.CopyRow
import Derived.Laws.IdiomCopy
import Derived.Test.YtdmegkgjpgcfgaaGreatAmA
import Derived.Test.YtdmegkgjpgcfgaaGreatMdKB
import Derived.Test.YtdmegkgjpgcfgaaGreatMdKA
set_option linter.all false
set_option linter.unusedSectionVars false
set_option linter.unusedVariables false
set_option linter.unusedSimpArgs false
noncomputable section
namespace Go.Proofs
open Go.Shelf
def Tryz.laysSort_ren:Go.Shelf.Ren:=⟨fun|189=>184|125=>236|257=>235|128=>284|129=>285|294=>275|295=>276|296=>277|297=>278|298=>279|299=>280|216=>281|300=>282|301=>283|328=>301|329=>302|330=>303|331=>304|332=>305|215=>234|343=>318|n=>n,fun|28=>51|3=>3|46=>148|0=>0|51=>307|53=>309|4=>4|183=>300|182=>299|131=>256|5=>5|9=>9|218=>328|222=>332|228=>342|229=>343|n=>n,fun|n=>n⟩
def Tryz.laysSort:Go.Proofs.Lays.n189 Tryz.prog Tryz.laysSort_ren:={
 mixed:=by kernel_rfl
 f125:=Tryz.func236.trans (congrArg some (by kernel_rfl))
 f128:=Tryz.func284.trans (congrArg some (by kernel_rfl))
 f129:=Tryz.func285.trans (congrArg some (by kernel_rfl))
 f189:=Tryz.func184.trans (congrArg some (by kernel_rfl))
 f215:=Tryz.func234.trans (congrArg some (by kernel_rfl))
 f216:=Tryz.func281.trans (congrArg some (by kernel_rfl))
 f257:=Tryz.func235.trans (congrArg some (by kernel_rfl))
 f294:=Tryz.func275.trans (congrArg some (by kernel_rfl))
 f295:=Tryz.func276.trans (congrArg some (by kernel_rfl))
 f296:=Tryz.func277.trans (congrArg some (by kernel_rfl))
 f297:=Tryz.func278.trans (congrArg some (by kernel_rfl))
 f298:=Tryz.func279.trans (congrArg some (by kernel_rfl))
 f299:=Tryz.func280.trans (congrArg some (by kernel_rfl))
 f300:=Tryz.func282.trans (congrArg some (by kernel_rfl))
 f301:=Tryz.func283.trans (congrArg some (by kernel_rfl))
 f328:=Tryz.func301.trans (congrArg some (by kernel_rfl))
 f329:=Tryz.func302.trans (congrArg some (by kernel_rfl))
 f330:=Tryz.func303.trans (congrArg some (by kernel_rfl))
 f331:=Tryz.func304.trans (congrArg some (by kernel_rfl))
 f332:=Tryz.func305.trans (congrArg some (by kernel_rfl))
 f343:=Tryz.func318.trans (congrArg some (by kernel_rfl))
 t0:=Tryz.underlying0
 a0:=Tryz.isAgg0
 z0:=Tryz.sizeOf0
 v0:=Tryz.zeroValue0
 t3:=Tryz.underlying3
 a3:=Tryz.isAgg3
 z3:=Tryz.sizeOf3
 v3:=Tryz.zeroValue3
 t4:=Tryz.underlying4
 a4:=Tryz.isAgg4
 z4:=Tryz.sizeOf4
 v4:=Tryz.zeroValue4
 t5:=Tryz.underlying5
 a5:=Tryz.isAgg5
 z5:=Tryz.sizeOf5
 v5:=Tryz.zeroValue5
 t9:=Tryz.underlying9
 a9:=Tryz.isAgg9
 z9:=Tryz.sizeOf9
 v9:=Tryz.zeroValue9
 t28:=Tryz.underlying51
 a28:=Tryz.isAgg51
 z28:=Tryz.sizeOf51
 v28:=Tryz.zeroValue51
 t46:=Tryz.underlying148
 a46:=Tryz.isAgg148
 z46:=Tryz.sizeOf148
 v46:=Tryz.zeroValue148
 t51:=Tryz.underlying307
 a51:=Tryz.isAgg307
 z51:=Tryz.sizeOf307
 v51:=Tryz.zeroValue307
 t53:=Tryz.underlying309
 a53:=Tryz.isAgg309
 z53:=Tryz.sizeOf309
 v53:=Tryz.zeroValue309
 t131:=Tryz.underlying256
 a131:=Tryz.isAgg256
 z131:=Tryz.sizeOf256
 v131:=Tryz.zeroValue256
 t182:=Tryz.underlying299
 a182:=Tryz.isAgg299
 z182:=Tryz.sizeOf299
 v182:=Tryz.zeroValue299
 t183:=Tryz.underlying300
 a183:=Tryz.isAgg300
 z183:=Tryz.sizeOf300
 v183:=Tryz.zeroValue300
 t218:=Tryz.underlying328
 a218:=Tryz.isAgg328
 z218:=Tryz.sizeOf328
 v218:=Tryz.zeroValue328
 t222:=Tryz.underlying332
 a222:=Tryz.isAgg332
 z222:=Tryz.sizeOf332
 v222:=Tryz.zeroValue332
 t228:=Tryz.underlying342
 a228:=Tryz.isAgg342
 z228:=Tryz.sizeOf342
 v228:=Tryz.zeroValue342
 t229:=Tryz.underlying343
 a229:=Tryz.isAgg343
 z229:=Tryz.sizeOf343
 v229:=Tryz.zeroValue343}
def Tryz.laysCompact_ren:Go.Shelf.Ren:=⟨fun|20=>249|n=>n,fun|22=>51|3=>3|4=>4|0=>0|n=>n,fun|n=>n⟩
def Tryz.laysCompact:Go.Proofs.Lays2.n20 Tryz.prog Tryz.laysCompact_ren:={
 mixed:=by kernel_rfl
 f20:=Tryz.func249.trans (congrArg some (by kernel_rfl))
 t0:=Tryz.underlying0
 a0:=Tryz.isAgg0
 z0:=Tryz.sizeOf0
 v0:=Tryz.zeroValue0
 t3:=Tryz.underlying3
 a3:=Tryz.isAgg3
 z3:=Tryz.sizeOf3
 v3:=Tryz.zeroValue3
 t4:=Tryz.underlying4
 a4:=Tryz.isAgg4
 z4:=Tryz.sizeOf4
 v4:=Tryz.zeroValue4
 t22:=Tryz.underlying51
 a22:=Tryz.isAgg51
 z22:=Tryz.sizeOf51
 v22:=Tryz.zeroValue51
 i3:=by kernel_rfl}
end Go.Proofs
namespace Go.Proofs.ZzM
open Go Go.Am
def hmix:Tryz.prog.follows .mixedOrders=true:=by kernel_rfl
def plain_ : (Tryz.prog.funcs.toList.all fun fn => !(fn.name == "runtime.NumGoroutine")) = true := by kernel_rfl
def plain (f : Nat) (fn : Func) (h : Tryz.prog.funcs[f]? = some fn) : (fn.name == "runtime.NumGoroutine") = false := by
 have:=dg.1 plain_ fn (cI (i:=f) (by simpa using h));simpa using this
def agH:Tryz.laysSort_ren.f 189=184:=by kernel_rfl
def ZS:Tryz.laysCompact_ren.f 20=249:=by kernel_rfl
section
variable [Ghost] {ρ:Type}
def sortOk (f:Nat) (hf:UQ f=true) (h:List Blk) (x:AV) (K:AV→List Blk→Option ρ) (q:ρ) (e:Px h x K=some q) (ν:Nat→Value) (w:World) (u:Value) (H:HR ν h w) (hx:VR ν h w x u):EG Tryz.prog f ν h w [u] K q:=by
 have h1:f=184:=by
  unfold UQ at hf
  split at hf
  ·rfl
  ·cases hf
 subst h1;have:=agw Tryz.laysSort e H hx ⟨_,rfl⟩
 rwa [agH] at this
def adb (f:Nat) (hf:xI f=true) (h:List Blk) (x:AV) (K:AV→List Blk→Option ρ) (q:ρ) (e:oz h x K=some q) (ν:Nat→Value) (w:World) (u:Value) (H:HR ν h w) (hx:VR ν h w x u):EG Tryz.prog f ν h w [u] K q:=by
 have h1:f=249:=by
  unfold xI at hf
  split at hf
  ·rfl
  ·cases hf
 subst h1;have:=aaA Tryz.laysCompact e H hx ⟨_,rfl⟩
 rwa [ZS] at this
def ahe:Gu Tryz.prog Li:=by
 intro g hg fz S nid x v S' e ν w u H hx hn hd;unfold Li at hg
 split at hg
 ·exact rG Tryz.func114 (T:=31) (by kernel_rfl) (by kernel_rfl) e H hx hn hd
 ·exact rG Tryz.func115 (T:=51) (by kernel_rfl) (by kernel_rfl) e H hx hn hd
 ·exact rG Tryz.func140 (T:=103) (by kernel_rfl) (by kernel_rfl) e H hx hn hd
 ·exact rG Tryz.func170 (T:=27) (by kernel_rfl) (by kernel_rfl) e H hx hn hd
 ·exact rG Tryz.func182 (T:=24) (by kernel_rfl) (by kernel_rfl) e H hx hn hd
 ·exact rG Tryz.func250 (T:=25) (by kernel_rfl) (by kernel_rfl) e H hx hn hd
 ·exact rG Tryz.func251 (T:=26) (by kernel_rfl) (by kernel_rfl) e H hx hn hd
 ·exact rG Tryz.func252 (T:=28) (by kernel_rfl) (by kernel_rfl) e H hx hn hd
 ·cases hg
def BM {pt:List (Nat×â)} (h:∀e∈pt,jA Tryz.prog e.1 e.2) (E:Env ρ) (hP:E.P=Tryz.prog) (h1:E.pure=aar pt) (h2:E.sort=UQ) (h3:E.compact=xI) (h4:E.clone=Li) (hj:Zy E) (hx:∀f X,E.ext f=some X→aaW E.P f X) (hy:jz E):EE E:=by
 constructor
 ·intro f p hf;rw[h1] at hf;rw[hP];exact h (f,p) (Pa hf)
 ·intro f hf;rw[h2] at hf;rw[hP];exact sortOk f hf
 ·intro f hf;rw[h3] at hf;rw[hP];exact adb f hf
 ·rw[hP]; exact plain
 ·rw[hP,h4]; exact ahe
 ·exact hj
 ·exact hy
 ·exact hx
def libN {pt:List (Nat×â)} (h:∀e∈pt,jA Tryz.prog e.1 e.2) (tab:List (à ρ)):EE (æ pt tab):=BM h _ rfl rfl rfl rfl rfl (Ņ rfl) (kP rfl) (ir rfl)
end
abbrev ZP (f:Nat) (p:â):Prop:=jA Tryz.prog f p
def zt {f:Nat} {p:â} {pt:List (Nat×â)} {tab:List (à (Val (tyL p.rs)))} (E:Env (Val (tyL p.rs))) (hc:∀e∈pt,jA Tryz.prog e.1 e.2) (hE:E=æ pt tab) (hok:∀x∈tab,x.Ok E) (law:∀x:Val (tyL p.ts),topK E f (Xr p.ts x) (fun h v=>Ã (agG p.rs h v) some)=p.F x):jA Tryz.prog f p:=by
 subst hE;exact Yn (æ pt tab) (fun {_}=>libN hc _) hmix (tab:=tab) rfl hok (oJ law)
end Go.Proofs.ZzM
end

noncomputable section
set_option maxRecDepth 100000
namespace Go.Proofs.ZzM
open Go Go.Am
def kT:ZP 93 iw:=zt (Ρ _) Å rfl (Á s7 (Á sZ Å)) fun x=>vQ x some
def NV {n:Nat} (hr:jB Tryz.prog ⟨272,(.slice tI),(.slice tI),VE n⟩):jB Tryz.prog ⟨272,(.slice tI),(.slice tI),VE (n+1)⟩:=Rt ⟨272,(.slice tI),(.slice tI),VE (n+1)⟩ (fun al=>ü al (VE n) _) rfl (fun _=>rfl) (fun _=>rfl) (fun _ {_} hy=>BM (Á kT Å) _ rfl rfl rfl rfl rfl (Ņ rfl) (kP rfl) hy) hmix (fun al=>DQ (E:=ü al (VE n) _) hmix (tab:=vD al (VE n) _) rfl (Á CD Å) (rtab:=wP al (VE n) _) rfl (Á (CC hr) Å) (Á CB Å)) (fun m xs h=>(Hz m (VE (n+1))).trans (abQ h))
def Er:∀n:Nat,jB Tryz.prog ⟨272,(.slice tI),(.slice tI),VE n⟩
 |0=>⟨rfl,fun _ _ m xs h=>(Nat.not_lt_zero _ (Yl (n:=0) (l:=m) (xs:=xs) h).1).elim⟩
 |n+1=>NV (Er n)
def ado:jB Tryz.prog Lf:=(Er 10).mono fun _ _ h=>ZX h
def Ia {n:Nat} (hr:jB Tryz.prog ⟨231,(.slice ŋ),(.slice (.slice tI)),VF n⟩):jB Tryz.prog ⟨231,(.slice ŋ),(.slice (.slice tI)),VF (n+1)⟩:=Rt ⟨231,(.slice ŋ),(.slice (.slice tI)),VF (n+1)⟩ (fun al=>ç al (VF n) _) rfl (fun _=>rfl) (fun _=>rfl) (fun _ {_} hy=>BM Å _ rfl rfl rfl rfl rfl (Ņ rfl) (kP rfl) hy) hmix (fun al=>DQ (E:=ç al (VF n) _) hmix (tab:=qD al (VF n) _) rfl Å (rtab:=sn al (VF n) _) rfl (Á (za hr) (Á (ze ado) Å)) (Á y0 (Á zd Å))) (fun m xs h=>(CP m (VF (n+1))).trans (Xz h))
def xU:∀n:Nat,jB Tryz.prog ⟨231,(.slice ŋ),(.slice (.slice tI)),VF n⟩
 |0=>⟨rfl,fun _ _ m xs h=>(Nat.not_lt_zero _ (Ym (n:=0) (l:=m) (xs:=xs) h).1).elim⟩
 |n+1=>Ia (xU n)
def LV:jB Tryz.prog pD:=(xU 10).mono fun _ _ h=>Vc h
def adn:jB Tryz.prog DW:=Rt DW (fun al=>ą al (fun _=>none) _) rfl (fun _=>rfl) (fun _=>rfl) (fun _ {_} hy=>BM Å _ rfl rfl rfl rfl rfl (Ņ rfl) (kP rfl) hy) hmix (fun _=>Iv hmix rfl (Á pY Å) rfl) (fun m xs h=>(sW m yx).trans (aa9 h))
def tM:ZP 173 lJ:=zt (jQ _) Å rfl (Á uq Å) fun x=>xg x some
def Υ:ZP 92 Ř:=zt (lB _) (Á tM Å) rfl Å fun x=>sY x some
def Zj:ZP 201 PN:=zt (yu _) (Á Υ Å) rfl (Á NK (Á NJ Å)) fun x=>Uz x some
def L6:ZP 136 Co:=zt (uJ _) (Á Zj Å) rfl (Á KP (Á KQ Å)) fun x=>QZ x some
def yQ:ZP 141 sh:=zt (G0 _) Å rfl Å fun x=>NG x some
def mf:ZP 212 jU:=zt (GZ _) Å rfl Å fun x=>Ns x some
def Ez:ZP 205 wB:=zt (KW _) (Á mf Å) rfl Å fun x=>Q7 x some
def Zi:ZP 291 PM:=zt (OQ _) Å rfl Å fun x=>Uc x some
def adD:ZP 292 Wd:=zt (KB _) Å rfl (Á QN Å) fun x=>WO x some
def Ey:ZP 253 Cl:=zt (KE _) (Á Zi (Á adD Å)) rfl Å fun x=>QR x some
def XG:ZP 203 Je:=zt (DG _) (Á yQ (Á Ez (Á mf (Á Ey Å)))) rfl Å fun x=>KV x some
def L7:ZP 142 wC:=zt (lY _) (Á XG Å) rfl (Á xE Å) fun x=>BH x some
def BS:ZP 143 tV:=zt (uG _) Å rfl (Á FK Å) fun x=>KM x some
def sd:ZP 206 mj:=zt (vJ _) Å rfl Å fun x=>Dr x some
def XF:ZP 204 Wf:=zt (Ds _) (Á Ez (Á sd Å)) rfl Å fun x=>KO x some
def RW:ZP 208 PO:=zt (kG _) (Á yQ (Á sd (Á mf Å))) rfl (Á BF (Á BD Å)) fun x=>FU x some
def II:ZP 148 Cp:=zt (yr _) (Á Υ Å) rfl (Á NB (Á NA Å)) fun x=>Uv x some
def Pm:ZP 172 EY:=zt (xD _) (Á mf Å) rfl (Á H7 Å) fun x=>ND x some
def Zk:ZP 259 PP:=zt (FV _) (Á mf Å) rfl (Á NL Å) fun x=>UB x some
def Ie:ZP 209 Hn:=zt (œ _) (Á kT (Á yQ (Á II (Á Pm (Á Ez (Á sd (Á mf (Á Zk Å)))))))) rfl (Á vU (Á vS (Á vT (Á vR Å)))) fun x=>zq x some
end Go.Proofs.ZzM
end

noncomputable section
namespace Go.Proofs
open Go.RowKit
attribute [local go_sem] Oper.semAt_some
def upE (f:Nat→Int) (k:Nat):List Int:=(List.range k).map f
def qd (f:Nat→Int) (k:Nat):upE f (k+1)=upE f k++[f k]:=by simp[upE,fE]
def yh (f:Nat→Int) (k:Nat):(upE f k).length=k:=by simp[upE]
def Ih (f:Nat→Int) {j k:Nat} (h:j≤k):upE f j <+: upE f k:=by
 have:k=j+(k-j):=by omega
 rw[this,upE,upE,List.range_add,ff];exact dH _ _
set_option maxRecDepth 100000 in
set_option maxHeartbeats 1000000 in
def aeC (te:TypeId) (n:Nat) (hn:1≤n) (l n₀ bb tb sb:Nat) (flo fhi ga mv:Value) (hbb:bb<n₀) (htb:tb<n₀) (hsb:sb<n₀)
 (ub uo ul uc kb ko kl kc:Nat) (ubase kbase lbase cbase:Option Addr) (ll lc cl cc:Nat) (hub:0<ul→ubase=some ⟨ub,uo,none⟩∧ub<n₀) (hkb:0<kl→kbase=some ⟨kb,ko,none⟩∧kb<n₀)
 (U K:Nat→Int×Int) (eU eL eC eK:Nat→Int)
 (hul:ul≤1000) (hll:ll≤1000) (hcl:cl≤1000) (hkl:kl≤1000)
 (W:World) (hb0:W.heap[bb]?=some (.cells #[flo,fhi,ga,.slice ubase ul uc,.slice lbase ll lc,.slice cbase cl cc,.slice kbase kl kc] te (0,0)))
 (ht:W.cell? ⟨tb,0,none⟩=some (.func (.func 204) #[] #[.pointer (some ⟨sb,0,none⟩)])) (hs:W.cell? ⟨sb,0,none⟩=some mv)
 (hU:∀j,j<ul→W.cell? ⟨ub,uo+j*2,none⟩=some (.int .i64 (U j).1)∧W.cell? ⟨ub,uo+j*2+1,none⟩=some (.int .i64 (U j).2))
 (hK:∀j,j<kl→W.cell? ⟨kb,ko+j*2,none⟩=some (.int .i64 (K j).1)∧W.cell? ⟨kb,ko+j*2+1,none⟩=some (.int .i64 (K j).2))
 (cU:∀j,j<ul→∀W',Below n₀ W W'→CallsIn Fence.wide (n-1) Tryz.prog 204 #[.int .i64 (U j).1,.int .i64 (U j).2,.pointer (some ⟨sb,0,none⟩)] W' fun e W''=>e=.returned (.int .i64 (eU j))∧W'.grownBy W'' none)
 (cK:∀j,j<kl→∀W',Below n₀ W W'→CallsIn Fence.wide (n-1) Tryz.prog 204 #[.int .i64 (K j).1,.int .i64 (K j).2,.pointer (some ⟨sb,0,none⟩)] W' fun e W''=>e=.returned (.int .i64 (eK j))∧W'.grownBy W'' none)
 (cL:∀j,j<ll→∀W',Below n₀ W W'→CallsIn Fence.wide (n-1) Tryz.prog 208 #[.agg #[flo,fhi,ga,.slice ubase ul uc,.slice lbase ll lc,.slice cbase cl cc,.slice kbase kl kc],mv,.int .i64 j] W' fun e W''=>e=.returned (.int .i64 (eL j))∧W'.grownBy W'' none)
 (cC:∀j,j<cl→∀W',Below n₀ W W'→CallsIn Fence.wide (n-1) Tryz.prog 209 #[.agg #[flo,fhi,ga,.slice ubase ul uc,.slice lbase ll lc,.slice cbase cl cc,.slice kbase kl kc],mv,.int .i64 j] W' fun e W''=>e=.returned (.int .i64 (eC j))∧W'.grownBy W'' none)
 (J Jx:List Int→World→Prop) (hJ:∀pre W W',J pre W→W.grownBy W' none→J pre W') (hJx:∀pre W W',Jx pre W→W.grownBy W' none→Jx pre W')
 (hY:∀pre x W,J pre W→pre.length<ul+(ll+(cl+kl))→YieldAt Fence.wide (n-1) Tryz.prog l #[.int .i64 x] W fun e W' =>
  (e=.returned (.bool true)∧J (pre++[x]) W'∧Below n₀ W W')∨(e=.returned (.bool false)∧Jx (pre++[x]) W'))
 (h0 : J [] W) (hn₀ : n₀ ≤ W.heap.size) :
  CallsIn Fence.wide n Tryz.prog 207 #[.func (.yield l) #[] #[],.pointer (some ⟨bb,0,none⟩),.pointer (some ⟨tb,0,none⟩),.pointer (some ⟨sb,0,none⟩)] W fun e W'=>(∃v,e=.returned v) ∧
   ((∃xs,xs=upE eU ul++(upE eL ll++(upE eC cl++upE eK kl))∧J xs W')∨(∃pre,(pre <+: upE eU ul++(upE eL ll++(upE eC cl++upE eK kl)))∧Jx pre W')):=by
 have grown_alloc:∀(X:World) (o:Obj),X.grownBy (X.alloc o) none:=fun X o=>World.grownBy_alloc X o none
 have bel:∀{X Y:World},Below n₀ W X→X.grownBy Y none→Below n₀ W Y:=fun {X Y} h g =>
  ⟨g.os.trans h.os,g.tape.trans h.tape,g.output.trans h.output,cT h.size g.size,fun k hk=>(g.block k (cV (cV hk hn₀) h.size) (by simp)).trans (h.block k hk)⟩
 have hc:∀{X:World},Below n₀ W X→X.heap[bb]?=some (.cells #[flo,fhi,ga,.slice ubase ul uc,.slice lbase ll lc,.slice cbase cl cc,.slice kbase kl kc] te (0,0)):=fun h=>(h.block bb hbb).trans hb0;refine callsIn_of_wp Tryz.func207 rfl trivial ?_ rfl;simp only[Tryz.ntmps207,eI,cP,dR,Nat.reduceAdd,Nat.reduceSub,Array.replicate_succ,Array.replicate_zero,List.push_toArray,gu,dN,eV]
 have hb3:W.cell? ⟨bb,3,none⟩=some (.slice ubase ul uc):=by simp[World.cell?,hb0]
 gi_wp2
 gi_loopw [14] (fun i wr=>∃k:Nat,k≤ul∧i=.int .i64 k∧J (upE eU k) wr∧Below n₀ W wr)
  (fun i _=>ul-(intOf i).toNat)
 case atStart=>exact⟨0,dJ _,rfl,h0,Below.refl _ _⟩
 case round =>
  obtain⟨k,hk,rfl,hJs,hnx⟩:=hrel
  by_cases hlt:k<ul
  ·obtain⟨rfl,hlu⟩:=hub (by omega);have hu1:=(hnx.cell (p:=⟨ub,uo+k*2,none⟩) hlu).trans (hU k hlt).1;have hu2:=(hnx.cell (p:=⟨ub,uo+k*2+1,none⟩) hlu).trans (hU k hlt).2;have ht':=(hnx.cell (p:=⟨tb,0,none⟩) htb).trans ht;have hta:∀o,(wr.alloc o).cell? ⟨tb,0,none⟩=some (.func (.func 204) #[] #[.pointer (some ⟨sb,0,none⟩)]):=fun o=>Lib.cell?_alloc_some _ ht'
   gi_wp2
   refine⟨trivial,(cU k hlt _ (bel hnx (grown_alloc _ _))).mono ?_⟩;rintro e W2 ⟨rfl,hg2⟩;obtain⟨fn,tmps,assign,body,hy,hR⟩:=hY _ (eU k) W2 (hJ _ _ _ (hJ _ _ _ hJs (grown_alloc _ _)) hg2) (by rw[yh]; omega);have hb2:=bel (bel hnx (grown_alloc _ _)) hg2
   gi_wp2
   refine hR.mono ?_;rintro e W3 (⟨rfl,hJ3,hk3⟩|⟨rfl,hJx3⟩)
   ·gi_wp2
    go_roundw
    case rel=>exact⟨k+1,by omega,by simp,by rw[qd]; exact hJ3,hb2.trans hk3⟩
    case measure=>simp[intOf]; omega
   ·gi_wp2
    refine bodyPost_ret (results_none rfl _ _ _) rfl ?_;refine⟨⟨_,rfl⟩,.inr ⟨_,?_,hJx3⟩⟩;rw[←qd];exact(Ih eU (by omega)).trans (dH _ _)
  ·obtain rfl:ul=k:=by omega
   have hb4:wr.cell? ⟨bb,4,none⟩=some (.slice lbase ll lc):=by simp[World.cell?,hc hnx]
   gi_wp2
   gi_loopw [31] (fun i wr=>∃k:Nat,k≤ll∧i=.int .i64 k∧J (upE eU ul++upE eL k) wr∧Below n₀ W wr)
    (fun i _=>ll-(intOf i).toNat)
   case atStart=>exact⟨0,dJ _,rfl,by simpa[upE] using hJs,hnx⟩
   case round =>
    clear hJs hnx;obtain⟨k,hk,rfl,hJs,hnx⟩:=hrel
    by_cases hlt:k<ll
    ·have q0:wr.cell? ⟨bb,0,none⟩=some flo:=by simp[World.cell?,hc hnx]
     have q1:wr.cell? ⟨bb,1,none⟩=some fhi:=by simp[World.cell?,hc hnx]
     have q2:wr.cell? ⟨bb,2,none⟩=some ga:=by simp[World.cell?,hc hnx]
     have q3:wr.cell? ⟨bb,3,none⟩=some (.slice ubase ul uc):=by simp[World.cell?,hc hnx]
     have q4:wr.cell? ⟨bb,4,none⟩=some (.slice lbase ll lc):=by simp[World.cell?,hc hnx]
     have q5:wr.cell? ⟨bb,5,none⟩=some (.slice cbase cl cc):=by simp[World.cell?,hc hnx]
     have q6:wr.cell? ⟨bb,6,none⟩=some (.slice kbase kl kc):=by simp[World.cell?,hc hnx]
     have hs':=(hnx.cell (p:=⟨sb,0,none⟩) hsb).trans hs
     gi_wp2
     refine⟨trivial,(cL k hlt _ hnx).mono ?_⟩;rintro e W2 ⟨rfl,hg2⟩;obtain⟨fn,tmps,assign,body,hy,hR⟩:=hY _ (eL k) W2 (hJ _ _ _ hJs hg2) (by simp only[cF,yh]; omega);have hb2:=bel hnx hg2
     gi_wp2
     refine hR.mono ?_;rintro e W3 (⟨rfl,hJ3,hk3⟩|⟨rfl,hJx3⟩)
     ·gi_wp2
      go_roundw
      case rel=>exact⟨k+1,by omega,by simp,by rw[qd,←cN]; exact hJ3,hb2.trans hk3⟩
      case measure=>simp[intOf]; omega
     ·gi_wp2
      refine bodyPost_ret (results_none rfl _ _ _) rfl ?_;refine⟨⟨_,rfl⟩,.inr ⟨_,?_,hJx3⟩⟩;rw[cN,←qd];exact(eD _).2 ((Ih eL (by omega)).trans (dH _ _))
    ·obtain rfl:ll=k:=by omega
     have hb5:wr.cell? ⟨bb,5,none⟩=some (.slice cbase cl cc):=by simp[World.cell?,hc hnx]
     gi_wp2
     gi_loopw [45] (fun i wr=>∃k:Nat,k≤cl∧i=.int .i64 k∧J (upE eU ul++upE eL ll++upE eC k) wr∧Below n₀ W wr)
      (fun i _=>cl-(intOf i).toNat)
     case atStart=>exact⟨0,dJ _,rfl,by simpa[upE] using hJs,hnx⟩
     case round =>
      clear hJs hnx;obtain⟨k,hk,rfl,hJs,hnx⟩:=hrel
      by_cases hlt:k<cl
      ·have q0:wr.cell? ⟨bb,0,none⟩=some flo:=by simp[World.cell?,hc hnx]
       have q1:wr.cell? ⟨bb,1,none⟩=some fhi:=by simp[World.cell?,hc hnx]
       have q2:wr.cell? ⟨bb,2,none⟩=some ga:=by simp[World.cell?,hc hnx]
       have q3:wr.cell? ⟨bb,3,none⟩=some (.slice ubase ul uc):=by simp[World.cell?,hc hnx]
       have q4:wr.cell? ⟨bb,4,none⟩=some (.slice lbase ll lc):=by simp[World.cell?,hc hnx]
       have q5:wr.cell? ⟨bb,5,none⟩=some (.slice cbase cl cc):=by simp[World.cell?,hc hnx]
       have q6:wr.cell? ⟨bb,6,none⟩=some (.slice kbase kl kc):=by simp[World.cell?,hc hnx]
       have hs':=(hnx.cell (p:=⟨sb,0,none⟩) hsb).trans hs
       gi_wp2
       refine⟨trivial,(cC k hlt _ hnx).mono ?_⟩;rintro e W2 ⟨rfl,hg2⟩;obtain⟨fn,tmps,assign,body,hy,hR⟩:=hY _ (eC k) W2 (hJ _ _ _ hJs hg2) (by simp only[cF,yh]; omega);have hb2:=bel hnx hg2
       gi_wp2
       refine hR.mono ?_;rintro e W3 (⟨rfl,hJ3,hk3⟩|⟨rfl,hJx3⟩)
       ·gi_wp2
        go_roundw
        case rel=>exact⟨k+1,by omega,by simp,by rw[qd,←cN]; exact hJ3,hb2.trans hk3⟩
        case measure=>simp[intOf]; omega
       ·gi_wp2
        refine bodyPost_ret (results_none rfl _ _ _) rfl ?_;refine⟨⟨_,rfl⟩,.inr ⟨_,?_,hJx3⟩⟩;rw[cN,←qd]
        exact by rw[cN]; exact(eD _).2 ((eD _).2 ((Ih eC (by omega)).trans (dH _ _)))
      ·obtain rfl:cl=k:=by omega
       have hb6:wr.cell? ⟨bb,6,none⟩=some (.slice kbase kl kc):=by simp[World.cell?,hc hnx]
       gi_wp2
       gi_loopw [59] (fun i wr=>∃k:Nat,k≤kl∧i=.int .i64 k∧J ((upE eU ul++upE eL ll++upE eC cl)++upE eK k) wr∧Below n₀ W wr)
        (fun i _=>kl-(intOf i).toNat)
       case atStart=>exact⟨0,dJ _,rfl,by simpa[upE] using hJs,hnx⟩
       case round =>
        clear hJs hnx;obtain⟨k,hk,rfl,hJs,hnx⟩:=hrel
        by_cases hlt:k<kl
        ·obtain⟨rfl,hlk⟩:=hkb (by omega);have hu1:=(hnx.cell (p:=⟨kb,ko+k*2,none⟩) hlk).trans (hK k hlt).1;have hu2:=(hnx.cell (p:=⟨kb,ko+k*2+1,none⟩) hlk).trans (hK k hlt).2;have ht':=(hnx.cell (p:=⟨tb,0,none⟩) htb).trans ht;have hta:∀o,(wr.alloc o).cell? ⟨tb,0,none⟩=some (.func (.func 204) #[] #[.pointer (some ⟨sb,0,none⟩)]):=fun o=>Lib.cell?_alloc_some _ ht'
         gi_wp2
         refine⟨trivial,(cK k hlt _ (bel hnx (grown_alloc _ _))).mono ?_⟩;rintro e W2 ⟨rfl,hg2⟩;obtain⟨fn,tmps,assign,body,hy,hR⟩:=hY _ (eK k) W2 (hJ _ _ _ (hJ _ _ _ hJs (grown_alloc _ _)) hg2) (by simp only[cF,yh]; omega);have hb2:=bel (bel hnx (grown_alloc _ _)) hg2
         gi_wp2
         refine hR.mono ?_;rintro e W3 (⟨rfl,hJ3,hk3⟩|⟨rfl,hJx3⟩)
         ·gi_wp2
          go_roundw
          case rel=>exact⟨k+1,by omega,by simp,by rw[qd,←cN]; exact hJ3,hb2.trans hk3⟩
          case measure=>simp[intOf]; omega
         ·gi_wp2
          refine bodyPost_ret (results_none rfl _ _ _) rfl ?_;refine⟨⟨_,rfl⟩,.inr ⟨_,?_,hJx3⟩⟩;rw[cN,←qd,cN,cN];exact(eD _).2 ((eD _).2 ((eD _).2 (Ih eK (by omega))))
        ·obtain rfl:kl=k:=by omega
         gi_wp2
         go_end0
         exact⟨⟨_,rfl⟩,.inl ⟨_,rfl,by simpa[cN] using hJs⟩⟩
end Go.Proofs
end

noncomputable section
set_option maxRecDepth 100000
namespace Go.Proofs.ZzM
open Go Go.Am Go.RowKit
def Yj (p:String):Code:=.region 10 #[{dst:=some 5,op:=.assign (.tmp 49),type:=38,pos:=p,after:=#[],guard:=none}] false
def afT (q r:String):Code:=.block 1 (.seq (.region 11 #[{dst:=some 50,op:=.move (.tmp 5),type:=38,pos:=q,after:=#[],guard:=none},{dst:=some 51,op:=.binOp .neq 38 (.tmp 50) (.const (.int .i64 0)) 38,type:=4,pos:=q,after:=#[{on:=0,ground:=.data}],guard:=none}] false)
 (.cond (.tmp 51) (.seq (.region 12 #[{dst:=some 52,op:=.move (.tmp 5),type:=38,pos:=r,after:=#[],guard:=none},{dst:=none,op:=.store 38 (.tmp 2) (.tmp 52),type:=0,pos:=r,after:=#[{on:=0,ground:=.data},{on:=0,ground:=.phase}],guard:=none}] false) .ret) .skip))
section
variable {P:Program} {F:Fence} {n:Nat}
def Cq {ops:Array Oper} {i d:Nat} {o:Oper} {u:Value} {w w':World} {a:Act} {next:Act→World→Prop} {Q:Exit→Act→World→Prop} (hF:∀f,F.fn f) (ho:ops[i]?=some o) (hg:o.guard=none) (hd:o.dst=some d) (hdf:∀c,o.op≠.defer c)
 (hrun:(execOp a.eval o).run P w=.ok (.value u) w') (k:next (a.put (some d) u) w'):wpOpIn F n P ops Q i next a w:=by
 unfold wpOpIn;rw[ho]
 have hw:Region.wanted o (yielded ops a.tmps)=true:=by simp[Region.wanted,hg]
 simp only[hw,if_true];refine⟨fun _ _=>hF _,?_⟩;rw[Oper.semAt_eq _ _ _ hdf,hrun];rw[←hd] at k;exact k
def ZZ {ops:Array Oper} {i:Nat} {o:Oper} {w w':World} {a:Act} {next:Act→World→Prop} {Q:Exit→Act→World→Prop} (hF:∀f,F.fn f) (ho:ops[i]?=some o) (hg:o.guard=none) (hd:o.dst=none) (hdf:∀c,o.op≠.defer c)
 (hrun:(execOp a.eval o).run P w=.ok .skip w') (k:next a w'):wpOpIn F n P ops Q i next a w:=by
 unfold wpOpIn;rw[ho]
 have hw:Region.wanted o (yielded ops a.tmps)=true:=by simp[Region.wanted,hg]
 simp only[hw,if_true];refine⟨fun _ _=>hF _,?_⟩;rw[Oper.semAt_eq _ _ _ hdf,hrun];show next (a.put o.dst undef) w';rw[hd];exact k
end
def i7 (T:Array Value) (i j:Nat) (v:Value):(T.setIfInBounds i v).getD j undef=if i=j∧i<T.size then v else T.getD j undef:=by
 simp only[dP,fw]
 by_cases h:i=j
 ·subst h
  by_cases h2:i<T.size
  ·simp[h2]
  ·simp[h2]
 ·simp[h]
def mark (D:Nat):Deferred:={target:=.collected D,args:=#[]}
structure Put1 (n₀ rb:Nat) (x:Int) (w W:World):Prop where
 os:W.os=w.os
 tape:W.tape=w.tape
 output:W.output=w.output
 size:w.heap.size≤W.heap.size
 block:∀k,k<n₀→k≠rb→W.heap[k]?=w.heap[k]?
 cell:∃e,W.heap[rb]?=some (.cells #[.int .i64 x] e (0,0))
set_option maxHeartbeats 4000000 in
def agE {a:Act} {w:World} {Q:Exit→Act→World→Prop} {lb:Array Value} {L:List Int} {rb:Nat} {e0:TypeId} {v0:Value} {p q r:String}
 (hseq:SeqStopsK Fence.wide 1 Tryz.prog 207 lb (fun x:Int=>#[.int .i64 x]) (Below w.heap.size) (fun xs=>xs=L) (fun pre=>pre <+: L) L.length w)
 (hg:a.tmps.getD 48 undef=.func (.func 207) #[] lb) (h2:a.tmps.getD 2 undef=.pointer (some ⟨rb,0,none⟩)) (hsz:78≤a.tmps.size)
 (hrb:w.heap[rb]?=some (.cells #[v0] e0 (0,0)))
 (hdone:∀D W,(∀x∈L,x=0)→Below w.heap.size w W→w.heap.size≤D→W.heap[D]?=some (.deferred (some []))→Q .normal {a with defers:=mark D::a.defers} W)
 (hstop:∀D W x,L.find? (fun e=>e != 0)=some x→Put1 w.heap.size rb x w W→w.heap.size≤D→W.heap[D]?=some (.deferred (some []))→Q .ret {a with defers:=mark D::a.defers} W) :
 (Code.rangeFunc (.tmp 48) #[49] (Yj p) (afT q r)).wpIn Fence.wide 2 Tryz.prog Q a w:=by
 have hT:∀f,Fence.wide.fn f:=fun _=>trivial;have hrl:=Ĉ hrb
 refine wpIn_rangeFunc_ownF (α:=Int) (encs:=fun x=>#[.int .i64 x]) (Kp:=Below w.heap.size) (S:=fun xs=>xs=L) (Sp:=fun pre=>pre <+: L) (N:=L.length) (w0:=w) rfl (by omega) hg trivial (fun args w=>?eg) hseq
  (fun h k=>h.trans k) (fun W l o o' hl ho hc hw=>belowK_b (cB _) W l o o' hl ho hc hw) (Below.refl _ _) (fun _=>rfl)
  (fun pre W=>(∀x∈pre,x=0)∧Below w.heap.size w W)
  (fun c pre W=>c=.ret∧∃pre' x,pre=pre'++[x]∧(∀x∈pre',x=0)∧x≠0∧Put1 w.heap.size rb x w W)
  ?hI ?hIx ⟨by simp,Below.refl _ _⟩ (fun x=>{tmps:=(a.tmps.setIfInBounds 49 (.int .i64 x)).setIfInBounds 5 (.int .i64 x),defers:=[]}) ?hassign ?hbody ?hdone ?hstop
 case eg=>simp[callFunc,Sem.run_bind,run_program,Result.andThen_ok,Tryz.func207,plain 207 _ Tryz.func207,show Tryz.f207.body.isNone=false from rfl]; rfl
 case hI =>
  intro s W W' row ⟨h1,h2⟩ hgr hr;exact⟨h1,hgr.os.trans h2.os,hgr.tape.trans h2.tape,hgr.output.trans h2.output,cT h2.size hgr.size,fun k hk=>(hgr.block k (cV hk h2.size) (fun e=>by have:=(hr k e.symm).1; omega)).trans (h2.block k hk)⟩
 case hIx =>
  intro c s W W' row ⟨h1,pre',x,h3,h4,h5,h6⟩ hgr hr;have hb:∀k,k<w.heap.size→W'.heap[k]?=W.heap[k]?:=fun k hk=>hgr.block k (cV hk h6.size) (fun e=>by have:=(hr k e.symm).1; omega)
  exact⟨h1,pre',x,h3,h4,h5,hgr.os.trans h6.os,hgr.tape.trans h6.tape,hgr.output.trans h6.output,cT h6.size hgr.size,fun k hk hne=>(hb k hk).trans (h6.block k hk hne),by
   obtain⟨e,he⟩:=h6.cell
   exact⟨e,(hb rb hrl).trans he⟩⟩
 case hassign =>
  intro l x W K hK
  have hf:((#[49]:Array Tmp).zip #[Value.int .i64 x]).foldl (fun t (p,v)=>t.setIfInBounds p v) a.tmps=a.tmps.setIfInBounds 49 (.int .i64 x):=by simp
  rw[hf];refine wpIn_region ?_;rw[show ∀o:Oper,List.range (#[o]:Array Oper).size=[0] from fun _=>rfl,wpOpsIn_cons];refine Cq (d:=5) (u:=.int .i64 x) (w':=W) hT rfl rfl rfl (by simp) ?_ hK;show Result.ok (Next.value ((a.tmps.setIfInBounds 49 (.int .i64 x)).getD 49 undef)) W=_;rw[i7,if_pos ⟨rfl,by omega⟩]
 case hbody =>
  intro l pre x W ⟨h1,hbel⟩ hpre;refine wpIn_block (wpIn_seq (wpIn_region ?_));rw[show ∀o p:Oper,List.range (#[o,p]:Array Oper).size=[0,1] from fun _ _=>rfl,wpOpsIn_cons]
  refine Cq (d:=50) (u:=.int .i64 x) (w':=W) hT rfl rfl rfl (by simp) (by
   show Result.ok (Next.value (((a.tmps.setIfInBounds 49 (.int .i64 x)).setIfInBounds 5 (.int .i64 x)).getD 5 undef)) W=_
   rw[i7,if_pos ⟨rfl,by simp; omega⟩]) ?_
  rw[wpOpsIn_cons]
  refine Cq (d:=51) (u:=.bool (x != 0)) (w':=W) hT rfl rfl rfl (by simp) (by
   show((do let u ←(do eqGuard .neq 38 (.tmp 50) (.const (.int .i64 0)) ((((a.tmps.setIfInBounds 49 (.int .i64 x)).setIfInBounds 5 (.int .i64 x)).setIfInBounds 50 (.int .i64 x)).getD 50 undef) (.int .i64 0); binOp .neq 38 ((((a.tmps.setIfInBounds 49 (.int .i64 x)).setIfInBounds 5 (.int .i64 x)).setIfInBounds 50 (.int .i64 x)).getD 50 undef) (.int .i64 0)); pure (.value u)):Sem Next).run Tryz.prog W=_;rw[i7,if_pos ⟨rfl,by simp; omega⟩]
   simp[eqGuard,binOp,Op.intCmp]) ?_
  show Code.wpIn (Fence.wide.inRound l) (2-1-1) Tryz.prog (Code.cond (.tmp 51) _ .skip) _ {tmps:=((((a.tmps.setIfInBounds 49 (.int .i64 x)).setIfInBounds 5 (.int .i64 x)).setIfInBounds 50 (.int .i64 x)).setIfInBounds 51 (.bool (x != 0))),defers:=[]} W;obtain⟨T,hTd⟩:∃T,T=((((a.tmps.setIfInBounds 49 (.int .i64 x)).setIfInBounds 5 (.int .i64 x)).setIfInBounds 50 (.int .i64 x)).setIfInBounds 51 (.bool (x != 0))):=⟨_,rfl⟩;rw[←hTd]
  have t51:T.getD 51 undef=.bool (x != 0):=by rw[hTd,i7,if_pos ⟨rfl,by simp; omega⟩]
  have t5:T.getD 5 undef=.int .i64 x:=by rw[hTd,i7,if_neg (by simp),i7,if_neg (by simp),i7,if_pos ⟨rfl,by simp; omega⟩]
  have t2:T.getD 2 undef=.pointer (some ⟨rb,0,none⟩):=by rw[hTd,i7,if_neg (by simp),i7,if_neg (by simp),i7,if_neg (by simp),i7,if_neg (by simp),h2]
  have tsz:78≤T.size:=by rw[hTd]; simpa using hsz
  clear hTd
  by_cases hx:x=0
  ·have e51:Act.eval {tmps:=T,defers:=[]} (.tmp 51)=.bool false:=t51.trans (by simp[hx]);refine wpIn_cond_false e51 (wpIn_skip ?_);simp only[Exit.inBlock,ownPostK];exact⟨KeepsOthers.refl _,Below.refl _ _,fun y hy=>(cG.1 hy).elim (h1 y) (fun h=>by rw[cM] at h; rw[h,hx]),hbel⟩
  ·have e51:Act.eval {tmps:=T,defers:=[]} (.tmp 51)=.bool true:=t51.trans (by simp[hx]);refine wpIn_cond_true e51 (wpIn_seq (wpIn_region ?_));rw[show ∀o p:Oper,List.range (#[o,p]:Array Oper).size=[0,1] from fun _ _=>rfl,wpOpsIn_cons]
   have e5:(execOp (Act.eval {tmps:=T,defers:=[]}) {dst:=some 52,op:=.move (.tmp 5),type:=38,pos:=r,after:=#[],guard:=none}).run Tryz.prog W=.ok (.value (.int .i64 x)) W:=by
    show Result.ok (Next.value (T.getD 5 undef)) W=_;rw[t5]
   refine Cq (d:=52) (u:=.int .i64 x) (w':=W) hT rfl rfl rfl (by simp) e5 ?_;rw[wpOpsIn_cons];have hW:W.heap[rb]?=some (.cells #[v0] e0 (0,0)):=(hbel.block rb hrl).trans hrb
   letI:Ghost:=(Gk (fun _=>False) [] (none))
   have hst:=qf (P:=Tryz.prog) (w:=W) (t:=38) (u:=.int .i64 x) (n:=1) (b:=rb) (o:=0) (by kernel_rfl) rfl hW (by simp) (by simp[Value.cells,Value.oneCell'])
   have hst':(storeVar 38 ⟨rb,0,none⟩ (.int .i64 x)).run Tryz.prog W=.ok () (W.setRow rb #[.int .i64 x]):=by simpa[Value.cells] using hst
   have t52:(T.setIfInBounds 52 (.int .i64 x)).getD 52 undef=.int .i64 x:=by rw[i7,if_pos ⟨rfl,by omega⟩]
   have t2':(T.setIfInBounds 52 (.int .i64 x)).getD 2 undef=.pointer (some ⟨rb,0,none⟩):=by rw[i7,if_neg (by simp),t2]
   have e6:(execOp (Act.eval {tmps:=T.setIfInBounds 52 (.int .i64 x),defers:=[]}) {dst:=none,op:=.store 38 (.tmp 2) (.tmp 52),type:=0,pos:=r,after:=#[{on:=0,ground:=.data},{on:=0,ground:=.phase}],guard:=none}).run Tryz.prog W=.ok .skip (W.setRow rb #[.int .i64 x]):=by
    show((do Instr.storeAt 38 ((T.setIfInBounds 52 (.int .i64 x)).getD 2 undef) ((T.setIfInBounds 52 (.int .i64 x)).getD 52 undef); pure .skip):Sem Next).run Tryz.prog W=_;rw[t52,t2'];simp[Instr.storeAt,Instr.sureAddr,hst']
   refine ZZ (w':=W.setRow rb #[.int .i64 x]) hT rfl rfl rfl (by simp) e6 ?_;refine wpIn_ret ?_;simp only[Exit.inBlock,ownPostK];refine⟨⟨by simp,fun k o hk ho=>?_⟩,trivial,pre,x,rfl,h1,hx,hbel.os,hbel.tape,hbel.output,by simpa using hbel.size,fun k hk hne=>(setRow_other _ _ _ _ hne).trans (hbel.block k hk),⟨_,setRow_heap _ _ _ _ _ _ hW⟩⟩
   by_cases hk2:k=rb
   ·subst hk2; rw[hW] at hk; cases hk; simp[Obj.isCells] at ho
   ·rw[setRow_other _ _ _ _ hk2]; exact hk
 case hdone =>
  intro D xs W hD hS ⟨h1,hbel⟩ hDo;subst hS;exact hdone D W h1 hbel hD hDo
 case hstop =>
  intro D c pre W hD hS ⟨hc,pre',x,h3,h4,h5,h6⟩ hDo;subst hc;refine wpIn_ret (hstop D W x ?_ h6 hD hDo);obtain⟨t,rfl⟩:=hS;rw[h3,cN,List.find?_append]
  have:List.find? (fun e=>e != 0) pre'=none:=dQ.2 fun y hy=>by simp[h4 y hy]
  rw[this];simp[h5]
end Go.Proofs.ZzM
end

noncomputable section
set_option maxRecDepth 100000
namespace Go.Proofs.ZzM
open Go Go.Am Go.RowKit
def fstC:Code→Code
 |.seq a _=>a
 |c=>c
def sndC:Code→Code
 |.seq _ b=>b
 |c=>c
def abX:Nat→Code→Code
 |0,c=>fstC c
 |n+1,c=>abX n (sndC c)
def afd:Nat→Code→Code
 |0,c=>c
 |n+1,c=>afd n (sndC c)
def ckB:Code:=Tryz.f72.body.getD .skip
def ckA5:Code:=fstC (afd 5 ckB |> fstC)
def ckRF:Code:=sndC (afd 5 ckB |> fstC)
def Ph:Code:=sndC (afd 5 ckB)
def ckPre:Code:=.seq (abX 0 ckB) (.seq (abX 1 ckB) (.seq (abX 2 ckB) (.seq (abX 3 ckB) (.seq (abX 4 ckB) ckA5))))
def agd:Tryz.f72.body=some (.seq (abX 0 ckB) (.seq (abX 1 ckB) (.seq (abX 2 ckB) (.seq (abX 3 ckB) (.seq (abX 4 ckB) (.seq (.seq ckA5 ckRF) Ph)))))):=by kernel_rfl
def ck_pt:List (Nat×â):=[(136,Co),(143,tV),(141,sh),(142,wC)]
def ckE (ρ:Type):Env ρ:=æ ck_pt []
abbrev ckR:Type:=Int ⊕ (List AV×List Blk)
def adl (S:St):Option Int:=match sf Tryz.prog Tryz.f72 S with
 |some v=>agG [tI] S.h v
 |none=>none
def ckK (e:Exit) (S:St):Option ckR:=match e with
 |.ret=>match adl S with
  |some n=>some (.inl n)
  |none=>none
 |.normal=>match decide (78≤S.t.length) with
  |true=>some (.inr ([lk S.t 1,lk S.t 2,lk S.t 48],S.h))
  |false=>none
 |_=>none
def ckH (x:Val É) (s:Val (.map tI Ô)) (n:Int):List Blk :=
 [.cells (flat É x),.cells [.int .i64 n],.cells (flat É x),.cells [.mp tI Ô s],.cells [.fn (.func 204) [] [.box 3 0]]]
def ckM (x:Val É):Option ckR :=
 Ã (ź x.1 (0:Int) (1000000:Int)) fun r1=>ifb (!r1) (some (.inl 1)) (ifb (igt (Ø x.2.1) (12:Int)) (some (.inl 2)) (ifb (igt (Ø x.2.2.1) (40:Int)) (some (.inl 2)) (ifb (igt (Ø x.2.2.2.1) (12:Int)) (some (.inl 2)) (ifb (igt (Ø x.2.2.2.2.1) (40:Int)) (some (.inl 2)) (ifb (igt (Ø x.2.2.2.2.2) (10:Int)) (some (.inl 2))
  (Ã (Ű x) fun r2=>ifb (ine r2 (0:Int)) (some (.inl r2)) (Ã (ĸ x) fun r3=>some (.inr ([.box 0 0,.box 1 0,.fn (.func 207) [] [.box 2 0,.box 4 0,.box 3 0]],ckH x r3 0)))))))))
def ck_pre (x:Val É):goC (ckE ckR) (ŧ (ckE ckR) 10) 72 [] 0 0 ckPre {t:=Xr [É] x++List.replicate 77 .any,h:=[]} ckK=ckM x:=by kernel_rfl
def afm (ρ:Type):Env ρ:={ckE ρ with inl:=fun _=>false}
def ckS (x:Val É):Option Int :=
 Ã (pK x) fun r5=>ifb (igt (Ø r5) (59:Int)) (some (2:Int)) (ck ((2:Int)*(Ø x.2.1)) fun n6=>ck ((Ø r5)-(Ø x.2.1)) fun n7=>ck ((2:Int)*n7) fun n8=>ck (n6+n8) fun n9=>ck ((2:Int)*(Ø x.2.2.2.2.1)) fun n10=>ck (n9+n10) fun n11=>ifb (igt n11 (300:Int)) (some (2:Int)) (some (0:Int)))
def ckK2 (e:Exit) (S:St):Option Int:=match e with
 |.ret=>match lk S.t 2 with
  |.box 1 0=>match lkB S.h 1 with
   |.cells [.int .i64 n]=>some n
   |_=>none
  |_=>none
 |_=>none
def ck_suf (x:Val É) (s:Val (.map tI Ô)):goC (afm Int) (ŧ (afm Int) 10) 72 [] 0 0 Ph {t:=[.any,.box 0 0,.box 1 0]++List.replicate 75 .any,h:=ckH x s 0} ckK2=ckS x:=by kernel_rfl
def afl (x:Val É):Ε x=match ckM x with
 |none=>none
 |some (.inl n)=>some n
 |some (.inr _)=>Ã (ĸ x) fun s=>SV (nh x s) some (ckS x):=by
 unfold Ε K7 ckM ckS
 cases ź x.1 (0:Int) (1000000:Int) with
 |none=>rfl
 |some r1 =>
 cases r1 with
 |false=>rfl
 |true =>
 simp only[Ã,ifb,dA]
 cases igt (Ø x.2.1) (12:Int) with
 |true=>rfl
 |false =>
 cases igt (Ø x.2.2.1) (40:Int) with
 |true=>rfl
 |false =>
 cases igt (Ø x.2.2.2.1) (12:Int) with
 |true=>rfl
 |false =>
 cases igt (Ø x.2.2.2.2.1) (40:Int) with
 |true=>rfl
 |false =>
 cases igt (Ø x.2.2.2.2.2) (10:Int) with
 |true=>rfl
 |false =>
 cases Ű x with
 |none=>rfl
 |some r2 =>
 simp only
 cases ine r2 (0:Int) with
 |true=>rfl
 |false =>
 cases ĸ x with
 |none=>rfl
 |some r3=>rfl
def ahh {x:Val É} {q:List AV×List Blk} (h:ckM x=some (.inr q)):((x.2.2.1:List (Val Ä)).length≤1000∧(x.2.2.2.1:List (Val iC)).length≤1000∧(x.2.2.2.2.1:List (Val Ö)).length≤1000∧(x.2.2.2.2.2:List (Val Ä)).length≤1000) ∧
 ∃s,ĸ x=some s∧q=([.box 0 0,.box 1 0,.fn (.func 207) [] [.box 2 0,.box 4 0,.box 3 0]],ckH x s 0):=by
 unfold ckM at h
 cases h0:ź x.1 (0:Int) (1000000:Int) with
 |none=>rw[h0] at h; cases h
 |some r1 =>
 rw[h0] at h
 cases r1 with
 |false=>cases h
 |true =>
 simp only[Ã,ifb,dA] at h
 cases h1:igt (Ø x.2.1) (12:Int) with
 |true=>rw[h1] at h; cases h
 |false =>
 rw[h1] at h
 cases h2:igt (Ø x.2.2.1) (40:Int) with
 |true=>rw[h2] at h; cases h
 |false =>
 rw[h2] at h
 cases h3:igt (Ø x.2.2.2.1) (12:Int) with
 |true=>rw[h3] at h; cases h
 |false =>
 rw[h3] at h
 cases h4:igt (Ø x.2.2.2.2.1) (40:Int) with
 |true=>rw[h4] at h; cases h
 |false =>
 rw[h4] at h
 cases h5:igt (Ø x.2.2.2.2.2) (10:Int) with
 |true=>rw[h5] at h; cases h
 |false =>
 rw[h5] at h
 cases h6:Ű x with
 |none=>rw[h6] at h; cases h
 |some r2 =>
 rw[h6] at h;simp only at h
 cases h7:ine r2 (0:Int) with
 |true=>rw[h7] at h; cases h
 |false =>
 rw[h7] at h
 cases h8:ĸ x with
 |none=>rw[h8] at h; cases h
 |some r3 =>
 rw[h8] at h
 have lt:∀{α:Type} (l:List α) (n:Nat),igt (Ø l) (n:Int)=false→l.length≤n:=by
  intro α l n h;unfold Ø at h;rw[Ji] at h;simp only[igt,gt_iff_lt,decide_eq_false_iff_not] at h;omega
 simp only[Option.some.injEq,Sum.inr.injEq] at h;exact⟨⟨by have:=lt x.2.2.1 40 h2; omega,by have:=lt x.2.2.2.1 12 h3; omega,by have:=lt x.2.2.2.2.1 40 h4; omega,by have:=lt x.2.2.2.2.2 10 h5; omega⟩,r3,rfl,h.symm⟩
def Cu {α β:Type} {f:α→Option β}:∀{l:List α} {m:List β},Jo f l=some m→m.length=l.length∧∀(i:Nat) (a:α),l[i]?=some a→∃b,m[i]?=some b∧f a=some b
 |[],m,h=>by cases h; exact⟨rfl,fun i a ha=>by simp at ha⟩
 |a::l,m,h=>by
  unfold Jo at h
  cases ha:f a with
  |none=>rw[ha] at h; cases h
  |some b =>
   rw[ha] at h
   cases hl:Jo f l with
   |none=>rw[hl] at h; cases h
   |some m' =>
    rw[hl] at h;cases h;obtain⟨h1,h2⟩:=Cu hl;refine⟨by simp[h1],fun i c hc=>?_⟩
    cases i with
    |zero=>simp at hc; subst hc; exact⟨b,by simp,ha⟩
    |succ i=>simpa using h2 i c (by simpa using hc)
def Ii (l:List Int):upE (fun j=>l[j]?.getD 0) l.length=l:=by
 unfold upE;refine List.ext_getElem (by simp) fun i h1 h2=>?_;simp at h1;simp[h1]
def CR.below {n₀:Nat} {w W:World} {av:Nat→Prop} (hb:Below n₀ w W) (hn:w.heap.size≤n₀) {t:Ty} {x:Val t} {vs:List Value} (h:CR w av t x vs):CR W av t x vs :=
 h.keep fun b hlt ha=>⟨hb.block b (cV hlt hn),ha⟩
def IW {w:World} {av:Nat→Prop} {xs:List (Int×Int)} {v:Value} (h:CR w av (.slice Ä) xs [v]):∃base cap b off,v=.slice base xs.length cap∧(0<xs.length→base=some ⟨b,off,none⟩∧b<w.heap.size) ∧
 ∀j,j<xs.length→w.cell? ⟨b,off+j*2,none⟩=some (.int .i64 (xs[j]?.getD (0,0)).1)∧w.cell? ⟨b,off+j*2+1,none⟩=some (.int .i64 (xs[j]?.getD (0,0)).2):=by
 obtain⟨base,cap,e,hc,hx⟩:=h;cases e;rcases hx with hx|⟨b,off,hb,hav,hlt,hx⟩
 ·refine⟨base,cap,0,0,rfl,fun h=>?_,fun j hj=>?_⟩
  ·rw[show xs=[] from hx] at h; simp at h
  ·rw[show xs=[] from hx] at hj; simp at hj
 ·refine⟨base,cap,b,off,rfl,fun _=>⟨hb,hlt⟩,fun j hj=>?_⟩;obtain⟨us,h1,h2⟩:=hx j xs[j] (cA hj);obtain⟨u1,u2,e1,h3,h4⟩:=h1;have e3:u1=[.int .i64 xs[j].1]:=h3;have e4:u2=[.int .i64 xs[j].2]:=h4;subst e3 e4 e1;have s:(Ä).size=2:=rfl;rw[s] at h2;have c1:=h2 0 _ rfl;have c2:=h2 1 _ rfl;rw[cA hj];exact⟨by simpa using c1,by simpa[Nat.add_assoc] using c2⟩
end Go.Proofs.ZzM
end

noncomputable section
set_option maxRecDepth 100000
namespace Go.Proofs.ZzM
open Go Go.Am Go.RowKit
section
variable {w W W':World}
abbrev noG:Nat→Prop:=fun _=>False
def Ru (w:World) (n:Int):ka w noG tI n (.int .i64 n):=⟨[.int .i64 n],rfl,rfl⟩
def agR {sb:Nat} {mv:Value} {e:TypeId} {s:Val (.map tI Ô)} (h:w.heap[sb]?=some (.cells #[mv] e (0,0))) (hm:CR w noG (.map tI Ô) s [mv]):ka w noG (.ptr (.map tI Ô)) s (.pointer (some ⟨sb,0,none⟩)):=by
 letI:Ghost:=(Gk (fun _=>False) [] (none))
 exact⟨[.pointer (some ⟨sb,0,none⟩)],⟨sb,0,[mv],rfl,id,Ĉ h,hm,CellsAt.of_cells h⟩,rfl⟩
def agF {y:Int} {u:Value} (h:RR w noG [tI] y u):u=.int .i64 y:=by
 obtain⟨us,h1,rfl⟩:=h;have:us=[.int .i64 y]:=h1;rw[this]; rfl
def ae1 (h1:∀b,b<W.heap.size→W'.heap[b]?=W.heap[b]?) (h2:W.heap.size≤W'.heap.size) (h3:W'.os=W.os) (h4:W'.tape=W.tape) (h5:W'.output=W.output):W.grownBy W' none :=
 ⟨h3,h4,h5,h2,fun b hb _=>h1 b hb⟩
def RQ {f:Nat} {p:â} (hp:jA Tryz.prog f p) (hrs:p.rs=[tI]) {x:Val (tyL p.ts)} {y:Int} (hF:p.F x=some (hrs▸(show Val (tyL [tI]) from y))) {vals:List Value} (ha:AL W noG p.ts x vals) :
 CallsIn Fence.wide 0 Tryz.prog f vals.toArray W fun e W''=>e=.returned (.int .i64 y)∧W.grownBy W'' none:=by
 obtain⟨ts,rs,F⟩:=p;dsimp only at hrs hF ha x;subst hrs;refine(hp noG x y hF W vals (fun _ h=>h.elim) ha).2.mono fun e w' ⟨u,h0,h1,h2,h3,h4,h5,h6⟩=>⟨?_,ae1 h2 h3 h4 h5 h6⟩;rw[h0,agF h1]
def Su {s:Val (.map tI Ô)} {a b y:Int} (hF:Ĺ a b s=some y) {sb:Nat} {mv:Value} {e:TypeId} (h:W.heap[sb]?=some (.cells #[mv] e (0,0))) (hm:CR W noG (.map tI Ô) s [mv]) :
 CallsIn Fence.wide 0 Tryz.prog 204 #[.int .i64 a,.int .i64 b,.pointer (some ⟨sb,0,none⟩)] W fun e W''=>e=.returned (.int .i64 y)∧W.grownBy W'' none :=
 RQ XF rfl (x:=(a,b,s)) (y:=y) hF (vals:=[.int .i64 a,.int .i64 b,.pointer (some ⟨sb,0,none⟩)]) ⟨_,_,rfl,Ru _ _,_,_,rfl,Ru _ _,_,rfl,agR h hm⟩
def ab8 {mv:Value} {s:Val (.map tI Ô)} (hm:CR W noG (.map tI Ô) s [mv]):ka W noG (.map tI Ô) s mv:=⟨[mv],hm,rfl⟩
def Zn {x:Val É} {cs:Array Value} (hb:CR W noG É x cs.toList):ka W noG É x (.agg cs):=⟨cs.toList,hb,by show Value.agg cs=Value.agg cs.toList.toArray; rw[Array.toArray_toList]⟩
def acl {x:Val É} {s:Val (.map tI Ô)} {i y:Int} (hF:Δ x s i=some y) {mv:Value} {cs:Array Value} (hb:CR W noG É x cs.toList) (hm:CR W noG (.map tI Ô) s [mv]) :
 CallsIn Fence.wide 0 Tryz.prog 208 #[.agg cs,mv,.int .i64 i] W fun e W''=>e=.returned (.int .i64 y)∧W.grownBy W'' none :=
 RQ RW rfl (x:=(x,s,i)) (y:=y) hF (vals:=[.agg cs,mv,.int .i64 i]) ⟨_,_,rfl,Zn hb,_,_,rfl,ab8 hm,_,rfl,Ru _ _⟩
def Vb {x:Val É} {s:Val (.map tI Ô)} {i y:Int} (hF:ł x s i=some y) {mv:Value} {cs:Array Value} (hb:CR W noG É x cs.toList) (hm:CR W noG (.map tI Ô) s [mv]) :
 CallsIn Fence.wide 0 Tryz.prog 209 #[.agg cs,mv,.int .i64 i] W fun e W''=>e=.returned (.int .i64 y)∧W.grownBy W'' none :=
 RQ Ie rfl (x:=(x,s,i)) (y:=y) hF (vals:=[.agg cs,mv,.int .i64 i]) ⟨_,_,rfl,Zn hb,_,_,rfl,ab8 hm,_,rfl,Ru _ _⟩
end
def oU {w:World} {av:Nat→Prop} {t:Ty} {xs:List (Val t)} {vs:List Value} (h:CR w av (.slice t) xs vs):∃base cap,vs=[.slice base xs.length cap]:=by
 obtain⟨base,cap,e,_⟩:=h;exact⟨base,cap,e⟩
def aeu {x:Val É} {s:Val (.map tI Ô)} {l1 l2 l3 l4:List Int} (h1:Jo (fun u=>Ĺ u.1 u.2 s) (x.2.2.1:List (Int×Int))=some l1) (h2:Jo (fun i=>Δ x s i) (vZ (x.2.2.2.1:List (Val iC)).length)=some l2)
 (h3:Jo (fun i=>ł x s i) (vZ (x.2.2.2.2.1:List (Val Ö)).length)=some l3) (h4:Jo (fun u=>Ĺ u.1 u.2 s) (x.2.2.2.2.2:List (Int×Int))=some l4)
 (hlen:(x.2.2.1:List (Val Ä)).length≤1000∧(x.2.2.2.1:List (Val iC)).length≤1000∧(x.2.2.2.2.1:List (Val Ö)).length≤1000∧(x.2.2.2.2.2:List (Val Ä)).length≤1000)
 {w:World} {bb tb sb:Nat} {te te2 te3:TypeId} {cb:Array Value} {mv:Value} (hbb:w.heap[bb]?=some (.cells cb te (0,0))) (hbk:CR w noG É x cb.toList) (htb:w.heap[tb]?=some (.cells #[.func (.func 204) #[] #[.pointer (some ⟨sb,0,none⟩)]] te2 (0,0)))
 (hsb:w.heap[sb]?=some (.cells #[mv] te3 (0,0))) (hmv:CR w noG (.map tI Ô) s [mv]) :
 SeqStopsK Fence.wide 1 Tryz.prog 207 #[.pointer (some ⟨bb,0,none⟩),.pointer (some ⟨tb,0,none⟩),.pointer (some ⟨sb,0,none⟩)] (fun x:Int=>#[.int .i64 x]) (Below w.heap.size) (fun xs=>xs=l1++(l2++(l3++l4))) (fun pre=>pre <+: (l1++(l2++(l3++l4)))) (l1++(l2++(l3++l4))).length w:=by
 intro l J Jx W hbel hJ hJx hY h0;obtain⟨fl,r0,e0,hfl,hr0⟩:=id hbk;obtain⟨ga,r1,e1,hga,hr1⟩:=hr0;obtain⟨us,r2,e2,hus,hr2⟩:=hr1;obtain⟨lo,r3,e3,hlo,hr3⟩:=hr2;obtain⟨co,ko,e4,hco,hko⟩:=hr3;obtain⟨f1,f2,e5,hf1,hf2⟩:=hfl;have e6:f1=[.int .i64 x.1.1]:=hf1;have e7:f2=[.int .i64 x.1.2]:=hf2;obtain⟨gab,gac,e8⟩:=oU hga;obtain⟨lob,loc,e9⟩:=oU hlo;obtain⟨cob,coc,e10⟩:=oU hco;obtain⟨usb0,usc0,e11⟩:=oU hus;obtain⟨kob0,koc0,e12⟩:=oU hko;rw[e11] at hus;rw[e12] at hko;obtain⟨usb,usc,ub,uo,e13,hub,hU⟩:=IW hus;obtain⟨kob,koc,kb,kof,e14,hkb,hK⟩:=IW hko;rw[e13] at e11;rw[e14] at e12
 have hcb:cb=#[.int .i64 x.1.1,.int .i64 x.1.2,.slice gab (x.2.1:List (Val Ô)).length gac,.slice usb (x.2.2.1:List (Val Ä)).length usc,.slice lob (x.2.2.2.1:List (Val iC)).length loc,.slice cob (x.2.2.2.2.1:List (Val Ö)).length coc,.slice kob (x.2.2.2.2.2:List (Val Ä)).length koc]:=by
  rw[←dF,e0,e1,e2,e3,e4,e5,e6,e7,e8,e9,e10,e11,e12];rfl
 obtain⟨g1,q1⟩:=Cu h1;obtain⟨g2,q2⟩:=Cu h2;obtain⟨g3,q3⟩:=Cu h3;obtain⟨g4,q4⟩:=Cu h4
 have gl2:l2.length=(x.2.2.2.1:List (Val iC)).length:=by rw[g2]; simp[vZ]
 have gl3:l3.length=(x.2.2.2.2.1:List (Val Ö)).length:=by rw[g3]; simp[vZ]
 have up1:upE (fun j=>l1[j]?.getD 0) (x.2.2.1:List (Val Ä)).length=l1:=by rw[←g1]; exact Ii l1
 have up2:upE (fun j=>l2[j]?.getD 0) (x.2.2.2.1:List (Val iC)).length=l2:=by rw[←gl2]; exact Ii l2
 have up3:upE (fun j=>l3[j]?.getD 0) (x.2.2.2.2.1:List (Val Ö)).length=l3:=by rw[←gl3]; exact Ii l3
 have up4:upE (fun j=>l4[j]?.getD 0) (x.2.2.2.2.2:List (Val Ä)).length=l4:=by rw[←g4]; exact Ii l4
 have at1:∀{xs:List (Int×Int)} {ls:List Int},(∀(i:Nat) (a:Int×Int),xs[i]?=some a→∃b,ls[i]?=some b∧Ĺ a.1 a.2 s=some b)→∀j,j<xs.length→Ĺ (xs[j]?.getD (0,0)).1 (xs[j]?.getD (0,0)).2 s=some (ls[j]?.getD 0):=by
  intro xs ls hq j hj;obtain⟨b,hb,hf⟩:=hq j xs[j] (cA hj);rw[cA hj,hb];exact hf
 have at2:∀{n:Nat} {ls:List Int} {f:Int→Option Int},(∀(i:Nat) (a:Int),(vZ n)[i]?=some a→∃b,ls[i]?=some b∧f a=some b)→∀j,j<n→f (j:Int)=some (ls[j]?.getD 0):=by
  intro n ls f hq j hj;obtain⟨b,hb,hf⟩:=hq j j (by simp[vZ,hj]);rw[hb]; exact hf
 have hbel':∀{W':World},Below w.heap.size W W'→Below w.heap.size w W':=fun h=>hbel.trans h;have hcell:∀{W':World} {p:Addr} {v:Value},Below w.heap.size w W'→w.cell? p=some v→p.block<w.heap.size→W'.cell? p=some v:=fun {W'} {p} {v} h hc hp=>(h.cell (p:=p) hp).trans hc;have lb:=Ĉ hbb;have lt:=Ĉ htb;have ls:=Ĉ hsb
 have:=aeC te 1 (by omega) l w.heap.size bb tb sb (.int .i64 x.1.1) (.int .i64 x.1.2) (.slice gab (x.2.1:List (Val Ô)).length gac) mv lb lt ls
  ub uo (x.2.2.1:List (Val Ä)).length usc kb kof (x.2.2.2.2.2:List (Val Ä)).length koc usb kob lob cob (x.2.2.2.1:List (Val iC)).length loc (x.2.2.2.2.1:List (Val Ö)).length coc hub hkb
  (fun j=>(x.2.2.1:List (Int×Int))[j]?.getD (0,0)) (fun j=>(x.2.2.2.2.2:List (Int×Int))[j]?.getD (0,0)) (fun j=>l1[j]?.getD 0) (fun j=>l2[j]?.getD 0) (fun j=>l3[j]?.getD 0) (fun j=>l4[j]?.getD 0)
  hlen.1 hlen.2.1 hlen.2.2.1 hlen.2.2.2 W ((hbel.block bb lb).trans (by rw[hbb,hcb])) (hcell hbel (by simp[World.cell?,htb]) lt) (hcell hbel (by simp[World.cell?,hsb]) ls)
  (fun j hj=>⟨hcell hbel (hU j hj).1 (hub (by omega)).2,hcell hbel (hU j hj).2 (hub (by omega)).2⟩) (fun j hj=>⟨hcell hbel (hK j hj).1 (hkb (by omega)).2,hcell hbel (hK j hj).2 (hkb (by omega)).2⟩)
  (fun j hj W' hW=>Su (at1 q1 j hj) (((hbel' hW).block sb ls).trans hsb) (CR.below (hbel' hW) (cB _) hmv))
  (fun j hj W' hW=>Su (at1 q4 j hj) (((hbel' hW).block sb ls).trans hsb) (CR.below (hbel' hW) (cB _) hmv))
  (fun j hj W' hW=>acl (at2 q2 j hj) (by have:=CR.below (hbel' hW) (cB _) hbk; rwa [hcb] at this) (CR.below (hbel' hW) (cB _) hmv))
  (fun j hj W' hW=>Vb (at2 q3 j hj) (by have:=CR.below (hbel' hW) (cB _) hbk; rwa [hcb] at this) (CR.below (hbel' hW) (cB _) hmv))
  J Jx (fun pre W1 W2 hj hg=>hJ pre W1 W2 none hj hg (fun r e=>by cases e)) (fun pre W1 W2 hj hg=>hJx pre W1 W2 none hj hg (fun r e=>by cases e))
  (fun pre y W1 hj hl=>hY pre y W1 hj (by simp only[cF]; omega)) h0 hbel.size
 rw[up1,up2,up3,up4] at this;exact this
end Go.Proofs.ZzM
end

noncomputable section
set_option maxRecDepth 100000
namespace Go.Proofs.ZzM
open Go Go.Am Go.RowKit
section
variable [Ghost] {ρ:Type} {ν:Nat→Value} {w:World}
def peel (hq:Ghost.Q=none) {E:Env ρ} {call:List Nat→Bool→Nat→List AV→List Blk→(AV→List Blk→Option ρ)→Option ρ} {L:Nat} (hE:ln E L call) (hD:tQ E L call) (hj:E.joins=fun _ _ _ _=>none) {fid:Nat} {path:List Nat} (hp:path.length+2=L) {x y c:Code} {bid n:Nat} {S:St} {K:Exit→St→Option ρ} {r:ρ} {a:Act} {Q:Exit→Act→World→Prop}
 (hL:∀z∈Ü bid x,rH E path fid z.1 z.2) (e:goC E call fid path 0 bid (.seq x y) S K=some r) (H:Sim ν S a w)
 (hn:∀ν' S' a' w',Sim ν' S' a' w'→Ev 0 ν S.h w ν' S'.h w'→goC E call fid path 0 bid y S' K=some r→c.wpIn Fence.wide n E.P Q a' w')
 (hx:∀ν' S' a' w' e,e≠.normal→Sim ν' S' a' w'→Ev 0 ν S.h w ν' S'.h w'→K e S'=some r→Q e a' w'):(Code.seq x c).wpIn Fence.wide n E.P Q a w:=by
 simp only[goC,hj] at e;have hgo:=tD hE hD hp x bid S _ ν a w hL e H (dJ _);rw[Y8 hq] at hgo;refine wpIn_seq (wpIn_wide.2 (wpIn_wide.1 (wpIn_mono hgo fun e' a' w' ha=>?_)));obtain⟨ν',S',h1,h2,h3,h4,h5⟩:=ha
 cases e' with
 |normal=>exact hn ν' S' a' w' h1 h2 h5
 |exit id=>exact hx ν' S' a' w' _ (by simp) h1 h2 h5
 |goto l=>exact hx ν' S' a' w' _ (by simp) h1 h2 h5
 |ret=>exact hx ν' S' a' w' _ (by simp) h1 h2 h5
 |panic ch=>exact hx ν' S' a' w' _ (by simp) h1 h2 h5
 |outgrown=>exact hx ν' S' a' w' _ (by simp) h1 h2 h5
end
def abz {T:Array Value} {rb:Nat} {n:Int} {e:TypeId} {W:World} (h2:T.getD 2 undef=.pointer (some ⟨rb,0,none⟩)) (hc:W.heap[rb]?=some (.cells #[.int .i64 n] e (0,0))):(results Tryz.f72 T).run Tryz.prog W=.ok (.int .i64 n) W:=by
 letI:Ghost:=(Gk (fun _=>False) [] (none))
 have hl:(loadVar 38 ⟨rb,0,none⟩).run Tryz.prog W=.ok (.int .i64 n) W:=by
  have:=run_loadVar (P:=Tryz.prog) (w:=W) (t:=38) (agg:=false) (n:=1) (by kernel_rfl) (us:=[.int .i64 n]) rfl (fun _=>rfl) (a:=⟨rb,0,none⟩) (fun j v hj=>by
   have:=CellsAt.of_cells hc j v (by simpa using hj)
   cases j with
   |zero=>simpa[Addr.add] using this
   |succ j=>simp at hj)
  exact this
 have hr:Tryz.f72.results=#[.cell 2 38]:=by kernel_rfl
 unfold results;rw[hr,Array.mapM_eq_mapM_toList];simp only[Sem.run_bind,Sem.run_map,List.mapM_cons,List.mapM_nil,h2,asAddr,Sem.run_pure,Result.andThen_ok,hl];rfl
@[reducible] def gck (G:Nat→Prop) (M:Nat):Ghost:=(Gh G).re G [] none M
def ahm [Ghost] {ν:Nat→Value} {h:List Blk} {w:World} {x:Val É} {us:List Value} (hv:ö (VRc ν h w) (flat É x) us):CR w noG É x us:=by
 have h1:Õ É (flat É x)=some x:=rfl;have h2:ö (VRs w (Av ν h)) (flat É x) us:=hv.mono fun c u hu=>hu.1.data;exact CR.mono (fun _ hf=>hf.elim) (ę h1 h2)
def AK (G:Nat→Prop) (y:Int) (w:World) (e:Ending) (w':World):Prop :=
 ∃u,e=.returned u∧RR w' G [tI] y u∧(∀b,b<w.heap.size→w'.heap[b]?=w.heap[b]?)∧w.heap.size≤w'.heap.size∧w'.os=w.os∧w'.tape=w.tape∧w'.output=w.output
def Zd {G:Nat→Prop} {y:Int} {w0 w:World} {a:Act} {ms:List Nat} {rb:Nat} {e:TypeId} (hd:a.defers=ms.map mk1) (hn:ms.Nodup) (hD:∀k∈ms,w.heap[k]?=some (.deferred (some []))∧w0.heap.size≤k) (h2:a.tmps.getD 2 undef=.pointer (some ⟨rb,0,none⟩)) (hc:w.heap[rb]?=some (.cells #[.int .i64 y] e (0,0)))
 (hb:∀b,b<w0.heap.size→w.heap[b]?=w0.heap[b]?) (hsz:w0.heap.size≤w.heap.size) (h3:w.os=w0.os) (h4:w.tape=w0.tape) (h5:w.output=w0.output):LeavesInM Fence.wide 2 Tryz.prog Tryz.f72 a.tmps (AK G y w0) a.defers .returning w:=by
 rw[hd]
 have hne:rb∉ms:=fun h=>by rw[(hD rb h).1] at hc; cases hc
 refine ro ms w hn (fun k hk=>(hD k hk).1) fun w2 q1 q2 q3 q4 q5=>?_;exact⟨.int .i64 y,abz h2 ((q5 rb hne).trans hc),.int .i64 y,rfl,⟨[.int .i64 y],rfl,rfl⟩,fun b hlt=>(q5 b fun hm=>by have:=(hD b hm).2; omega).trans (hb b hlt),by rw[q1]; exact hsz,q2.trans h3,q3.trans h4,q4.trans h5⟩
def ahi (S:St):ckK .ret S=(adl S).map .inl:=by
 unfold ckK
 cases adl S<;>rfl
def aaE (S:St):ckK .normal S=if decide (78≤S.t.length)=true then some (.inr ([lk S.t 1,lk S.t 2,lk S.t 48],S.h)) else none:=by
 unfold ckK
 cases decide (78≤S.t.length)<;>rfl
def jW [Ghost] {ρ:Type} {E:Env ρ} (h0:E.loops=jL []) (h1:E.ranges=fun _ _ _ _ _ _ _=>none) {path:List Nat} {fid bid:Nat} {b:LI}:rH E path fid bid b:=by
 cases b with
 |lp b=>exact fun m S K r ν a w e=>by rw[h0] at e; cases e
 |rf g ps x y=>exact fun m S K r ν a w e=>by rw[h1] at e; cases e
def agc {ρ:Type} (E:Env ρ) (hP:E.P.follows .mixedOrders=true) (hlib:∀[Ghost],jz E→EE E) (h0:E.loops=jL []) (h1:E.ranges=fun _ _ _ _ _ _ _=>none) (hy:E.yld=none) [Ghost]:ln E 2 (ŧ E 10) :=
 pN hlib (fun L call hE=>me hP L call hE) (fun n hn hE _ _ path f fn c _ _ _ z _=>jW h0 h1) 10 (cB _) (ir hy)
def agK:Code→String
 | .region _ ops _ => ((ops[0]?).map fun o => o.pos).getD ""
 | _ => ""
def rfA:Code→Code
 |.block _ (.rangeFunc _ _ a _)=>a
 |_=>.skip
def rfB:Code→Code
 |.block _ (.rangeFunc _ _ _ (.block _ (.seq a _)))=>a
 |_=>.skip
def rfC:Code→Code
 |.block _ (.rangeFunc _ _ _ (.block _ (.seq _ (.cond _ (.seq a _) _))))=>a
 |_=>.skip
def ahg:ckRF=Code.block 0 (Code.rangeFunc (.tmp 48) #[49] (Yj (agK (rfA ckRF))) (afT (agK (rfB ckRF)) (agK (rfC ckRF)))):=by kernel_rfl
def agb:∀e∈ck_pt,jA Tryz.prog e.1 e.2:=Á L6 (Á BS (Á yQ (Á L7 Å)))
def adm {e:Exit} {S:St} {n:Int} (h:ckK2 e S=some n):e=.ret∧lk S.t 2=.box 1 0∧lkB S.h 1=.cells [.int .i64 n]:=by
 unfold ckK2 at h
 split at h
 ·split at h
  ·rename_i h2
   split at h
   ·rename_i h3;cases h;exact⟨rfl,h2,h3⟩
   ·cases h
  ·cases h
 ·cases h
def UR [Ghost] {ν:Nat→Value} {h:List Blk} {w:World} {n:Int} {id:Nat} (H:HR ν h w) (hl:lkB h id=.cells [.int .i64 n]):∃b e,ν id=.pointer (some ⟨b,0,none⟩)∧w.heap[b]?=some (.cells #[.int .i64 n] e (0,0)):=by
 have hB:=H.blk id;rw[hl] at hB;obtain⟨b,c,e,h1,h2,h3⟩:=hB;obtain⟨u,h4,h5⟩:=h3.one;have h6:u=.int .i64 n:=h5.1;refine⟨b,e,h1,?_⟩;rw[h2]
 have:c=#[.int .i64 n]:=by rw[←dF,h4,h6]
 rw[this]
def Gm [Ghost] {ν:Nat→Value} {h:List Blk} {w:World} {id off:Nat} {v:Value} {b:Nat} (hv:VR ν h w (.box id off) v) (hb:ν id=.pointer (some ⟨b,0,none⟩)):v=.pointer (some ⟨b,off,none⟩):=by
 obtain⟨cs,b',h1,h2,h3⟩:=hv;rw[hb] at h2;cases h2;exact h3
def ahf {G:Nat→Prop} {x:Val É} {s:Val (.map tI Ô)} {y:Int} (hS:ckS x=some y) {ν:Nat→Value} {w0 w6 W:World} {a:Act} (H:@HR (gck G w0.heap.size) ν (ckH x s 0) w6) (hb:Below w6.heap.size w6 W) {ms:List Nat} (hd:a.defers=ms.map mk1) (hn:ms.Nodup) (hms:∀k∈ms,W.heap[k]?=some (.deferred (some []))∧w0.heap.size≤k) (hlen:78≤a.tmps.size)
 (t1:@VR (gck G w0.heap.size) ν (ckH x s 0) w6 (.box 0 0) (a.tmps.getD 1 undef)) (t2:@VR (gck G w0.heap.size) ν (ckH x s 0) w6 (.box 1 0) (a.tmps.getD 2 undef))
 (h0:∀b,b<w0.heap.size→w6.heap[b]?=w0.heap[b]?∧¬B0 ν (ckH x s 0) b) (hsz:w0.heap.size≤w6.heap.size) (h3:w6.os=w0.os) (h4:w6.tape=w0.tape) (h5:w6.output=w0.output) :
 Ph.wpIn Fence.wide 2 Tryz.prog (bodyPostM Fence.wide 2 Tryz.prog Tryz.f72 (AK G y w0)) a W:=by
 have hlive:∀b,B0 ν (ckH x s 0) b→b<w6.heap.size:=fun b hl=>@HR.ltA (gck G w0.heap.size) _ _ _ H b (.inl hl)
 have t1':∃b,ν 0=.pointer (some ⟨b,0,none⟩)∧a.tmps.getD 1 undef=.pointer (some ⟨b,0,none⟩):=by
  obtain⟨cs,b,_,h2,h3⟩:=t1;exact⟨b,h2,h3⟩
 have t2':∃b,ν 1=.pointer (some ⟨b,0,none⟩)∧a.tmps.getD 2 undef=.pointer (some ⟨b,0,none⟩):=by
  obtain⟨cs,b,_,h2,h3⟩:=t2;exact⟨b,h2,h3⟩
 letI:Ghost:=gck G w0.heap.size
 have H1:HR ν (ckH x s 0) w6:=H;have H2:HR ν (ckH x s 0) W:=(H1.grow (fun b hlt=>hb.block b hlt) hb.size hb.os hb.tape hb.output 0).2;have hdraw:∀L call,ln (afm Int) L call→tQ (afm Int) L call:=me hmix;have hl0:(afm Int).loops=jL []:=rfl;have hEnv:ln (afm Int) 2 (ŧ (afm Int) 10):=agc (afm Int) hmix (fun {_} _=>BM agb (afm Int) rfl rfl rfl rfl rfl (Ņ rfl) (kP rfl) (ir rfl)) rfl rfl rfl;have law:=ck_suf x s;rw[hS] at law
 have sim:Sim ν {t:=[.any,.box 0 0,.box 1 0]++List.replicate 75 .any,h:=ckH x s 0} a W:=by
  refine⟨⟨⟨ms,hd.trans (cY _).symm,hn,hms⟩,fun l hl=>(by cases hl),dJ _,cT hsz hb.size⟩,by simpa using hlen,fun i=>?_,H2⟩;simp only[OX];rcases i with _|_|_|i
  ·trivial
  ·obtain⟨b,g1,g2⟩:=t1';exact⟨_,b,rfl,g1,g2⟩
  ·obtain⟨b,g1,g2⟩:=t2';exact⟨_,b,rfl,g1,g2⟩
  ·trivial
 refine wpIn_wide.2 (wpIn_wide.1 (wpIn_mono (tD hEnv (hdraw _ _ hEnv) rfl Ph 0 _ _ ν a W (fun z _=>jW hl0 rfl) law sim (dJ _)) fun e a' w' ha=>?_));obtain⟨ν',S',g1,g2,_,_,g5⟩:=ha;obtain⟨rfl,k2,k3⟩:=adm g5;obtain⟨rb,te,r1,r2⟩:=UR g1.heap k3;have r3:=g1.tmps 2;rw[k2] at r3;have r4:=Gm r3 r1;obtain⟨⟨ms2,m1,m2,m3⟩,_⟩:=g1.defers;refine Zd (w:=w') (a:=a') (G:=G) (y:=y) (w0:=w0) (rb:=rb) (m1.trans (cY _)) m2 m3 r4 r2 (fun b hlt=>?_) (by have:=g2.size; have:=hb.size; omega) (g2.os.trans (hb.os.trans h3)) (g2.tape.trans (hb.tape.trans h4)) (g2.output.trans (hb.output.trans h5));have h01:=h0 b hlt
 have hlt6:b<w6.heap.size:=by omega
 have hltW:b<W.heap.size:=by have:=hb.size; omega
 exact(g2.keep b hltW h01.2).1.trans ((hb.block b hlt6).trans h01.1)
set_option maxHeartbeats 2000000 in
def aaF (G:Nat→Prop) (x:Val É) (y:Int) (hF':Ε x=some y) (w:World) (vals:List Value) (hG:∀b,G b→b<w.heap.size) (hAL:AL w G [É] x vals) :
 (∃fn c,Tryz.prog.funcs[72]?=some fn∧fn.body=some c)∧CallsIn Fence.wide 0 Tryz.prog 72 vals.toArray w (AK G y w):=by
 rw[afl] at hF'
 letI:Ghost:=gck G w.heap.size
 have hpt:=agb;have hdraw:∀L call,ln (ckE ckR) L call→tQ (ckE ckR) L call:=me hmix;have h0:(ckE ckR).loops=jL []:=rfl;have hEnv:ln (ckE ckR) 2 (ŧ (ckE ckR) 10):=agc (ckE ckR) hmix (fun {_} _=>BM hpt (ckE ckR) rfl rfl rfl rfl rfl (Ņ rfl) (kP rfl) (ir rfl)) rfl rfl rfl;have hD:=hdraw _ _ hEnv;have H:HR (fun _=>undef) [] w:=⟨fun _=>trivial,fun _ _ _ h=>(by cases h),hG,fun _ _ h=>(by cases h)⟩;have hav:∀b,Av (fun _=>undef) [] b→G b:=fun b hb=>hb.elim (fun⟨_,h,_⟩=>by cases h) id;have hargs:ö (VR (fun _=>undef) [] w) (Xr [É] x) vals:=AL.VR (hAL.mono hav);refine⟨⟨Tryz.f72,_,Tryz.func72,agd⟩,?_⟩
 have hlen:vals.length=1:=by
  have:=hargs.length;simpa[Xr,acV] using this.symm
 cases hM:ckM x with
 |none=>rw[hM] at hF'; cases hF'
 |some r0 =>
 rw[hM] at hF';have law:=ck_pre x;rw[hM] at law;refine callsIn_wide.2 (callsIn_wide.1 (callsIn_of_wp_marks (n:=2) Tryz.func72 agd trivial ?_ (R:=AK G y w)))
 have hS:Sim (fun _=>undef) {t:=Xr [É] x++List.replicate 77 .any,h:=[]} {tmps:=vals.toArray++Array.replicate (Tryz.f72.ntmps-vals.toArray.size) undef,defers:=[]} w:=by
  refine⟨⟨⟨[],rfl,f5,fun _ h=>(by cases h)⟩,fun l hl=>(by cases hl),dJ _,cB _⟩,?_,fun i=>?_,H⟩
  ·have:Tryz.f72.ntmps=78:=by kernel_rfl
   have hl2:(Xr [É] x).length=1:=rfl;simp[this,hlen,hl2]
  ·simp only[OX];rcases cX i (Xr [É] x).length with hi|hi
   ·have:=ö.lk (R:=VR (fun _=>undef) [] w) (fun _=>trivial) i hargs
    have hv:i<vals.length:=by rw[←hargs.length]; exact hi
    have h2:(vals.toArray++Array.replicate (Tryz.f72.ntmps-vals.toArray.size) undef).getD i undef=vals.getD i undef:=by
     simp[dP,eW,hv]
    rw[h2]; exact this
   ·rw[aeP _ _ hi]; trivial
 -- the ways out ahead of the loop
 have out:∀ν' S' a' w' e,e≠.normal→Sim ν' S' a' w'→Ev 0 (fun _=>undef) [] w ν' S'.h w'→ckK e S'=some r0→bodyPostM Fence.wide 2 Tryz.prog Tryz.f72 (AK G y w) e a' w':=by
  intro ν' S' a' w' e hne hS' hE' hk
  cases e with
  |normal=>exact(hne rfl).elim
  |ret =>
   rw[ahi] at hk
   cases hr:adl S' with
   |none=>rw[hr] at hk; cases hk
   |some n =>
    rw[hr,dB] at hk;cases hk
    have hyn:n=y:=by simpa using hF'
    subst hyn;unfold adl at hr
    split at hr
    ·rename_i v hv;show LeavesInM _ _ _ _ _ _ a'.defers _ _;obtain⟨⟨ms,m1,m2,m3⟩,_,m4,m5⟩:=hS'.defers;rw[show a'.defers=ms.map mk1 from m1.trans (cY _)];refine ro ms w' m2 (fun k hk=>(m3 k hk).1) fun w2 q1 q2 q3 q4 q5=>?_
     have hk2:∀(b:Nat) (o:Obj),w'.heap[b]?=some o→Mv o=true∨b<(gck G w.heap.size).B→w2.heap[b]?=some o:=fun b o hb hd=>by
      have hbm:b∉ms:=fun hm=>by
       rw[(m3 b hm).1] at hb; cases hb;rcases hd with hd|hd
       ·cases hd
       ·exact absurd hd (Nat.not_lt_zero _)
      rw[q5 b hbm]; exact hb
     have KG:lm (gck G w.heap.size) ν' S'.h w' (gck G w.heap.size).G w2:=lm.nds q2 q3 q4 (by omega) hk2
     have sim2:Sim ν' S' {a' with defers:=[]} w2:=⟨⟨⟨[],rfl,f5,fun _ h=>(by cases h)⟩,fun l hl=>(by cases hl),dJ _,by rw[q1]; exact m5⟩,hS'.len,fun i=>VR.step (g:=gck G w.heap.size) (D:=[]) (Q:=none) (M:=w.heap.size) KG (hS'.tmps i),
      HR.step (g:=gck G w.heap.size) (D:=[]) (Q:=none) (M:=w.heap.size) KG (fun b hb=>by rw[q1]; exact hS'.heap.ghlt b hb) (fun b hb hg=>by obtain⟨id,h1,h2⟩:=hb; exact hS'.heap.ghne id b h1 h2 hg) hS'.heap⟩
     obtain⟨u,r1,r2⟩:=Ob sim2 hv;exact⟨u,r1,u,rfl,Yk sim2.heap [tI] r2 hr,fun b hb=>(q5 b fun hm=>by have m7:w.heap.size≤b:=(m3 b hm).2; omega).trans (hE'.keep b hb fun⟨_,h,_⟩=>by cases h).1,by rw[q1]; exact hE'.size,q2.trans hE'.os,q3.trans hE'.tape,q4.trans hE'.output⟩
    ·cases hr
  |exit id=>cases hk
  |goto l=>cases hk
  |panic ch=>cases hk
  |outgrown=>cases hk
 have outT:∀{ν₁:Nat→Value} {h₁:List Blk} {w₁:World},Ev 0 (fun _=>undef) [] w ν₁ h₁ w₁→∀ν' S' a' w' e,e≠.normal→Sim ν' S' a' w'→Ev 0 ν₁ h₁ w₁ ν' S'.h w'→ckK e S'=some r0→bodyPostM Fence.wide 2 Tryz.prog Tryz.f72 (AK G y w) e a' w' :=
  fun hE ν' S' a' w' e hne hS' hE' hk=>out ν' S' a' w' e hne hS' (hE.trans hE' (cB _)) hk
 refine peel rfl hEnv hD rfl rfl (fun z _=>jW h0 rfl) law hS (fun ν1 S1 a1 w1 s1 e1 k1=>?_) out;refine peel rfl hEnv hD rfl rfl (fun z _=>jW h0 rfl) k1 s1 (fun ν2 S2 a2 w2 s2 e2 k2=>?_) (outT e1);have t2:=e1.trans e2 (cB _);refine peel rfl hEnv hD rfl rfl (fun z _=>jW h0 rfl) k2 s2 (fun ν3 S3 a3 w3 s3 e3 k3=>?_) (outT t2);have t3:=t2.trans e3 (cB _);refine peel rfl hEnv hD rfl rfl (fun z _=>jW h0 rfl) k3 s3 (fun ν4 S4 a4 w4 s4 e4 k4=>?_) (outT t3);have t4:=t3.trans e4 (cB _);refine peel rfl hEnv hD rfl rfl (fun z _=>jW h0 rfl) k4 s4 (fun ν5 S5 a5 w5 s5 e5 k5=>?_) (outT t4);have t5:=t4.trans e5 (cB _);refine wpIn_seq (wpIn_seq (wpIn_wide.2 (wpIn_wide.1 (wpIn_mono (tD hEnv hD rfl ckA5 0 S5 _ ν5 a5 w5 (fun z _=>jW h0 rfl) k5 s5 (dJ _)) fun e' a6 w6 ha=>?_))));obtain⟨ν,S,s6,e6,_,_,k6⟩:=ha;have t6:=t5.trans e6 (cB _)
 have other:∀e,e≠.normal→ckK e S=some r0→Exit.then (Code.wpIn Fence.wide 2 Tryz.prog Ph (bodyPostM Fence.wide 2 Tryz.prog Tryz.f72 (AK G y w))) (bodyPostM Fence.wide 2 Tryz.prog Tryz.f72 (AK G y w)) e a6 w6:=by
  intro e hne hk;have:=out ν S a6 w6 e hne s6 t6 hk
  cases e<;>first|exact(hne rfl).elim|exact this
 cases e' with
 |exit id=>exact other _ (by simp) k6
 |goto l=>exact other _ (by simp) k6
 |ret=>exact other _ (by simp) k6
 |panic ch=>exact other _ (by simp) k6
 |outgrown=>exact other _ (by simp) k6
 |normal =>
 clear other;rw[aaE] at k6
 split at k6<;>try (cases k6; done)
 rename_i h78
 have h78':78≤S.t.length:=by simpa using h78
 cases k6;obtain⟨hlens,s,hs,hq⟩:=ahh hM;simp only[Prod.mk.injEq,List.cons.injEq,and_true] at hq;obtain⟨⟨q1,q2,q48⟩,qh⟩:=hq
 have hF2:SV (nh x s) some (ckS x)=some y:=by
  simp only at hF';rw[hs] at hF';exact hF'
 -- what the errors are
 obtain⟨L,hL,hLy⟩:∃L,nh x s=some L∧(match L.find? (fun e=>e != 0) with|some e=>some e|none=>ckS x)=some y:=by
  unfold SV at hF2
  cases hl:nh x s with
  |none=>rw[hl] at hF2; cases hF2
  |some L=>rw[hl] at hF2; exact⟨L,rfl,hF2⟩
 obtain⟨l1,l2,l3,l4,m1,m2,m3,m4,rfl⟩:∃l1 l2 l3 l4,Jo (fun u=>Ĺ u.1 u.2 s) (x.2.2.1:List (Int×Int))=some l1∧Jo (fun i=>Δ x s i) (vZ (x.2.2.2.1:List (Val iC)).length)=some l2 ∧
  Jo (fun i=>ł x s i) (vZ (x.2.2.2.2.1:List (Val Ö)).length)=some l3∧Jo (fun u=>Ĺ u.1 u.2 s) (x.2.2.2.2.2:List (Int×Int))=some l4∧L=l1++(l2++(l3++l4)):=by
  unfold nh at hL
  cases m1:Jo (fun u=>Ĺ u.1 u.2 s) (x.2.2.1:List (Int×Int)) with
  |none=>rw[m1] at hL; cases hL
  |some l1 =>
  rw[m1] at hL
  cases m2:Jo (fun i=>Δ x s i) (vZ (x.2.2.2.1:List (Val iC)).length) with
  |none=>simp only[Ã,m2] at hL; cases hL
  |some l2 =>
  cases m3:Jo (fun i=>ł x s i) (vZ (x.2.2.2.2.1:List (Val Ö)).length) with
  |none=>simp only[Ã,m2,m3] at hL; cases hL
  |some l3 =>
  cases m4:Jo (fun u=>Ĺ u.1 u.2 s) (x.2.2.2.2.2:List (Int×Int)) with
  |none=>simp only[Ã,m2,m3,m4] at hL; cases hL
  |some l4 =>
  simp only[Ã,m2,m3,m4] at hL;cases hL;exact⟨l1,l2,l3,l4,rfl,rfl,rfl,rfl,rfl⟩
 -- the blocks
 obtain⟨T,Hh⟩:=S;dsimp only at q1 q2 q48 qh h78';subst qh;have p1:=s6.tmps 1;have p2:=s6.tmps 2;have p48:=s6.tmps 48;dsimp only at p1 p2 p48;rw[q1] at p1;rw[q2] at p2;rw[q48] at p48;obtain⟨rb,te1,n1,hrb⟩:=UR (id:=1) (n:=0) s6.heap rfl;have hB2:BR ν (ckH x s 0) w6 2 (.cells (flat É x)):=s6.heap.blk 2;have hB3:BR ν (ckH x s 0) w6 3 (.cells [.mp tI Ô s]):=s6.heap.blk 3;have hB4:BR ν (ckH x s 0) w6 4 (.cells [.fn (.func 204) [] [.box 3 0]]):=s6.heap.blk 4;obtain⟨bb,cb,te,n2,hbb,hb2⟩:=hB2;obtain⟨sb,cs3,te3,n3,hsb,hb3⟩:=hB3;obtain⟨tb,cs4,te2,n4,htb,hb4⟩:=hB4;obtain⟨mv,z3,hm3⟩:=hb3.one;obtain⟨fv,z4,hm4⟩:=hb4.one;have hmv:CR w6 noG (.map tI Ô) s [mv]:=CR.mono (fun _ hf=>hf.elim) (show CR w6 (Av ν (ckH x s 0)) (.map tI Ô) s [mv] from hm3.1)
 have hc3:cs3=#[mv]:=by rw[←dF,z3]
 have hfv:fv=.func (.func 204) #[] #[.pointer (some ⟨sb,0,none⟩)]:=by
  obtain⟨fs,cs,h1,h2,h3⟩:=hm4.1
  have e1:fs=#[]:=by rw[←dF]; exact h2.nil_left
  obtain⟨u,e2,h4⟩:=h3.one;have e3:u=.pointer (some ⟨sb,0,none⟩):=Gm (w:=w6) (id:=3) (off:=0) h4 n3
  have e4:cs=#[.pointer (some ⟨sb,0,none⟩)]:=by rw[←dF,e2,e3]
  rw[h1,e1,e4]
 have hc4:cs4=#[fv]:=by rw[←dF,z4]
 rw[hc3] at hsb;rw[hc4,hfv] at htb
 have hg:a6.tmps.getD 48 undef=.func (.func 207) #[] #[.pointer (some ⟨bb,0,none⟩),.pointer (some ⟨tb,0,none⟩),.pointer (some ⟨sb,0,none⟩)]:=by
  obtain⟨fs,cs,h1,h2,h3⟩:=p48
  have e1:fs=#[]:=by rw[←dF]; exact h2.nil_left
  have hl:=h3.length
  obtain⟨u1,u2,u3,e2⟩:∃u1 u2 u3,cs.toList=[u1,u2,u3]:=by
   rcases hcs:cs.toList with _|⟨u1,_|⟨u2,_|⟨u3,_|⟨u4,t⟩⟩⟩⟩<;>rw[hcs] at hl<;>simp at hl
   exact⟨u1,u2,u3,rfl⟩
  rw[e2] at h3;have e3:u1=.pointer (some ⟨bb,0,none⟩):=Gm (w:=w6) (id:=2) (off:=0) h3.1 n2;have e4:u2=.pointer (some ⟨tb,0,none⟩):=Gm (w:=w6) (id:=4) (off:=0) h3.2.1 n4;have e5:u3=.pointer (some ⟨sb,0,none⟩):=Gm (w:=w6) (id:=3) (off:=0) h3.2.2.1 n3;rw[h1,e1];congr 1;rw[←dF,e2,e3,e4,e5]
 have hseq:=aeu m1 m2 m3 m4 hlens hbb (ahm hb2) htb hsb hmv;have h2:=Gm p2 n1;have hsz:78≤a6.tmps.size:=cT h78' s6.len
 have hkeep:∀b,b<w.heap.size→w6.heap[b]?=w.heap[b]?∧¬B0 ν (ckH x s 0) b:=fun b hb=>t6.keep b hb fun⟨_,h,_⟩=>by cases h
 obtain⟨⟨ms,m1',m2',m3'⟩,_⟩:=s6.defers;have hdef:a6.defers=ms.map mk1:=m1'.trans (cY _);show ckRF.wpIn Fence.wide 2 Tryz.prog (Exit.then (Ph.wpIn Fence.wide 2 Tryz.prog (bodyPostM Fence.wide 2 Tryz.prog Tryz.f72 (AK G y w))) (bodyPostM Fence.wide 2 Tryz.prog Tryz.f72 (AK G y w))) a6 w6;rw[ahg];refine wpIn_block (agE hseq hg h2 hsz hrb (fun D W hall hbel hDl hDo=>?_) (fun D W z hz hput hDl hDo=>?_))
 ·have hck:ckS x=some y:=by
   have:(l1++(l2++(l3++l4))).find? (fun e=>e != 0)=none:=dQ.2 fun z hz=>by rw[hall z hz]; simp
   rw[this] at hLy;exact hLy
  have hDn:D∉ms:=fun hm=>by have:=Ĉ (m3' D hm).1; omega
  exact ahf (s:=s) (ms:=D::ms) hck s6.heap hbel (by show mark D::a6.defers=_; rw[hdef]; rfl) (eE.2 ⟨hDn,m2'⟩) (fun k hk=>by
   rcases cH.1 hk with rfl|hk
   ·exact⟨hDo,cT t6.size hDl⟩
   ·exact⟨(hbel.block k (Ĉ (m3' k hk).1)).trans (m3' k hk).1,(m3' k hk).2⟩) hsz p1 p2 hkeep t6.size t6.os t6.tape t6.output
 ·have hzy:z=y:=by
   rw[hz] at hLy;simpa using hLy
  subst hzy;obtain⟨te5,hcell⟩:=hput.cell;have hlb:=Ĉ hrb;have hlive:B0 ν (ckH x s 0) rb:=⟨1,rfl,by rw[n1]; rfl⟩
  have hDn:D∉ms:=fun hm=>by have:=Ĉ (m3' D hm).1; omega
  exact Zd (a:={a6 with defers:=mark D::a6.defers}) (w:=W) (ms:=D::ms) (by show mark D::a6.defers=_; rw[hdef]; rfl) (eE.2 ⟨hDn,m2'⟩) (fun k hk=>by
   rcases cH.1 hk with rfl|hk
   ·exact⟨hDo,cT t6.size hDl⟩
   ·exact⟨(hput.block k (Ĉ (m3' k hk).1) (fun e=>by have h9:=(m3' k hk).1; rw[e,hrb] at h9; cases h9)).trans (m3' k hk).1,(m3' k hk).2⟩) h2 hcell
   (fun b hb=>(hput.block b (by have:=t6.size; omega) (fun e=>(hkeep b hb).2 (e▸hlive))).trans (hkeep b hb).1) (by have:=t6.size; have:=hput.size; omega) (hput.os.trans t6.os) (hput.tape.trans t6.tape) (hput.output.trans t6.output)
def xZ:jA Tryz.prog 72 sj:=fun G x y hF w vals hG hAL=>aaF G x y hF w vals hG hAL
end Go.Proofs.ZzM
end

noncomputable section
namespace Go.Proofs
open Go.RowKit
attribute [local go_sem] Oper.semAt_some
def Zt (w:World) (o o':Obj):((w.alloc o).alloc o').heap[w.heap.size+1]?=some o':=by
 simp only[World.alloc];rw[show w.heap.size+1=(w.heap.push o).size from(Array.size_push _).symm];exact Array.getElem?_push_size
def adX (w:World) (o o':Obj):((w.alloc o).alloc o').heap[w.heap.size]?=some o:=by
 simp only[World.alloc];rw[Array.getElem?_push_lt (by rw[Array.size_push]; omega),Array.getElem_push_eq]
def Vt (w:World) (o o':Obj) (b:Nat) (hb:b<w.heap.size):((w.alloc o).alloc o').heap[b]?=w.heap[b]?:=by
 simp only[World.alloc];rw[Array.getElem?_push_lt (by simp; omega),Array.getElem_push_lt hb,Array.getElem?_eq_getElem hb]
def age {W:World} {b:Nat} {x0 x1 x2 x3 x4:Value} {t:TypeId} (h:W.heap[b]?=some (.cells #[x0,x1,x2,x3,x4] t (0,0))) :
 W.cell? ⟨b,0,none⟩=some x0∧W.cell? ⟨b,1,none⟩=some x1∧W.cell? ⟨b,2,none⟩=some x2∧W.cell? ⟨b,3,none⟩=some x3∧W.cell? ⟨b,4,none⟩=some x4∧∀j,W.frozen? ⟨b,j,none⟩=false:=by
 refine⟨?_,?_,?_,?_,?_,fun j=>?_⟩<;>simp only[World.cell?,World.frozen?,h]<;>rfl
def set5 {W:World} {b:Nat} {c0 c1 c2 c3 c4:Value} {x0 x1 x2 x3 x4:Value} {t:TypeId} (h:W.heap[b]?=some (.cells #[x0,x1,x2,x3,x4] t (0,0))) :
 (((((W.setCell ⟨b,0,none⟩ c0).setCell ⟨b,1,none⟩ c1).setCell ⟨b,2,none⟩ c2).setCell ⟨b,3,none⟩ c3).setCell ⟨b,4,none⟩ c4)=W.setRow b #[c0,c1,c2,c3,c4]:=by
 rw[setCell_eq_setRow W b 0 _ t (0,0) c0 h,setCell_eq_setRow _ b 1 _ t (0,0) c1 (setRow_heap _ _ _ _ t _ h),setRow_setRow,setCell_eq_setRow _ b 2 _ t (0,0) c2 (setRow_heap _ _ _ _ t _ h),setRow_setRow,
  setCell_eq_setRow _ b 3 _ t (0,0) c3 (setRow_heap _ _ _ _ t _ h),setRow_setRow,setCell_eq_setRow _ b 4 _ t (0,0) c4 (setRow_heap _ _ _ _ t _ h),setRow_setRow]
 rfl
def ZQ {T:Array Value} {b:Nat} {c0 c1 c2 c3 c4:Int} {e:TypeId} {W:World} (h2:T.getD 2 undef=.pointer (some ⟨b,0,none⟩)) (hc:W.heap[b]?=some (.cells #[.int .i64 c0,.int .i64 c1,.int .i64 c2,.int .i64 c3,.int .i64 c4] e (0,0))):(results Tryz.f220 T).run Tryz.prog W=.ok (.agg #[.int .i64 c0,.int .i64 c1,.int .i64 c2,.int .i64 c3,.int .i64 c4]) W:=by
 letI:Go.Am.Ghost:=Go.Am.Gh fun _=>False
 have hl:(loadVar 250 ⟨b,0,none⟩).run Tryz.prog W=.ok (.agg #[.int .i64 c0,.int .i64 c1,.int .i64 c2,.int .i64 c3,.int .i64 c4]) W:=by
  have:=Go.Am.run_loadVar (P:=Tryz.prog) (w:=W) (t:=250) (agg:=true) (n:=5) (by kernel_rfl) (us:=[.int .i64 c0,.int .i64 c1,.int .i64 c2,.int .i64 c3,.int .i64 c4]) rfl (fun h=>by cases h) (a:=⟨b,0,none⟩) (fun j v hj=>by
   have:=Go.Am.CellsAt.of_cells hc j v (by simpa using hj)
   have ha:(⟨b,0,none⟩:Addr).add j=⟨b,j,none⟩:=by unfold Addr.add; split<;>simp_all
   rw[ha]; simpa using this)
  exact this
 have hr:Tryz.f220.results=#[.cell 2 250]:=by kernel_rfl
 unfold results;rw[hr,Array.mapM_eq_mapM_toList];simp only[Sem.run_bind,Sem.run_map,List.mapM_cons,List.mapM_nil,h2,asAddr,Sem.run_pure,Result.andThen_ok,hl];rfl
set_option maxRecDepth 100000 in
set_option maxHeartbeats 1000000 in
def aez (v:Value) (w:World) (c0 c1 c2 c3 c4:Int) (n:Int)
 (hcopy : ∀ W, (∀ b, b < w.heap.size → W.heap[b]? = w.heap[b]?) → W.heap[w.heap.size + 1]? = some (.cells #[.int .i64 0, .int .i64 0, .int .i64 0, .int .i64 0, .int .i64 0] 250 (0, 0)) → (Builtin.copy_ #[51, 51] 3 #[.slice (some ⟨w.heap.size + 1, 0, none⟩) 5 5, v]).run Tryz.prog W = .ok (.int .i64 n) (W.setRow (w.heap.size + 1) #[.int .i64 c0, .int .i64 c1, .int .i64 c2, .int .i64 c3, .int .i64 c4])) :
  CallsIn Fence.wide 0 Tryz.prog 220 #[v] w fun e W'=>e=.returned (.agg #[.int .i64 c0,.int .i64 c1,.int .i64 c2,.int .i64 c3,.int .i64 c4])∧(∀b,b<w.heap.size→W'.heap[b]?=w.heap[b]?)∧w.heap.size≤W'.heap.size∧W'.os=w.os∧W'.tape=w.tape∧W'.output=w.output:=by
 refine callsIn_of_wp Tryz.func220 rfl trivial ?_ rfl;simp only[Tryz.ntmps220,eI,cP,dR,Nat.reduceAdd,Nat.reduceSub,Array.replicate_succ,Array.replicate_zero,List.push_toArray,gu,eV,dN]
 gi_wp2
 rw[hcopy _ (Vt _ _ _) (Zt _ _ _)];generalize hW:World.setRow _ _ _=W1
 have g1:W1.heap[w.heap.size+1]?=some (.cells #[.int .i64 c0,.int .i64 c1,.int .i64 c2,.int .i64 c3,.int .i64 c4] 250 (0,0)):=by
  rw[←hW]; exact setRow_heap _ _ _ _ 250 _ (Zt _ _ _)
 have g2:W1.heap[w.heap.size]?=some (.cells #[.int .i64 0,.int .i64 0,.int .i64 0,.int .i64 0,.int .i64 0] 250 (0,0)):=by
  rw[←hW,setRow_other _ _ _ _ (by omega)]; exact adX _ _ _
 have g3:∀b,b<w.heap.size→W1.heap[b]?=w.heap[b]?:=fun b hb=>by
  rw[←hW,setRow_other _ _ _ _ (by omega)]; exact Vt _ _ _ b hb
 have g4:W1.os=w.os∧W1.tape=w.tape∧W1.output=w.output∧W1.heap.size=w.heap.size+2:=by
  rw[←hW]; refine⟨rfl,rfl,rfl,?_⟩;rw[size_setRow]; simp only[World.alloc,Array.size_push]
 clear hW hcopy;obtain⟨l0,l1,l2,l3,l4,_⟩:=age g1;obtain⟨z0,z1,z2,z3,z4,zf⟩:=age g2
 gi_wp2
 rw[set5 g2];refine bodyPost_ret (ZQ rfl (setRow_heap _ _ _ _ 250 _ g2)) rfl ?_;exact⟨rfl,fun b hb=>(setRow_other _ _ _ _ (by omega)).trans (g3 b hb),by rw[size_setRow]; omega,g4.1,g4.2.1,g4.2.2.1⟩
end Go.Proofs
namespace Go.Proofs.ZzM
open Go Go.Am Go.Proofs
def agC (xs:List Int):(#[Value.int .i64 0,.int .i64 0,.int .i64 0,.int .i64 0,.int .i64 0].toList.take 0++(xs.take 5).map (Value.int .i64 ·)++#[Value.int .i64 0,.int .i64 0,.int .i64 0,.int .i64 0,.int .i64 0].toList.drop (0+((xs.take 5).map (Value.int .i64 ·)).length)).toArray =
 #[.int .i64 (xs.getD 0 0),.int .i64 (xs.getD 1 0),.int .i64 (xs.getD 2 0),.int .i64 (xs.getD 3 0),.int .i64 (xs.getD 4 0)]:=by
 rcases xs with _|⟨a,_|⟨b,_|⟨c,_|⟨d,_|⟨e,r⟩⟩⟩⟩⟩<;>rfl
def adq:jA Tryz.prog 220 S9:=by
 intro G x y hF w vals hG hAL;obtain⟨v,rfl,us,hus,hv⟩:=hAL;change List Int at x;obtain⟨base,cap,rfl,hcap,hcase⟩:=hus;have hv:v=.slice base (x:List Int).length cap:=hv;subst hv;have hy:y=((x:List Int).getD 0 0,(x:List Int).getD 1 0,(x:List Int).getD 2 0,(x:List Int).getD 3 0,(x:List Int).getD 4 0):=(Option.some.inj hF).symm;refine⟨⟨Tryz.f220,_,Tryz.func220,rfl⟩,?_⟩
 have hcopy:∀W:World,(∀b,b<w.heap.size→W.heap[b]?=w.heap[b]?)→W.heap[w.heap.size+1]?=some (.cells #[.int .i64 0,.int .i64 0,.int .i64 0,.int .i64 0,.int .i64 0] 250 (0,0)) →
  (Builtin.copy_ #[51,51] 3 #[.slice (some ⟨w.heap.size+1,0,none⟩) 5 5,.slice base (x:List Int).length cap]).run Tryz.prog W=.ok (.int .i64 ((((x:List Int).take 5).map (Value.int .i64 ·)).length:Nat)) (W.setRow (w.heap.size+1) #[.int .i64 ((x:List Int).getD 0 0),.int .i64 ((x:List Int).getD 1 0),.int .i64 ((x:List Int).getD 2 0),.int .i64 ((x:List Int).getD 3 0),.int .i64 ((x:List Int).getD 4 0)]):=by
  intro W hlow hcell;rcases hcase with h0|⟨b,off,rfl,hGb,hb,hcs⟩
  ·have h0:x=([]:List Int):=h0;subst h0;rw[run_copy_none W 51 51 3 3 _ _ 5 5 _ _ (by kernel_rfl) (by kernel_rfl) (by simp)];exact congrArg _ (setRow_self W _ _ 250 (0,0) hcell).symm
  ·have:=run_copy_row Tryz.prog W 51 51 3 3 (w.heap.size+1) 0 5 5 ⟨b,off,none⟩ (x:List Int).length cap _ 250 (((x:List Int).take 5).map (Value.int .i64 ·)) (by kernel_rfl) (by kernel_rfl) hcell (by simp[Nat.min_comm]) (fun j u hj=>by
    rw[eA] at hj
    cases hx:((x:List Int).take 5)[j]? with
    |none=>rw[hx] at hj; cases hj
    |some n =>
     rw[hx] at hj;cases hj
     have hx2:(x:List Int)[j]?=some n:=by
      rw[dI] at hx
      split at hx
      ·exact hx
      ·cases hx
     obtain⟨us,q1,q2⟩:=hcs j n hx2;have q1:us=[.int .i64 n]:=q1;subst q1;have q3:=q2 0 _ rfl
     have ha:(⟨b,off,none⟩:Addr).add j=⟨b,off+j,none⟩:=by unfold Addr.add; split<;>simp_all
     rw[ha,World.cell?_of_block (w:=w) (by exact hlow b hb)]
     simpa[Ty.size] using q3) (by simp; omega) (fun u hu=>by
    obtain⟨n,_,rfl⟩:=dc.1 hu
    rfl)
   rw[agC] at this;exact this
 refine(aez _ w _ _ _ _ _ _ hcopy).mono fun e w' h=>?_;obtain⟨rfl,h1,h2,h3,h4,h5⟩:=h;refine⟨_,rfl,?_,h1,h2,h3,h4,h5⟩;subst hy;exact⟨[.int .i64 _,.int .i64 _,.int .i64 _,.int .i64 _,.int .i64 _],⟨[_],_,rfl,rfl,[_],_,rfl,rfl,[_],_,rfl,rfl,[_],_,rfl,rfl,rfl⟩,rfl⟩
end Go.Proofs.ZzM
end

noncomputable section
set_option maxRecDepth 100000
namespace Go.Proofs.ZzM
open Go Go.Am
def aaI:ZP 15 Oj:=zt (qo _) Å rfl (Á Hs (Á Hr Å)) fun x=>My x some
def adI:ZP 269 Tp:=zt (BJ _) (Á xZ (Á BS (Á Ez Å))) rfl (Á K3 Å) fun x=>Rh x some
def afx:ZP 226 Yz:=zt (OU _) (Á Zk (Á adI Å)) rfl Å fun x=>UH x some
def ads:ZP 156 Tb:=zt (jP _) (Á afx Å) rfl (Á JN (Á JM (Á JL (Á JK (Á JJ Å))))) fun x=>Qa x some
def jx:ZP 80 iD:=zt (uk _) (Á xZ (Á ads Å)) rfl (Á J5 (Á J6 Å)) fun x=>Qu x some
def iT:ZP 135 Ũ:=zt (Ŕ _) Å rfl (Á kz Å) fun x=>lV x some
def Vl:ZP 147 GI:=zt (AA _) (Á iT Å) rfl Å fun x=>H6 x some
def afv:ZP 247 Yx:=zt (yq _) (Á mf Å) rfl (Á Nz (Á Ny Å)) fun x=>Ut x some
def Ic:ZP 261 vC:=zt (qY _) Å rfl Å fun x=>zo x some
def xY:ZP 264 sg:=zt (Bu _) (Á Ey Å) rfl (Á Kx Å) fun x=>QL x some
def L4:ZP 312 AY:=zt (Dl _) (Á Zi (Á adD Å)) rfl Å fun x=>KA x some
def ahk:ZP 296 abM:=zt (Uh _) (Á xY (Á L4 Å)) rfl Å fun x=>WU x some
def RV:ZP 262 Cn:=zt (xA _) (Á ahk Å) rfl Å fun x=>FP x some
def XE:ZP 320 We:=zt (Uf _) Å rfl Å fun x=>WR x some
def AI:ZP 313 zH:=zt (vH _) (Á xY (Á XE Å)) rfl Å fun x=>Dn x some
def adF:ZP 316 abN:=zt (Uj _) (Á xY (Á L4 Å)) rfl Å fun x=>WX x some
def adE:jA Tryz.prog 297 Tl:=abF (Bw _) (Ui _) (fun {_}=>BM (Á Ey (Á AI (Á adF (Á XE Å)))) (Bw _) rfl rfl rfl rfl rfl (Ņ rfl) (kP rfl) (ir rfl)) (fun {_}=>libN (Á Ey (Á AI (Á adF (Á XE Å)))) _) rfl hmix (tab:=uF _) rfl Å (us:=GW) rfl (Á (by kernel_rfl) Å) (oJ fun x=>QS x some)
def RU:ZP 263 Cm:=zt (xz _) (Á adE Å) rfl Å fun x=>FN x some
def aaO:ZP 215 Ot:=zt (G3 _) (Á BS (Á II (Á Ic (Á RV (Á RU Å))))) rfl Å fun x=>NI x some
def adH:ZP 216 Tn:=zt (KY _) Å rfl Å fun x=>Rb x some
def Vk:ZP 265 Jd:=zt (KC _) Å rfl Å fun x=>QP x some
def afs:ZP 217 Yu:=zt (OS _) (Á xY (Á Vk Å)) rfl Å fun x=>Um x some
def adG:ZP 218 Tm:=zt (KJ _) (Á xY (Á Vk Å)) rfl Å fun x=>QU x some
def aft:ZP 248 Yv:=zt (OT _) (Á aaO (Á adH (Á afs (Á adG Å)))) rfl Å fun x=>Uo x some
def afu:ZP 132 Yw:=zt (tq _) (Á L6 (Á Vl (Á II (Á Zj (Á afv (Á aft Å)))))) rfl (Á Nw (Á Nx (Á Nv Å))) fun x=>Ur x some
def yR:ZP 66 si:=zt (G4 _) (Á xZ (Á afu Å)) rfl Å fun x=>NN x some
def L2:ZP 105 EV:=zt (Ju _) (Á tM Å) rfl (Á P0 Å) fun x=>Wp x some
def L3:ZP 183 ww:=zt (lM _) (Á L2 Å) rfl (Á wO Å) fun x=>Bb x some
def kS:jA Tryz.prog 104 iU:=Yn (ũ _) (fun {_}=>BM (Á L2 (Á L3 Å)) (ũ _) rfl rfl rfl rfl rfl (Ņ rfl) (kP rfl) (ir rfl)) hmix (tab:=sm _) rfl (Á A9 (Á A8 (Á A7 (Á A6 Å)))) (oJ fun x=>Ff x some)
def Zh:ZP 196 PL:=zt (OG _) Å rfl Å fun x=>T5 x some
def Ex:ZP 126 wz:=zt (Bt _) (Á Zh Å) rfl (Á Kv Å) fun x=>QJ x some
def xX:ZP 127 qi:=zt (Θ _) Å rfl (Á Dc (Á Db (Á C9 (Á Da (Á C8 Å))))) fun x=>HQ x some
def NZ:ZP 155 zF:=zt (vF _) (Á Ex (Á xX Å)) rfl Å fun x=>Dh x some
def xV:ZP 79 qg:=zt (zU _) (Á yR (Á kS (Á NZ Å))) rfl Å fun x=>HD x some
def Pk:ZP 116 EW:=zt (qq _) Å rfl (Á Hw (Á Hx Å)) fun x=>MB x some
def L5:ZP 234 wA:=zt (tp _) Å rfl Å fun x=>By x some
def tN:ZP 180 lK:=zt (pz _) (Á L5 Å) rfl Å fun x=>xy x some
def Pl:ZP 179 EX:=zt (GO _) (Á Pk (Á tN Å)) rfl Å fun x=>MH x some
def oC:XOk Tryz.prog 273 (.row ÿ):=PB (r:=ÿ) (ð _) (fun {_}=>BM (Á Pl Å) (ð _) rfl rfl rfl rfl rfl (Ņ rfl) (kP rfl) (ir rfl)) hmix (tab:=Λ _) rfl (Á kd (Á ke Å)) (fun xs x m=>lf xs x m some)
def xW:XOk Tryz.prog 300 (.row ĩ):=PB (r:=ĩ) (ú _) (fun {_}=>BM Å (ú _) rfl rfl rfl rfl rfl (Ņ rfl) (kP rfl) (ir rfl)) hmix (tab:=jr _) rfl (Á po (Á pn (Á pp (Á pm Å)))) (fun xs x m=>rN xs x m some)
def oB {rec:(Val (.slice (.slice (.slice tI))))→Int→Int→Int→(Val Â)→Option ((Val (.slice (.slice (.slice tI))))×(Val Â))} (hrec:XOk Tryz.prog 274 (.row ⟨(.slice (.slice tI)),[tI,tI,tI],179,Â,fun(xs:(Val (.slice (.slice (.slice tI))))) (x:Val Ō) (m:Val Â)=>rec xs x.1 x.2.1 x.2.2 m⟩)):XOk Tryz.prog 274 (.row ⟨(.slice (.slice tI)),[tI,tI,tI],179,Â,fun(xs:(Val (.slice (.slice (.slice tI))))) (x:Val Ō) (m:Val Â)=>Ġ rec xs x.1 x.2.1 x.2.2 m some⟩):=PB (r:=⟨(.slice (.slice tI)),[tI,tI,tI],179,Â,fun(xs:(Val (.slice (.slice (.slice tI))))) (x:Val Ō) (m:Val Â)=>Ġ rec xs x.1 x.2.1 x.2.2 m some⟩) (Ç rec _) (fun {_}=>BM (Á Pl Å) (Ç rec _) rfl rfl rfl rfl rfl (Ņ rfl) (RH (Á hrec (Á xW Å)) rfl) (ir rfl)) hmix (tab:=iH rec _) rfl (Á nB (Á nA (Á nz (Á ny (Á nw Å))))) (fun xs x m=>ph _ xs x m some)
def iS:∀n:Nat,XOk Tryz.prog 274 (.row ⟨(.slice (.slice tI)),[tI,tI,tI],179,Â,fun(xs:(Val (.slice (.slice (.slice tI))))) (x:Val Ō) (m:Val Â)=>ğ n xs x.1 x.2.1 x.2.2 m⟩)
 |0=>afJ.mk (by intro _ _ _ _ _ _ h; cases h)
 |n+1=>oB (iS n)
def vv:XOk Tryz.prog 274 (.row kh):=iS 100
def np:XOk Tryz.prog 233 (.row ě):=PB (r:=ě) (Ď _) (fun {_}=>BM Å (Ď _) rfl rfl rfl rfl rfl (Ņ rfl) (RH (Á oC (Á vv Å)) rfl) (ir rfl)) hmix (tab:=jq _) rfl (Á pl (Á pj (Á pk Å))) (fun xs x m=>rM xs x m some)
def Zf:jA Tryz.prog 81 PJ:=I6 (δ _) (fun {_}=>BM (Á xV Å) (δ _) rfl rfl rfl rfl rfl (Ņ rfl) (RH (Á np Å) rfl) (ir rfl)) hmix (tab:=GR _) rfl (Á MV (Á MU Å)) (rtab:=JP _) rfl (Á (MT LV) Å) (Á MS Å) (oJ fun x=>TO x some)
def ahj:ZP 19 abL:=zt (T0 _) (Á jx (Á Zf Å)) rfl Å fun x=>WE x some
def Et:jA Tryz.prog 96 yj:=I6 (iW _) (fun {_}=>BM Å (iW _) rfl rfl rfl rfl rfl (Ņ rfl) (RH (Á np Å) rfl) (ir rfl)) hmix (tab:=GN _) rfl Å (rtab:=Jw _) rfl (Á (MF LV) Å) (Á ME Å) (oJ fun x=>TI x some)
def vu:ZP 82 nZ:=zt (pb _) (Á xV (Á Et Å)) rfl (Á Bj Å) fun x=>Fk x some
def adw:ZP 20 Te:=zt (J1 _) (Á jx (Á vu Å)) rfl Å fun x=>Qm x some
def vw:ZP 35 oa:=zt (pv _) Å rfl (Á Bp Å) fun x=>Fz x some
def Vj:ZP 26 GH:=zt (rO _) (Á vw Å) rfl (Á C3 Å) fun x=>HN x some
def Eu:ZP 88 wx:=zt (Bh _) Å rfl (Á JB Å) fun x=>P7 x some
def aaP:ZP 91 Ou:=zt (G5 _) (Á II (Á Pm Å)) rfl Å fun x=>NR x some
def RS:ZP 28 Cj:=zt (ks _) (Á jx (Á vu (Á Eu (Á aaP (Á Υ Å))))) rfl (Á Bm (Á Bl Å)) fun x=>Fp x some
def Ze:ZP 87 PI:=zt (ym _) (Á Υ Å) rfl (Á MJ (Á MI Å)) fun x=>TK x some
def afq:ZP 29 Ys:=zt (yn _) (Á jx (Á vu (Á Ze (Á kT Å)))) rfl (Á M7 (Á M6 Å)) fun x=>TY x some
def aaK:ZP 98 Om:=zt (wY _) Å rfl (Á HF Å) fun x=>MX x some
def Vi:ZP 30 GG:=zt (Ĵ _) (Á xV (Á jx (Á Ze (Á Et (Á aaK (Á tN Å)))))) rfl (Á CX (Á CY (Á CW (Á CV (Á CT (Á CS (Á CQ (Á CU Å)))))))) fun x=>HJ x some
def Zg:ZP 40 PK:=zt (OE _) (Á jx (Á Et Å)) rfl Å fun x=>TT x some
def adJ:ZP 68 Tq:=zt (K5 _) (Á xZ (Á iT (Á L6 Å))) rfl Å fun x=>Rl x some
def afw:ZP 69 Yy:=zt (FX _) (Á xZ Å) rfl (Á NP Å) fun x=>UE x some
def adA:ZP 133 Ti:=zt (Bs _) (Á Ex (Á xX (Á Zh Å))) rfl (Á Kk Å) fun x=>QD x some
def aaN:ZP 134 Oq:=zt (iM _) Å rfl (Á HX (Á HW (Á HV (Á HT (Á HU Å))))) fun x=>Ni x some
def adB:ZP 185 Tj:=zt (uE _) (Á adA (Á aaN Å)) rfl (Á Kn (Á Km Å)) fun x=>QF x some
def aaJ:ZP 106 Ol:=zt (GP _) (Á yR (Á adJ (Á afw (Á adB Å)))) rfl Å fun x=>ML x some
def aaM:ZP 42 Oo:=zt (qK _) (Á jx (Á Zf (Á Eu (Á kS (Á L2 (Á aaJ Å)))))) rfl (Á HL (Á HK Å)) fun x=>M5 x some
def adr:jA Tryz.prog 154 Ta:=I6 (Ζ _) (fun {_}=>BM (Á adq Å) (Ζ _) rfl rfl rfl rfl rfl (Ņ rfl) (kP rfl) (ir rfl)) hmix (tab:=CI _) rfl (Á JH Å) (rtab:=GQ _) rfl (Á (JG adn) Å) (Á JF Å) (oJ fun x=>P8 x some)
def Ew:ZP 78 wy:=zt (JW _) (Á jx (Á adr Å)) rfl Å fun x=>Qg x some
def adu:ZP 49 Wc:=zt (TR _) (Á Ew (Á Eu (Á L2 Å))) rfl Å fun x=>Wx x some
def adz:ZP 128 Th:=zt (FE _) Å rfl (Á WL (Á WJ (Á WI (Á WK Å)))) fun x=>aca x some
def adC:ZP 64 Tk:=zt (jR _) (Á Ex (Á xX (Á adz Å))) rfl (Á Ku (Á Kq (Á Kr (Á Ks (Á Kt Å))))) fun x=>QH x some
def adv:ZP 59 Td:=zt (Bn _) (Á adC (Á yR (Á jx (Á Et (Á kS Å))))) rfl (Á JZ Å) fun x=>Qk x some
def XD:ZP 188 Jc:=zt (uA _) Å rfl (Á FD Å) fun x=>Kh x some
def afr:ZP 189 Yt:=zt (FA _) Å rfl (Á Nf Å) fun x=>T3 x some
def N0:ZP 122 zG:=zt (vG _) (Á Ex (Á XD (Á afr Å))) rfl Å fun x=>Dk x some
def NX:ZP 60 zD:=zt (nu _) (Á yR (Á jx (Á Et (Á kS (Á N0 Å))))) rfl (Á zh Å) fun x=>C2 x some
def Vh:ZP 77 GF:=zt (zJ _) Å rfl Å fun x=>Hu x some
def XC:ZP 17 Jb:=zt (Cw _) (Á ahj (Á adw (Á Vj (Á RS (Á afq (Á Vi (Á vw (Á Zg (Á aaM (Á adu (Á adv (Á NX (Á Vh Å))))))))))))) rfl Å fun x=>Js x some
def RT:ZP 41 Ck:=zt (wZ _) (Á Ew (Á kS Å)) rfl Å fun x=>Ft x some
def aaL:ZP 48 On:=zt (GS _) (Á Ew (Á Pk Å)) rfl Å fun x=>MZ x some
def adt:ZP 117 Tc:=zt (Bk _) (Á L2 Å) rfl (Á JU Å) fun x=>Qe x some
def adx:ZP 50 Tf:=zt (J3 _) (Á Ew (Á Eu (Á adt Å))) rfl Å fun x=>Qo x some
def Ib:ZP 118 vB:=zt (qR _) (Á vw Å) rfl Å fun x=>zl x some
def NY:ZP 119 zE:=zt (nD _) Å rfl (Á zj Å) fun x=>C5 x some
def ady:ZP 51 Tg:=zt (lW _) (Á Ib (Á NY Å)) rfl (Á Kc (Á Kb (Á Ka (Á J9 Å)))) fun x=>Qw x some
def c_w7_SwapBack:ZP 9 nY:=zt (oY _) (Á aaI (Á XC (Á Zg (Á RT (Á aaL (Á adu (Á adx (Á ady Å)))))))) rfl (Á A4 Å) fun x=>E9 x some
end Go.Proofs.ZzM
end
