/- lemmas -/
import Derived.Test.YtdmegkgjpgcfgaaGreatAmD
import Derived.Test.YtdmegkgjpgcfgaaGreatAmE
import Derived.Ground.NamesProg
import Derived.Ground.Names2Prog
import Derived.KernelRfl
import Derived.Test.YtdmegkgjpgcfgaaGreatMdMA
import Derived.Test.YtdmegkgjpgcfgaaGreatMdKC
import Derived.Test.YtdmegkgjpgcfgaaGreatMdPA
import Derived.RangeFuncBox
import Derived.Lib.SliceRun
import Derived.RangeFuncLeaves
import Derived.WalkKit
import Derived.OwnWalkIn
import Derived.TacticsInMore
import Derived.LoopNIn
import Derived.LoopIn
import Derived.Test.YtdmegkgjpgcfgaaGreatProg
import Derived.RangeFuncFrom
import Derived.RangeFuncRecord
import Derived.Laws.CopyRow
import Derived.Laws.IdiomCopy
import Derived.Test.YtdmegkgjpgcfgaaGreatAmA
import Derived.Test.YtdmegkgjpgcfgaaGreatMdKB
import Derived.Test.YtdmegkgjpgcfgaaGreatMdKA
set_option linter.all false
set_option linter.unusedSectionVars false
set_option linter.unusedVariables false
set_option linter.unusedSimpArgs false
noncomputable section
namespace Go.Proofs
open Go.Shelf
def Tryz.laysSort_ren:Go.Shelf.Ren:=⟨fun|189=>184|125=>236|257=>235|128=>284|129=>285|294=>275|295=>276|296=>277|297=>278|298=>279|299=>280|216=>281|300=>282|301=>283|328=>301|329=>302|330=>303|331=>304|332=>305|215=>234|343=>318|n=>n,fun|28=>51|3=>3|46=>148|0=>0|51=>307|53=>309|4=>4|183=>300|182=>299|131=>256|5=>5|9=>9|218=>328|222=>332|228=>342|229=>343|n=>n,fun|n=>n⟩
def Tryz.laysSort:Go.Proofs.Lays.n189 Tryz.prog Tryz.laysSort_ren:={
 mixed:=by kernel_rfl
 f125:=Tryz.func236.trans (congrArg some (by kernel_rfl))
 f128:=Tryz.func284.trans (congrArg some (by kernel_rfl))
 f129:=Tryz.func285.trans (congrArg some (by kernel_rfl))
 f189:=Tryz.func184.trans (congrArg some (by kernel_rfl))
 f215:=Tryz.func234.trans (congrArg some (by kernel_rfl))
 f216:=Tryz.func281.trans (congrArg some (by kernel_rfl))
 f257:=Tryz.func235.trans (congrArg some (by kernel_rfl))
 f294:=Tryz.func275.trans (congrArg some (by kernel_rfl))
 f295:=Tryz.func276.trans (congrArg some (by kernel_rfl))
 f296:=Tryz.func277.trans (congrArg some (by kernel_rfl))
 f297:=Tryz.func278.trans (congrArg some (by kernel_rfl))
 f298:=Tryz.func279.trans (congrArg some (by kernel_rfl))
 f299:=Tryz.func280.trans (congrArg some (by kernel_rfl))
 f300:=Tryz.func282.trans (congrArg some (by kernel_rfl))
 f301:=Tryz.func283.trans (congrArg some (by kernel_rfl))
 f328:=Tryz.func301.trans (congrArg some (by kernel_rfl))
 f329:=Tryz.func302.trans (congrArg some (by kernel_rfl))
 f330:=Tryz.func303.trans (congrArg some (by kernel_rfl))
 f331:=Tryz.func304.trans (congrArg some (by kernel_rfl))
 f332:=Tryz.func305.trans (congrArg some (by kernel_rfl))
 f343:=Tryz.func318.trans (congrArg some (by kernel_rfl))
 t0:=Tryz.underlying0
 a0:=Tryz.isAgg0
 z0:=Tryz.sizeOf0
 v0:=Tryz.zeroValue0
 t3:=Tryz.underlying3
 a3:=Tryz.isAgg3
 z3:=Tryz.sizeOf3
 v3:=Tryz.zeroValue3
 t4:=Tryz.underlying4
 a4:=Tryz.isAgg4
 z4:=Tryz.sizeOf4
 v4:=Tryz.zeroValue4
 t5:=Tryz.underlying5
 a5:=Tryz.isAgg5
 z5:=Tryz.sizeOf5
 v5:=Tryz.zeroValue5
 t9:=Tryz.underlying9
 a9:=Tryz.isAgg9
 z9:=Tryz.sizeOf9
 v9:=Tryz.zeroValue9
 t28:=Tryz.underlying51
 a28:=Tryz.isAgg51
 z28:=Tryz.sizeOf51
 v28:=Tryz.zeroValue51
 t46:=Tryz.underlying148
 a46:=Tryz.isAgg148
 z46:=Tryz.sizeOf148
 v46:=Tryz.zeroValue148
 t51:=Tryz.underlying307
 a51:=Tryz.isAgg307
 z51:=Tryz.sizeOf307
 v51:=Tryz.zeroValue307
 t53:=Tryz.underlying309
 a53:=Tryz.isAgg309
 z53:=Tryz.sizeOf309
 v53:=Tryz.zeroValue309
 t131:=Tryz.underlying256
 a131:=Tryz.isAgg256
 z131:=Tryz.sizeOf256
 v131:=Tryz.zeroValue256
 t182:=Tryz.underlying299
 a182:=Tryz.isAgg299
 z182:=Tryz.sizeOf299
 v182:=Tryz.zeroValue299
 t183:=Tryz.underlying300
 a183:=Tryz.isAgg300
 z183:=Tryz.sizeOf300
 v183:=Tryz.zeroValue300
 t218:=Tryz.underlying328
 a218:=Tryz.isAgg328
 z218:=Tryz.sizeOf328
 v218:=Tryz.zeroValue328
 t222:=Tryz.underlying332
 a222:=Tryz.isAgg332
 z222:=Tryz.sizeOf332
 v222:=Tryz.zeroValue332
 t228:=Tryz.underlying342
 a228:=Tryz.isAgg342
 z228:=Tryz.sizeOf342
 v228:=Tryz.zeroValue342
 t229:=Tryz.underlying343
 a229:=Tryz.isAgg343
 z229:=Tryz.sizeOf343
 v229:=Tryz.zeroValue343}
def Tryz.laysCompact_ren:Go.Shelf.Ren:=⟨fun|20=>249|n=>n,fun|22=>51|3=>3|4=>4|0=>0|n=>n,fun|n=>n⟩
def Tryz.laysCompact:Go.Proofs.Lays2.n20 Tryz.prog Tryz.laysCompact_ren:={
 mixed:=by kernel_rfl
 f20:=Tryz.func249.trans (congrArg some (by kernel_rfl))
 t0:=Tryz.underlying0
 a0:=Tryz.isAgg0
 z0:=Tryz.sizeOf0
 v0:=Tryz.zeroValue0
 t3:=Tryz.underlying3
 a3:=Tryz.isAgg3
 z3:=Tryz.sizeOf3
 v3:=Tryz.zeroValue3
 t4:=Tryz.underlying4
 a4:=Tryz.isAgg4
 z4:=Tryz.sizeOf4
 v4:=Tryz.zeroValue4
 t22:=Tryz.underlying51
 a22:=Tryz.isAgg51
 z22:=Tryz.sizeOf51
 v22:=Tryz.zeroValue51
 i3:=by kernel_rfl}
end Go.Proofs
namespace Go.Proofs.ZzM
open Go Go.Am
def hmix:Tryz.prog.follows .mixedOrders=true:=by kernel_rfl
def plain_ : (Tryz.prog.funcs.toList.all fun fn => !(fn.name == "runtime.NumGoroutine")) = true := by kernel_rfl
def plain (f : Nat) (fn : Func) (h : Tryz.prog.funcs[f]? = some fn) : (fn.name == "runtime.NumGoroutine") = false := by
 have:=cX.1 plain_ fn (cG (i:=f) (by simpa using h));simpa using this
def ahF:Tryz.laysSort_ren.f 189=184:=by kernel_rfl
def aaA:Tryz.laysCompact_ren.f 20=249:=by kernel_rfl
section
variable [Ghost] {ρ:Type}
def sortOk (f:Nat) (hf:Vl f=true) (h:List Blk) (x:AV) (K:AV→List Blk→Option ρ) (q:ρ) (e:PR h x K=some q) (ν:Nat→Value) (w:World) (u:Value) (H:HR ν h w) (hx:VR ν h w x u):ET Tryz.prog f ν h w [u] K q:=by
 have h1:f=184:=by
  unfold Vl at hf
  split at hf
  ·rfl
  ·cases hf
 subst h1;have:=ahu Tryz.laysSort e H hx ⟨_,rfl⟩
 rwa [ahF] at this
def ad8 (f:Nat) (hf:yj f=true) (h:List Blk) (x:AV) (K:AV→List Blk→Option ρ) (q:ρ) (e:oP h x K=some q) (ν:Nat→Value) (w:World) (u:Value) (H:HR ν h w) (hx:VR ν h w x u):ET Tryz.prog f ν h w [u] K q:=by
 have h1:f=249:=by
  unfold yj at hf
  split at hf
  ·rfl
  ·cases hf
 subst h1;have:=abk Tryz.laysCompact e H hx ⟨_,rfl⟩
 rwa [aaA] at this
def aid:GF Tryz.prog LA:=by
 intro g hg fz S nid x v S' e ν w u H hx hn hd;unfold LA at hg
 split at hg
 ·exact rR Tryz.func114 (T:=31) (by kernel_rfl) (by kernel_rfl) e H hx hn hd
 ·exact rR Tryz.func115 (T:=51) (by kernel_rfl) (by kernel_rfl) e H hx hn hd
 ·exact rR Tryz.func140 (T:=103) (by kernel_rfl) (by kernel_rfl) e H hx hn hd
 ·exact rR Tryz.func170 (T:=27) (by kernel_rfl) (by kernel_rfl) e H hx hn hd
 ·exact rR Tryz.func182 (T:=24) (by kernel_rfl) (by kernel_rfl) e H hx hn hd
 ·exact rR Tryz.func250 (T:=25) (by kernel_rfl) (by kernel_rfl) e H hx hn hd
 ·exact rR Tryz.func251 (T:=26) (by kernel_rfl) (by kernel_rfl) e H hx hn hd
 ·exact rR Tryz.func252 (T:=28) (by kernel_rfl) (by kernel_rfl) e H hx hn hd
 ·cases hg
def B4 {pt:List (Nat×à)} (h:∀e∈pt,jO Tryz.prog e.1 e.2) (E:Env ρ) (hP:E.P=Tryz.prog) (h1:E.pure=abc pt) (h2:E.sort=Vl) (h3:E.compact=yj) (h4:E.clone=LA) (hj:aai E) (hx:∀f X,E.ext f=some X→abG E.P f X) (hy:jN E):EP E:=by
 constructor
 ·intro f p hf;rw[h1] at hf;rw[hP];exact h (f,p) (Px hf)
 ·intro f hf;rw[h2] at hf;rw[hP];exact sortOk f hf
 ·intro f hf;rw[h3] at hf;rw[hP];exact ad8 f hf
 ·rw[hP]; exact plain
 ·rw[hP,h4]; exact aid
 ·exact hj
 ·exact hy
 ·exact hx
def libN {pt:List (Nat×à)} (h:∀e∈pt,jO Tryz.prog e.1 e.2) (tab:List (Þ ρ)):EP (å pt tab):=B4 h _ rfl rfl rfl rfl rfl (ŏ rfl) (lB rfl) (iI rfl)
end
abbrev ZP (f:Nat) (p:à):Prop:=jO Tryz.prog f p
def zt {f:Nat} {p:à} {pt:List (Nat×à)} {tab:List (Þ (Val (tyL p.rs)))} (E:Env (Val (tyL p.rs))) (hc:∀e∈pt,jO Tryz.prog e.1 e.2) (hE:E=å pt tab) (hok:∀x∈tab,x.Ok E) (law:∀x:Val (tyL p.ts),topK E f (X4 p.ts x) (fun h v=>Ä (ahE p.rs h v) some)=p.F x):jO Tryz.prog f p:=by
 subst hE;exact YZ (å pt tab) (fun {_}=>libN hc _) hmix (tab:=tab) rfl hok (oY law)
end Go.Proofs.ZzM
end

noncomputable section
set_option maxRecDepth 100000
namespace Go.Proofs.ZzM
open Go Go.Am
def lD:ZP 93 iL:=zt (κ _) Å rfl (Á tD (Á tC Å)) fun x=>wz x some
def Oa {n:Nat} (hr:jP Tryz.prog ⟨272,(.slice tI),(.slice tI),Wf n⟩):jP Tryz.prog ⟨272,(.slice tI),(.slice tI),Wf (n+1)⟩:=RP ⟨272,(.slice tI),(.slice tI),Wf (n+1)⟩ (fun al=>ý al (Wf n) _) rfl (fun _=>rfl) (fun _=>rfl) (fun _ {_} hy=>B4 (Á lD Å) _ rfl rfl rfl rfl rfl (ŏ rfl) (lB rfl) hy) hmix (fun al=>D8 (E:=ý al (Wf n) _) hmix (tab:=wg al (Wf n) _) rfl (Á CS Å) (rtab:=xm al (Wf n) _) rfl (Á (CQ hr) Å) (Á CP Å)) (fun m xs h=>(HL m (Wf (n+1))).trans (acK h))
def EG:∀n:Nat,jP Tryz.prog ⟨272,(.slice tI),(.slice tI),Wf n⟩
 |0=>⟨rfl,fun _ _ m xs h=>(Nat.not_lt_zero _ (YX (n:=0) (l:=m) (xs:=xs) h).1).elim⟩
 |n+1=>Oa (EG n)
def aek:jP Tryz.prog Lx:=(EG 10).mono fun _ _ h=>aaF h
def Iq {n:Nat} (hr:jP Tryz.prog ⟨231,(.slice œ),(.slice (.slice tI)),Wg n⟩):jP Tryz.prog ⟨231,(.slice œ),(.slice (.slice tI)),Wg (n+1)⟩:=RP ⟨231,(.slice œ),(.slice (.slice tI)),Wg (n+1)⟩ (fun al=>è al (Wg n) _) rfl (fun _=>rfl) (fun _=>rfl) (fun _ {_} hy=>B4 Å _ rfl rfl rfl rfl rfl (ŏ rfl) (lB rfl) hy) hmix (fun al=>D8 (E:=è al (Wg n) _) hmix (tab:=qR al (Wg n) _) rfl Å (rtab:=sQ al (Wg n) _) rfl (Á (zD hr) (Á (zH aek) Å)) (Á zB (Á zG Å))) (fun m xs h=>(C3 m (Wg (n+1))).trans (Yd h))
def yw:∀n:Nat,jP Tryz.prog ⟨231,(.slice œ),(.slice (.slice tI)),Wg n⟩
 |0=>⟨rfl,fun _ _ m xs h=>(Nat.not_lt_zero _ (YY (n:=0) (l:=m) (xs:=xs) h).1).elim⟩
 |n+1=>Iq (yw n)
def L9:jP Tryz.prog pT:=(yw 10).mono fun _ _ h=>VG h
def aej:jP Tryz.prog Eb:=RP Eb (fun al=>ć al (fun _=>none) _) rfl (fun _=>rfl) (fun _=>rfl) (fun _ {_} hy=>B4 Å _ rfl rfl rfl rfl rfl (ŏ rfl) (lB rfl) hy) hmix (fun _=>IL hmix rfl (Á qo Å) rfl) (fun m xs h=>(tx m yX).trans (abX h))
def uj:ZP 173 mb:=zt (j8 _) Å rfl (Á uS Å) fun x=>xG x some
def π:ZP 92 Ţ:=zt (lR _) (Á uj Å) rfl Å fun x=>tB x some
def Z2:ZP 201 P6:=zt (yU _) (Á π Å) rfl (Á NZ (Á NY Å)) fun x=>UV x some
def Ml:ZP 136 CD:=zt (vm _) (Á Z2 Å) rfl (Á K6 (Á K7 Å)) fun x=>Rk x some
def zr:ZP 141 sL:=zt (Hd _) Å rfl Å fun x=>NV x some
def kv:ZP 212 jc:=zt (Hc _) Å rfl Å fun x=>NG x some
def EL:ZP 205 wY:=zt (Ld _) (Á kv Å) rfl Å fun x=>Rr x some
def Z0:ZP 291 P4:=zt (O6 _) Å rfl Å fun x=>Uy x some
def aey:ZP 292 WO:=zt (KR _) Å rfl (Á Q7 Å) fun x=>Xq x some
def EK:ZP 253 CA:=zt (KU _) (Á Z0 (Á aey Å)) rfl Å fun x=>Rb x some
def Yk:ZP 203 Ju:=zt (DY _) (Á zr (Á EL (Á kv (Á EK Å)))) rfl Å fun x=>Lc x some
def Mm:ZP 142 wZ:=zt (mz _) (Á Yk Å) rfl (Á ye Å) fun x=>BV x some
def Cb:ZP 143 uD:=zt (vh _) Å rfl (Á FS Å) fun x=>K3 x some
def sw:ZP 206 mK:=zt (wp _) Å rfl Å fun x=>DF x some
def Yj:ZP 204 WQ:=zt (DG _) (Á EL (Á sw Å)) rfl Å fun x=>K5 x some
def Su:ZP 208 P7:=zt (lf _) (Á zr (Á sw (Á kv Å))) rfl (Á BT (Á BS Å)) fun x=>F5 x some
def I1:ZP 148 CE:=zt (yT _) (Á π Å) rfl (Á NQ (Á NP Å)) fun x=>UR x some
def PJ:ZP 172 Fh:=zt (yd _) (Á kv Å) rfl (Á Im Å) fun x=>NS x some
def Z3:ZP 259 P8:=zt (F6 _) (Á kv Å) rfl (Á N0 Å) fun x=>UX x some
def Iu:ZP 209 HB:=zt (Ŝ _) (Á lD (Á zr (Á I1 (Á PJ (Á EL (Á sw (Á kv (Á Z3 Å)))))))) rfl (Á wE (Á wC (Á wD (Á wB Å)))) fun x=>zP x some
end Go.Proofs.ZzM
end

noncomputable section
namespace Go.Proofs
open Go.RowKit
attribute [local go_sem] Oper.semAt_some
def upE (f:Nat→Int) (k:Nat):List Int:=(List.range k).map f
def qp (f:Nat→Int) (k:Nat):upE f (k+1)=upE f k++[f k]:=by simp[upE,fH]
def yH (f:Nat→Int) (k:Nat):(upE f k).length=k:=by simp[upE]
def Iw (f:Nat→Int) {j k:Nat} (h:j≤k):upE f j <+: upE f k:=by
 have:k=j+(k-j):=by omega
 rw[this,upE,upE,List.range_add,eT];exact dH _ _
set_option maxRecDepth 100000 in
set_option maxHeartbeats 1000000 in
def afz (te:TypeId) (n:Nat) (hn:1≤n) (l n₀ bb tb sb:Nat) (flo fhi ga mv:Value) (hbb:bb<n₀) (htb:tb<n₀) (hsb:sb<n₀)
 (ub uo ul uc kb ko kl kc:Nat) (ubase kbase lbase cbase:Option Addr) (ll lc cl cc:Nat) (hub:0<ul→ubase=some ⟨ub,uo,none⟩∧ub<n₀) (hkb:0<kl→kbase=some ⟨kb,ko,none⟩∧kb<n₀)
 (U K:Nat→Int×Int) (eU eL eC eK:Nat→Int)
 (hul:ul≤1000) (hll:ll≤1000) (hcl:cl≤1000) (hkl:kl≤1000)
 (W:World) (hb0:W.heap[bb]?=some (.cells #[flo,fhi,ga,.slice ubase ul uc,.slice lbase ll lc,.slice cbase cl cc,.slice kbase kl kc] te (0,0)))
 (ht:W.cell? ⟨tb,0,none⟩=some (.func (.func 204) #[] #[.pointer (some ⟨sb,0,none⟩)])) (hs:W.cell? ⟨sb,0,none⟩=some mv)
 (hU:∀j,j<ul→W.cell? ⟨ub,uo+j*2,none⟩=some (.int .i64 (U j).1)∧W.cell? ⟨ub,uo+j*2+1,none⟩=some (.int .i64 (U j).2))
 (hK:∀j,j<kl→W.cell? ⟨kb,ko+j*2,none⟩=some (.int .i64 (K j).1)∧W.cell? ⟨kb,ko+j*2+1,none⟩=some (.int .i64 (K j).2))
 (cU:∀j,j<ul→∀W',Below n₀ W W'→CallsIn Fence.wide (n-1) Tryz.prog 204 #[.int .i64 (U j).1,.int .i64 (U j).2,.pointer (some ⟨sb,0,none⟩)] W' fun e W''=>e=.returned (.int .i64 (eU j))∧W'.grownBy W'' none)
 (cK:∀j,j<kl→∀W',Below n₀ W W'→CallsIn Fence.wide (n-1) Tryz.prog 204 #[.int .i64 (K j).1,.int .i64 (K j).2,.pointer (some ⟨sb,0,none⟩)] W' fun e W''=>e=.returned (.int .i64 (eK j))∧W'.grownBy W'' none)
 (cL:∀j,j<ll→∀W',Below n₀ W W'→CallsIn Fence.wide (n-1) Tryz.prog 208 #[.agg #[flo,fhi,ga,.slice ubase ul uc,.slice lbase ll lc,.slice cbase cl cc,.slice kbase kl kc],mv,.int .i64 j] W' fun e W''=>e=.returned (.int .i64 (eL j))∧W'.grownBy W'' none)
 (cC:∀j,j<cl→∀W',Below n₀ W W'→CallsIn Fence.wide (n-1) Tryz.prog 209 #[.agg #[flo,fhi,ga,.slice ubase ul uc,.slice lbase ll lc,.slice cbase cl cc,.slice kbase kl kc],mv,.int .i64 j] W' fun e W''=>e=.returned (.int .i64 (eC j))∧W'.grownBy W'' none)
 (J Jx:List Int→World→Prop) (hJ:∀pre W W',J pre W→W.grownBy W' none→J pre W') (hJx:∀pre W W',Jx pre W→W.grownBy W' none→Jx pre W')
 (hY:∀pre x W,J pre W→pre.length<ul+(ll+(cl+kl))→YieldAt Fence.wide (n-1) Tryz.prog l #[.int .i64 x] W fun e W' =>
  (e=.returned (.bool true)∧J (pre++[x]) W'∧Below n₀ W W')∨(e=.returned (.bool false)∧Jx (pre++[x]) W'))
 (h0 : J [] W) (hn₀ : n₀ ≤ W.heap.size) :
  CallsIn Fence.wide n Tryz.prog 207 #[.func (.yield l) #[] #[],.pointer (some ⟨bb,0,none⟩),.pointer (some ⟨tb,0,none⟩),.pointer (some ⟨sb,0,none⟩)] W fun e W'=>(∃v,e=.returned v) ∧
   ((∃xs,xs=upE eU ul++(upE eL ll++(upE eC cl++upE eK kl))∧J xs W')∨(∃pre,(pre <+: upE eU ul++(upE eL ll++(upE eC cl++upE eK kl)))∧Jx pre W')):=by
 have grown_alloc:∀(X:World) (o:Obj),X.grownBy (X.alloc o) none:=fun X o=>World.grownBy_alloc X o none
 have bel:∀{X Y:World},Below n₀ W X→X.grownBy Y none→Below n₀ W Y:=fun {X Y} h g =>
  ⟨g.os.trans h.os,g.tape.trans h.tape,g.output.trans h.output,cR h.size g.size,fun k hk=>(g.block k (cS (cS hk hn₀) h.size) (by simp)).trans (h.block k hk)⟩
 have hc:∀{X:World},Below n₀ W X→X.heap[bb]?=some (.cells #[flo,fhi,ga,.slice ubase ul uc,.slice lbase ll lc,.slice cbase cl cc,.slice kbase kl kc] te (0,0)):=fun h=>(h.block bb hbb).trans hb0;refine callsIn_of_wp Tryz.func207 rfl trivial ?_ rfl;simp only[Tryz.ntmps207,eF,cN,dN,Nat.reduceAdd,Nat.reduceSub,Array.replicate_succ,Array.replicate_zero,List.push_toArray,gq,dL,eZ]
 have hb3:W.cell? ⟨bb,3,none⟩=some (.slice ubase ul uc):=by simp[World.cell?,hb0]
 gi_wp2
 gi_loopw [14] (fun i wr=>∃k:Nat,k≤ul∧i=.int .i64 k∧J (upE eU k) wr∧Below n₀ W wr)
  (fun i _=>ul-(intOf i).toNat)
 case atStart=>exact⟨0,dB _,rfl,h0,Below.refl _ _⟩
 case round =>
  obtain⟨k,hk,rfl,hJs,hnx⟩:=hrel
  by_cases hlt:k<ul
  ·obtain⟨rfl,hlu⟩:=hub (by omega);have hu1:=(hnx.cell (p:=⟨ub,uo+k*2,none⟩) hlu).trans (hU k hlt).1;have hu2:=(hnx.cell (p:=⟨ub,uo+k*2+1,none⟩) hlu).trans (hU k hlt).2;have ht':=(hnx.cell (p:=⟨tb,0,none⟩) htb).trans ht;have hta:∀o,(wr.alloc o).cell? ⟨tb,0,none⟩=some (.func (.func 204) #[] #[.pointer (some ⟨sb,0,none⟩)]):=fun o=>Lib.cell?_alloc_some _ ht'
   gi_wp2
   refine⟨trivial,(cU k hlt _ (bel hnx (grown_alloc _ _))).mono ?_⟩;rintro e W2 ⟨rfl,hg2⟩;obtain⟨fn,tmps,assign,body,hy,hR⟩:=hY _ (eU k) W2 (hJ _ _ _ (hJ _ _ _ hJs (grown_alloc _ _)) hg2) (by rw[yH]; omega);have hb2:=bel (bel hnx (grown_alloc _ _)) hg2
   gi_wp2
   refine hR.mono ?_;rintro e W3 (⟨rfl,hJ3,hk3⟩|⟨rfl,hJx3⟩)
   ·gi_wp2
    go_roundw
    case rel=>exact⟨k+1,by omega,by simp,by rw[qp]; exact hJ3,hb2.trans hk3⟩
    case measure=>simp[intOf]; omega
   ·gi_wp2
    refine bodyPost_ret (results_none rfl _ _ _) rfl ?_;refine⟨⟨_,rfl⟩,.inr ⟨_,?_,hJx3⟩⟩;rw[←qp];exact(Iw eU (by omega)).trans (dH _ _)
  ·obtain rfl:ul=k:=by omega
   have hb4:wr.cell? ⟨bb,4,none⟩=some (.slice lbase ll lc):=by simp[World.cell?,hc hnx]
   gi_wp2
   gi_loopw [31] (fun i wr=>∃k:Nat,k≤ll∧i=.int .i64 k∧J (upE eU ul++upE eL k) wr∧Below n₀ W wr)
    (fun i _=>ll-(intOf i).toNat)
   case atStart=>exact⟨0,dB _,rfl,by simpa[upE] using hJs,hnx⟩
   case round =>
    clear hJs hnx;obtain⟨k,hk,rfl,hJs,hnx⟩:=hrel
    by_cases hlt:k<ll
    ·have q0:wr.cell? ⟨bb,0,none⟩=some flo:=by simp[World.cell?,hc hnx]
     have q1:wr.cell? ⟨bb,1,none⟩=some fhi:=by simp[World.cell?,hc hnx]
     have q2:wr.cell? ⟨bb,2,none⟩=some ga:=by simp[World.cell?,hc hnx]
     have q3:wr.cell? ⟨bb,3,none⟩=some (.slice ubase ul uc):=by simp[World.cell?,hc hnx]
     have q4:wr.cell? ⟨bb,4,none⟩=some (.slice lbase ll lc):=by simp[World.cell?,hc hnx]
     have q5:wr.cell? ⟨bb,5,none⟩=some (.slice cbase cl cc):=by simp[World.cell?,hc hnx]
     have q6:wr.cell? ⟨bb,6,none⟩=some (.slice kbase kl kc):=by simp[World.cell?,hc hnx]
     have hs':=(hnx.cell (p:=⟨sb,0,none⟩) hsb).trans hs
     gi_wp2
     refine⟨trivial,(cL k hlt _ hnx).mono ?_⟩;rintro e W2 ⟨rfl,hg2⟩;obtain⟨fn,tmps,assign,body,hy,hR⟩:=hY _ (eL k) W2 (hJ _ _ _ hJs hg2) (by simp only[cD,yH]; omega);have hb2:=bel hnx hg2
     gi_wp2
     refine hR.mono ?_;rintro e W3 (⟨rfl,hJ3,hk3⟩|⟨rfl,hJx3⟩)
     ·gi_wp2
      go_roundw
      case rel=>exact⟨k+1,by omega,by simp,by rw[qp,←cJ]; exact hJ3,hb2.trans hk3⟩
      case measure=>simp[intOf]; omega
     ·gi_wp2
      refine bodyPost_ret (results_none rfl _ _ _) rfl ?_;refine⟨⟨_,rfl⟩,.inr ⟨_,?_,hJx3⟩⟩;rw[cJ,←qp];exact(eA _).2 ((Iw eL (by omega)).trans (dH _ _))
    ·obtain rfl:ll=k:=by omega
     have hb5:wr.cell? ⟨bb,5,none⟩=some (.slice cbase cl cc):=by simp[World.cell?,hc hnx]
     gi_wp2
     gi_loopw [45] (fun i wr=>∃k:Nat,k≤cl∧i=.int .i64 k∧J (upE eU ul++upE eL ll++upE eC k) wr∧Below n₀ W wr)
      (fun i _=>cl-(intOf i).toNat)
     case atStart=>exact⟨0,dB _,rfl,by simpa[upE] using hJs,hnx⟩
     case round =>
      clear hJs hnx;obtain⟨k,hk,rfl,hJs,hnx⟩:=hrel
      by_cases hlt:k<cl
      ·have q0:wr.cell? ⟨bb,0,none⟩=some flo:=by simp[World.cell?,hc hnx]
       have q1:wr.cell? ⟨bb,1,none⟩=some fhi:=by simp[World.cell?,hc hnx]
       have q2:wr.cell? ⟨bb,2,none⟩=some ga:=by simp[World.cell?,hc hnx]
       have q3:wr.cell? ⟨bb,3,none⟩=some (.slice ubase ul uc):=by simp[World.cell?,hc hnx]
       have q4:wr.cell? ⟨bb,4,none⟩=some (.slice lbase ll lc):=by simp[World.cell?,hc hnx]
       have q5:wr.cell? ⟨bb,5,none⟩=some (.slice cbase cl cc):=by simp[World.cell?,hc hnx]
       have q6:wr.cell? ⟨bb,6,none⟩=some (.slice kbase kl kc):=by simp[World.cell?,hc hnx]
       have hs':=(hnx.cell (p:=⟨sb,0,none⟩) hsb).trans hs
       gi_wp2
       refine⟨trivial,(cC k hlt _ hnx).mono ?_⟩;rintro e W2 ⟨rfl,hg2⟩;obtain⟨fn,tmps,assign,body,hy,hR⟩:=hY _ (eC k) W2 (hJ _ _ _ hJs hg2) (by simp only[cD,yH]; omega);have hb2:=bel hnx hg2
       gi_wp2
       refine hR.mono ?_;rintro e W3 (⟨rfl,hJ3,hk3⟩|⟨rfl,hJx3⟩)
       ·gi_wp2
        go_roundw
        case rel=>exact⟨k+1,by omega,by simp,by rw[qp,←cJ]; exact hJ3,hb2.trans hk3⟩
        case measure=>simp[intOf]; omega
       ·gi_wp2
        refine bodyPost_ret (results_none rfl _ _ _) rfl ?_;refine⟨⟨_,rfl⟩,.inr ⟨_,?_,hJx3⟩⟩;rw[cJ,←qp]
        exact by rw[cJ]; exact(eA _).2 ((eA _).2 ((Iw eC (by omega)).trans (dH _ _)))
      ·obtain rfl:cl=k:=by omega
       have hb6:wr.cell? ⟨bb,6,none⟩=some (.slice kbase kl kc):=by simp[World.cell?,hc hnx]
       gi_wp2
       gi_loopw [59] (fun i wr=>∃k:Nat,k≤kl∧i=.int .i64 k∧J ((upE eU ul++upE eL ll++upE eC cl)++upE eK k) wr∧Below n₀ W wr)
        (fun i _=>kl-(intOf i).toNat)
       case atStart=>exact⟨0,dB _,rfl,by simpa[upE] using hJs,hnx⟩
       case round =>
        clear hJs hnx;obtain⟨k,hk,rfl,hJs,hnx⟩:=hrel
        by_cases hlt:k<kl
        ·obtain⟨rfl,hlk⟩:=hkb (by omega);have hu1:=(hnx.cell (p:=⟨kb,ko+k*2,none⟩) hlk).trans (hK k hlt).1;have hu2:=(hnx.cell (p:=⟨kb,ko+k*2+1,none⟩) hlk).trans (hK k hlt).2;have ht':=(hnx.cell (p:=⟨tb,0,none⟩) htb).trans ht;have hta:∀o,(wr.alloc o).cell? ⟨tb,0,none⟩=some (.func (.func 204) #[] #[.pointer (some ⟨sb,0,none⟩)]):=fun o=>Lib.cell?_alloc_some _ ht'
         gi_wp2
         refine⟨trivial,(cK k hlt _ (bel hnx (grown_alloc _ _))).mono ?_⟩;rintro e W2 ⟨rfl,hg2⟩;obtain⟨fn,tmps,assign,body,hy,hR⟩:=hY _ (eK k) W2 (hJ _ _ _ (hJ _ _ _ hJs (grown_alloc _ _)) hg2) (by simp only[cD,yH]; omega);have hb2:=bel (bel hnx (grown_alloc _ _)) hg2
         gi_wp2
         refine hR.mono ?_;rintro e W3 (⟨rfl,hJ3,hk3⟩|⟨rfl,hJx3⟩)
         ·gi_wp2
          go_roundw
          case rel=>exact⟨k+1,by omega,by simp,by rw[qp,←cJ]; exact hJ3,hb2.trans hk3⟩
          case measure=>simp[intOf]; omega
         ·gi_wp2
          refine bodyPost_ret (results_none rfl _ _ _) rfl ?_;refine⟨⟨_,rfl⟩,.inr ⟨_,?_,hJx3⟩⟩;rw[cJ,←qp,cJ,cJ];exact(eA _).2 ((eA _).2 ((eA _).2 (Iw eK (by omega))))
        ·obtain rfl:kl=k:=by omega
         gi_wp2
         go_end0
         exact⟨⟨_,rfl⟩,.inl ⟨_,rfl,by simpa[cJ] using hJs⟩⟩
end Go.Proofs
end

noncomputable section
set_option maxRecDepth 100000
namespace Go.Proofs.ZzM
open Go Go.Am Go.RowKit
def YV (p:String):Code:=.region 10 #[{dst:=some 5,op:=.assign (.tmp 49),type:=38,pos:=p,after:=#[],guard:=none}] false
def agQ (q r:String):Code:=.block 1 (.seq (.region 11 #[{dst:=some 50,op:=.move (.tmp 5),type:=38,pos:=q,after:=#[],guard:=none},{dst:=some 51,op:=.binOp .neq 38 (.tmp 50) (.const (.int .i64 0)) 38,type:=4,pos:=q,after:=#[{on:=0,ground:=.data}],guard:=none}] false)
 (.cond (.tmp 51) (.seq (.region 12 #[{dst:=some 52,op:=.move (.tmp 5),type:=38,pos:=r,after:=#[],guard:=none},{dst:=none,op:=.store 38 (.tmp 2) (.tmp 52),type:=0,pos:=r,after:=#[{on:=0,ground:=.data},{on:=0,ground:=.phase}],guard:=none}] false) .ret) .skip))
section
variable {P:Program} {F:Fence} {n:Nat}
def CF {ops:Array Oper} {i d:Nat} {o:Oper} {u:Value} {w w':World} {a:Act} {next:Act→World→Prop} {Q:Exit→Act→World→Prop} (hF:∀f,F.fn f) (ho:ops[i]?=some o) (hg:o.guard=none) (hd:o.dst=some d) (hdf:∀c,o.op≠.defer c)
 (hrun:(execOp a.eval o).run P w=.ok (.value u) w') (k:next (a.put (some d) u) w'):wpOpIn F n P ops Q i next a w:=by
 unfold wpOpIn;rw[ho]
 have hw:Region.wanted o (yielded ops a.tmps)=true:=by simp[Region.wanted,hg]
 simp only[hw,if_true];refine⟨fun _ _=>hF _,?_⟩;rw[Oper.semAt_eq _ _ _ hdf,hrun];rw[←hd] at k;exact k
def aaH {ops:Array Oper} {i:Nat} {o:Oper} {w w':World} {a:Act} {next:Act→World→Prop} {Q:Exit→Act→World→Prop} (hF:∀f,F.fn f) (ho:ops[i]?=some o) (hg:o.guard=none) (hd:o.dst=none) (hdf:∀c,o.op≠.defer c)
 (hrun:(execOp a.eval o).run P w=.ok .skip w') (k:next a w'):wpOpIn F n P ops Q i next a w:=by
 unfold wpOpIn;rw[ho]
 have hw:Region.wanted o (yielded ops a.tmps)=true:=by simp[Region.wanted,hg]
 simp only[hw,if_true];refine⟨fun _ _=>hF _,?_⟩;rw[Oper.semAt_eq _ _ _ hdf,hrun];show next (a.put o.dst undef) w';rw[hd];exact k
end
def jh (T:Array Value) (i j:Nat) (v:Value):(T.setIfInBounds i v).getD j undef=if i=j∧i<T.size then v else T.getD j undef:=by
 simp only[dM,fC]
 by_cases h:i=j
 ·subst h
  by_cases h2:i<T.size
  ·simp[h2]
  ·simp[h2]
 ·simp[h]
def mark (D:Nat):Deferred:={target:=.collected D,args:=#[]}
structure Put1 (n₀ rb:Nat) (x:Int) (w W:World):Prop where
 os:W.os=w.os
 tape:W.tape=w.tape
 output:W.output=w.output
 size:w.heap.size≤W.heap.size
 block:∀k,k<n₀→k≠rb→W.heap[k]?=w.heap[k]?
 cell:∃e,W.heap[rb]?=some (.cells #[.int .i64 x] e (0,0))
set_option maxHeartbeats 4000000 in
def ahC {a:Act} {w:World} {Q:Exit→Act→World→Prop} {lb:Array Value} {L:List Int} {rb:Nat} {e0:TypeId} {v0:Value} {p q r:String}
 (hseq:SeqStopsK Fence.wide 1 Tryz.prog 207 lb (fun x:Int=>#[.int .i64 x]) (Below w.heap.size) (fun xs=>xs=L) (fun pre=>pre <+: L) L.length w)
 (hg:a.tmps.getD 48 undef=.func (.func 207) #[] lb) (h2:a.tmps.getD 2 undef=.pointer (some ⟨rb,0,none⟩)) (hsz:78≤a.tmps.size)
 (hrb:w.heap[rb]?=some (.cells #[v0] e0 (0,0)))
 (hdone:∀D W,(∀x∈L,x=0)→Below w.heap.size w W→w.heap.size≤D→W.heap[D]?=some (.deferred (some []))→Q .normal {a with defers:=mark D::a.defers} W)
 (hstop:∀D W x,L.find? (fun e=>e != 0)=some x→Put1 w.heap.size rb x w W→w.heap.size≤D→W.heap[D]?=some (.deferred (some []))→Q .ret {a with defers:=mark D::a.defers} W) :
 (Code.rangeFunc (.tmp 48) #[49] (YV p) (agQ q r)).wpIn Fence.wide 2 Tryz.prog Q a w:=by
 have hT:∀f,Fence.wide.fn f:=fun _=>trivial;have hrl:=Ċ hrb
 refine wpIn_rangeFunc_ownF (α:=Int) (encs:=fun x=>#[.int .i64 x]) (Kp:=Below w.heap.size) (S:=fun xs=>xs=L) (Sp:=fun pre=>pre <+: L) (N:=L.length) (w0:=w) rfl (by omega) hg trivial (fun args w=>?eg) hseq
  (fun h k=>h.trans k) (fun W l o o' hl ho hc hw=>belowK_b (cz _) W l o o' hl ho hc hw) (Below.refl _ _) (fun _=>rfl)
  (fun pre W=>(∀x∈pre,x=0)∧Below w.heap.size w W)
  (fun c pre W=>c=.ret∧∃pre' x,pre=pre'++[x]∧(∀x∈pre',x=0)∧x≠0∧Put1 w.heap.size rb x w W)
  ?hI ?hIx ⟨by simp,Below.refl _ _⟩ (fun x=>{tmps:=(a.tmps.setIfInBounds 49 (.int .i64 x)).setIfInBounds 5 (.int .i64 x),defers:=[]}) ?hassign ?hbody ?hdone ?hstop
 case eg=>simp[callFunc,Sem.run_bind,run_program,Result.andThen_ok,Tryz.func207,plain 207 _ Tryz.func207,show Tryz.f207.body.isNone=false from rfl]; rfl
 case hI =>
  intro s W W' row ⟨h1,h2⟩ hgr hr;exact⟨h1,hgr.os.trans h2.os,hgr.tape.trans h2.tape,hgr.output.trans h2.output,cR h2.size hgr.size,fun k hk=>(hgr.block k (cS hk h2.size) (fun e=>by have:=(hr k e.symm).1; omega)).trans (h2.block k hk)⟩
 case hIx =>
  intro c s W W' row ⟨h1,pre',x,h3,h4,h5,h6⟩ hgr hr;have hb:∀k,k<w.heap.size→W'.heap[k]?=W.heap[k]?:=fun k hk=>hgr.block k (cS hk h6.size) (fun e=>by have:=(hr k e.symm).1; omega)
  exact⟨h1,pre',x,h3,h4,h5,hgr.os.trans h6.os,hgr.tape.trans h6.tape,hgr.output.trans h6.output,cR h6.size hgr.size,fun k hk hne=>(hb k hk).trans (h6.block k hk hne),by
   obtain⟨e,he⟩:=h6.cell
   exact⟨e,(hb rb hrl).trans he⟩⟩
 case hassign =>
  intro l x W K hK
  have hf:((#[49]:Array Tmp).zip #[Value.int .i64 x]).foldl (fun t (p,v)=>t.setIfInBounds p v) a.tmps=a.tmps.setIfInBounds 49 (.int .i64 x):=by simp
  rw[hf];refine wpIn_region ?_;rw[show ∀o:Oper,List.range (#[o]:Array Oper).size=[0] from fun _=>rfl,wpOpsIn_cons];refine CF (d:=5) (u:=.int .i64 x) (w':=W) hT rfl rfl rfl (by simp) ?_ hK;show Result.ok (Next.value ((a.tmps.setIfInBounds 49 (.int .i64 x)).getD 49 undef)) W=_;rw[jh,if_pos ⟨rfl,by omega⟩]
 case hbody =>
  intro l pre x W ⟨h1,hbel⟩ hpre;refine wpIn_block (wpIn_seq (wpIn_region ?_));rw[show ∀o p:Oper,List.range (#[o,p]:Array Oper).size=[0,1] from fun _ _=>rfl,wpOpsIn_cons]
  refine CF (d:=50) (u:=.int .i64 x) (w':=W) hT rfl rfl rfl (by simp) (by
   show Result.ok (Next.value (((a.tmps.setIfInBounds 49 (.int .i64 x)).setIfInBounds 5 (.int .i64 x)).getD 5 undef)) W=_
   rw[jh,if_pos ⟨rfl,by simp; omega⟩]) ?_
  rw[wpOpsIn_cons]
  refine CF (d:=51) (u:=.bool (x != 0)) (w':=W) hT rfl rfl rfl (by simp) (by
   show((do let u ←(do eqGuard .neq 38 (.tmp 50) (.const (.int .i64 0)) ((((a.tmps.setIfInBounds 49 (.int .i64 x)).setIfInBounds 5 (.int .i64 x)).setIfInBounds 50 (.int .i64 x)).getD 50 undef) (.int .i64 0); binOp .neq 38 ((((a.tmps.setIfInBounds 49 (.int .i64 x)).setIfInBounds 5 (.int .i64 x)).setIfInBounds 50 (.int .i64 x)).getD 50 undef) (.int .i64 0)); pure (.value u)):Sem Next).run Tryz.prog W=_;rw[jh,if_pos ⟨rfl,by simp; omega⟩]
   simp[eqGuard,binOp,Op.intCmp]) ?_
  show Code.wpIn (Fence.wide.inRound l) (2-1-1) Tryz.prog (Code.cond (.tmp 51) _ .skip) _ {tmps:=((((a.tmps.setIfInBounds 49 (.int .i64 x)).setIfInBounds 5 (.int .i64 x)).setIfInBounds 50 (.int .i64 x)).setIfInBounds 51 (.bool (x != 0))),defers:=[]} W;obtain⟨T,hTd⟩:∃T,T=((((a.tmps.setIfInBounds 49 (.int .i64 x)).setIfInBounds 5 (.int .i64 x)).setIfInBounds 50 (.int .i64 x)).setIfInBounds 51 (.bool (x != 0))):=⟨_,rfl⟩;rw[←hTd]
  have t51:T.getD 51 undef=.bool (x != 0):=by rw[hTd,jh,if_pos ⟨rfl,by simp; omega⟩]
  have t5:T.getD 5 undef=.int .i64 x:=by rw[hTd,jh,if_neg (by simp),jh,if_neg (by simp),jh,if_pos ⟨rfl,by simp; omega⟩]
  have t2:T.getD 2 undef=.pointer (some ⟨rb,0,none⟩):=by rw[hTd,jh,if_neg (by simp),jh,if_neg (by simp),jh,if_neg (by simp),jh,if_neg (by simp),h2]
  have tsz:78≤T.size:=by rw[hTd]; simpa using hsz
  clear hTd
  by_cases hx:x=0
  ·have e51:Act.eval {tmps:=T,defers:=[]} (.tmp 51)=.bool false:=t51.trans (by simp[hx]);refine wpIn_cond_false e51 (wpIn_skip ?_);simp only[Exit.inBlock,ownPostK];exact⟨KeepsOthers.refl _,Below.refl _ _,fun y hy=>(cE.1 hy).elim (h1 y) (fun h=>by rw[cH] at h; rw[h,hx]),hbel⟩
  ·have e51:Act.eval {tmps:=T,defers:=[]} (.tmp 51)=.bool true:=t51.trans (by simp[hx]);refine wpIn_cond_true e51 (wpIn_seq (wpIn_region ?_));rw[show ∀o p:Oper,List.range (#[o,p]:Array Oper).size=[0,1] from fun _ _=>rfl,wpOpsIn_cons]
   have e5:(execOp (Act.eval {tmps:=T,defers:=[]}) {dst:=some 52,op:=.move (.tmp 5),type:=38,pos:=r,after:=#[],guard:=none}).run Tryz.prog W=.ok (.value (.int .i64 x)) W:=by
    show Result.ok (Next.value (T.getD 5 undef)) W=_;rw[t5]
   refine CF (d:=52) (u:=.int .i64 x) (w':=W) hT rfl rfl rfl (by simp) e5 ?_;rw[wpOpsIn_cons];have hW:W.heap[rb]?=some (.cells #[v0] e0 (0,0)):=(hbel.block rb hrl).trans hrb
   letI:Ghost:=(Gk (fun _=>False) [] (none))
   have hst:=qr (P:=Tryz.prog) (w:=W) (t:=38) (u:=.int .i64 x) (n:=1) (b:=rb) (o:=0) (by kernel_rfl) rfl hW (by simp) (by simp[Value.cells,Value.oneCell'])
   have hst':(storeVar 38 ⟨rb,0,none⟩ (.int .i64 x)).run Tryz.prog W=.ok () (W.setRow rb #[.int .i64 x]):=by simpa[Value.cells] using hst
   have t52:(T.setIfInBounds 52 (.int .i64 x)).getD 52 undef=.int .i64 x:=by rw[jh,if_pos ⟨rfl,by omega⟩]
   have t2':(T.setIfInBounds 52 (.int .i64 x)).getD 2 undef=.pointer (some ⟨rb,0,none⟩):=by rw[jh,if_neg (by simp),t2]
   have e6:(execOp (Act.eval {tmps:=T.setIfInBounds 52 (.int .i64 x),defers:=[]}) {dst:=none,op:=.store 38 (.tmp 2) (.tmp 52),type:=0,pos:=r,after:=#[{on:=0,ground:=.data},{on:=0,ground:=.phase}],guard:=none}).run Tryz.prog W=.ok .skip (W.setRow rb #[.int .i64 x]):=by
    show((do Instr.storeAt 38 ((T.setIfInBounds 52 (.int .i64 x)).getD 2 undef) ((T.setIfInBounds 52 (.int .i64 x)).getD 52 undef); pure .skip):Sem Next).run Tryz.prog W=_;rw[t52,t2'];simp[Instr.storeAt,Instr.sureAddr,hst']
   refine aaH (w':=W.setRow rb #[.int .i64 x]) hT rfl rfl rfl (by simp) e6 ?_;refine wpIn_ret ?_;simp only[Exit.inBlock,ownPostK];refine⟨⟨by simp,fun k o hk ho=>?_⟩,trivial,pre,x,rfl,h1,hx,hbel.os,hbel.tape,hbel.output,by simpa using hbel.size,fun k hk hne=>(setRow_other _ _ _ _ hne).trans (hbel.block k hk),⟨_,setRow_heap _ _ _ _ _ _ hW⟩⟩
   by_cases hk2:k=rb
   ·subst hk2; rw[hW] at hk; cases hk; simp[Obj.isCells] at ho
   ·rw[setRow_other _ _ _ _ hk2]; exact hk
 case hdone =>
  intro D xs W hD hS ⟨h1,hbel⟩ hDo;subst hS;exact hdone D W h1 hbel hD hDo
 case hstop =>
  intro D c pre W hD hS ⟨hc,pre',x,h3,h4,h5,h6⟩ hDo;subst hc;refine wpIn_ret (hstop D W x ?_ h6 hD hDo);obtain⟨t,rfl⟩:=hS;rw[h3,cJ,List.find?_append]
  have:List.find? (fun e=>e != 0) pre'=none:=dU.2 fun y hy=>by simp[h4 y hy]
  rw[this];simp[h5]
end Go.Proofs.ZzM
end

noncomputable section
set_option maxRecDepth 100000
namespace Go.Proofs.ZzM
open Go Go.Am Go.RowKit
def fstC:Code→Code
 |.seq a _=>a
 |c=>c
def sndC:Code→Code
 |.seq _ b=>b
 |c=>c
def acS:Nat→Code→Code
 |0,c=>fstC c
 |n+1,c=>acS n (sndC c)
def aga:Nat→Code→Code
 |0,c=>c
 |n+1,c=>aga n (sndC c)
def ckB:Code:=Tryz.f72.body.getD .skip
def ckA5:Code:=fstC (aga 5 ckB |> fstC)
def ckRF:Code:=sndC (aga 5 ckB |> fstC)
def PE:Code:=sndC (aga 5 ckB)
def ckPre:Code:=.seq (acS 0 ckB) (.seq (acS 1 ckB) (.seq (acS 2 ckB) (.seq (acS 3 ckB) (.seq (acS 4 ckB) ckA5))))
def aha:Tryz.f72.body=some (.seq (acS 0 ckB) (.seq (acS 1 ckB) (.seq (acS 2 ckB) (.seq (acS 3 ckB) (.seq (acS 4 ckB) (.seq (.seq ckA5 ckRF) PE)))))):=by kernel_rfl
def ck_pt:List (Nat×à):=[(136,CD),(143,uD),(141,sL),(142,wZ)]
def ckE (ρ:Type):Env ρ:=å ck_pt []
abbrev ckR:Type:=Int ⊕ (List AV×List Blk)
def aeh (S:St):Option Int:=match sH Tryz.prog Tryz.f72 S with
 |some v=>ahE [tI] S.h v
 |none=>none
def ckK (e:Exit) (S:St):Option ckR:=match e with
 |.ret=>match aeh S with
  |some n=>some (.inl n)
  |none=>none
 |.normal=>match decide (78≤S.t.length) with
  |true=>some (.inr ([lk S.t 1,lk S.t 2,lk S.t 48],S.h))
  |false=>none
 |_=>none
def ckH (x:Val Ê) (s:Val (.map tI Õ)) (n:Int):List Blk :=
 [.cells (flat Ê x),.cells [.int .i64 n],.cells (flat Ê x),.cells [.mp tI Õ s],.cells [.fn (.func 204) [] [.box 3 0]]]
def ckM (x:Val Ê):Option ckR :=
 Ä (Ι x.1 (0:Int) (1000000:Int)) fun r1=>ifb (!r1) (some (.inl 1)) (ifb (igt (Ú x.2.1) (12:Int)) (some (.inl 2)) (ifb (igt (Ú x.2.2.1) (40:Int)) (some (.inl 2)) (ifb (igt (Ú x.2.2.2.1) (12:Int)) (some (.inl 2)) (ifb (igt (Ú x.2.2.2.2.1) (40:Int)) (some (.inl 2)) (ifb (igt (Ú x.2.2.2.2.2) (10:Int)) (some (.inl 2))
  (Ä (Ż x) fun r2=>ifb (ine r2 (0:Int)) (some (.inl r2)) (Ä (ļ x) fun r3=>some (.inr ([.box 0 0,.box 1 0,.fn (.func 207) [] [.box 2 0,.box 4 0,.box 3 0]],ckH x r3 0)))))))))
def ck_pre (x:Val Ê):goC (ckE ckR) (Ű (ckE ckR) 10) 72 [] 0 0 ckPre {t:=X4 [Ê] x++List.replicate 77 .any,h:=[]} ckK=ckM x:=by kernel_rfl
def agk (ρ:Type):Env ρ:={ckE ρ with inl:=fun _=>false}
def ckS (x:Val Ê):Option Int :=
 Ä (pX x) fun r5=>ifb (igt (Ú r5) (59:Int)) (some (2:Int)) (ck ((2:Int)*(Ú x.2.1)) fun n6=>ck ((Ú r5)-(Ú x.2.1)) fun n7=>ck ((2:Int)*n7) fun n8=>ck (n6+n8) fun n9=>ck ((2:Int)*(Ú x.2.2.2.2.1)) fun n10=>ck (n9+n10) fun n11=>ifb (igt n11 (300:Int)) (some (2:Int)) (some (0:Int)))
def ckK2 (e:Exit) (S:St):Option Int:=match e with
 |.ret=>match lk S.t 2 with
  |.box 1 0=>match lkB S.h 1 with
   |.cells [.int .i64 n]=>some n
   |_=>none
  |_=>none
 |_=>none
def ck_suf (x:Val Ê) (s:Val (.map tI Õ)):goC (agk Int) (Ű (agk Int) 10) 72 [] 0 0 PE {t:=[.any,.box 0 0,.box 1 0]++List.replicate 75 .any,h:=ckH x s 0} ckK2=ckS x:=by kernel_rfl
def agj (x:Val Ê):ż x=match ckM x with
 |none=>none
 |some (.inl n)=>some n
 |some (.inr _)=>Ä (ļ x) fun s=>Tn (nO x s) some (ckS x):=by
 unfold ż Lm ckM ckS
 cases Ι x.1 (0:Int) (1000000:Int) with
 |none=>rfl
 |some r1 =>
 cases r1 with
 |false=>rfl
 |true =>
 simp only[Ä,ifb,dw]
 cases igt (Ú x.2.1) (12:Int) with
 |true=>rfl
 |false =>
 cases igt (Ú x.2.2.1) (40:Int) with
 |true=>rfl
 |false =>
 cases igt (Ú x.2.2.2.1) (12:Int) with
 |true=>rfl
 |false =>
 cases igt (Ú x.2.2.2.2.1) (40:Int) with
 |true=>rfl
 |false =>
 cases igt (Ú x.2.2.2.2.2) (10:Int) with
 |true=>rfl
 |false =>
 cases Ż x with
 |none=>rfl
 |some r2 =>
 simp only
 cases ine r2 (0:Int) with
 |true=>rfl
 |false =>
 cases ļ x with
 |none=>rfl
 |some r3=>rfl
def aig {x:Val Ê} {q:List AV×List Blk} (h:ckM x=some (.inr q)):((x.2.2.1:List (Val Ã)).length≤1000∧(x.2.2.2.1:List (Val iJ)).length≤1000∧(x.2.2.2.2.1:List (Val â)).length≤1000∧(x.2.2.2.2.2:List (Val Ã)).length≤1000) ∧
 ∃s,ļ x=some s∧q=([.box 0 0,.box 1 0,.fn (.func 207) [] [.box 2 0,.box 4 0,.box 3 0]],ckH x s 0):=by
 unfold ckM at h
 cases h0:Ι x.1 (0:Int) (1000000:Int) with
 |none=>rw[h0] at h; cases h
 |some r1 =>
 rw[h0] at h
 cases r1 with
 |false=>cases h
 |true =>
 simp only[Ä,ifb,dw] at h
 cases h1:igt (Ú x.2.1) (12:Int) with
 |true=>rw[h1] at h; cases h
 |false =>
 rw[h1] at h
 cases h2:igt (Ú x.2.2.1) (40:Int) with
 |true=>rw[h2] at h; cases h
 |false =>
 rw[h2] at h
 cases h3:igt (Ú x.2.2.2.1) (12:Int) with
 |true=>rw[h3] at h; cases h
 |false =>
 rw[h3] at h
 cases h4:igt (Ú x.2.2.2.2.1) (40:Int) with
 |true=>rw[h4] at h; cases h
 |false =>
 rw[h4] at h
 cases h5:igt (Ú x.2.2.2.2.2) (10:Int) with
 |true=>rw[h5] at h; cases h
 |false =>
 rw[h5] at h
 cases h6:Ż x with
 |none=>rw[h6] at h; cases h
 |some r2 =>
 rw[h6] at h;simp only at h
 cases h7:ine r2 (0:Int) with
 |true=>rw[h7] at h; cases h
 |false =>
 rw[h7] at h
 cases h8:ļ x with
 |none=>rw[h8] at h; cases h
 |some r3 =>
 rw[h8] at h
 have lt:∀{α:Type} (l:List α) (n:Nat),igt (Ú l) (n:Int)=false→l.length≤n:=by
  intro α l n h;unfold Ú at h;rw[JA] at h;simp only[igt,gt_iff_lt,decide_eq_false_iff_not] at h;omega
 simp only[Option.some.injEq,Sum.inr.injEq] at h;exact⟨⟨by have:=lt x.2.2.1 40 h2; omega,by have:=lt x.2.2.2.1 12 h3; omega,by have:=lt x.2.2.2.2.1 40 h4; omega,by have:=lt x.2.2.2.2.2 10 h5; omega⟩,r3,rfl,h.symm⟩
def CJ {α β:Type} {f:α→Option β}:∀{l:List α} {m:List β},JH f l=some m→m.length=l.length∧∀(i:Nat) (a:α),l[i]?=some a→∃b,m[i]?=some b∧f a=some b
 |[],m,h=>by cases h; exact⟨rfl,fun i a ha=>by simp at ha⟩
 |a::l,m,h=>by
  unfold JH at h
  cases ha:f a with
  |none=>rw[ha] at h; cases h
  |some b =>
   rw[ha] at h
   cases hl:JH f l with
   |none=>rw[hl] at h; cases h
   |some m' =>
    rw[hl] at h;cases h;obtain⟨h1,h2⟩:=CJ hl;refine⟨by simp[h1],fun i c hc=>?_⟩
    cases i with
    |zero=>simp at hc; subst hc; exact⟨b,by simp,ha⟩
    |succ i=>simpa using h2 i c (by simpa using hc)
def Ix (l:List Int):upE (fun j=>l[j]?.getD 0) l.length=l:=by
 unfold upE;refine List.ext_getElem (by simp) fun i h1 h2=>?_;simp at h1;simp[h1]
def CR.below {n₀:Nat} {w W:World} {av:Nat→Prop} (hb:Below n₀ w W) (hn:w.heap.size≤n₀) {t:Ty} {x:Val t} {vs:List Value} (h:CR w av t x vs):CR W av t x vs :=
 h.keep fun b hlt ha=>⟨hb.block b (cS hlt hn),ha⟩
def Ja {w:World} {av:Nat→Prop} {xs:List (Int×Int)} {v:Value} (h:CR w av (.slice Ã) xs [v]):∃base cap b off,v=.slice base xs.length cap∧(0<xs.length→base=some ⟨b,off,none⟩∧b<w.heap.size) ∧
 ∀j,j<xs.length→w.cell? ⟨b,off+j*2,none⟩=some (.int .i64 (xs[j]?.getD (0,0)).1)∧w.cell? ⟨b,off+j*2+1,none⟩=some (.int .i64 (xs[j]?.getD (0,0)).2):=by
 obtain⟨base,cap,e,hc,hx⟩:=h;cases e;rcases hx with hx|⟨b,off,hb,hav,hlt,hx⟩
 ·refine⟨base,cap,0,0,rfl,fun h=>?_,fun j hj=>?_⟩
  ·rw[show xs=[] from hx] at h; simp at h
  ·rw[show xs=[] from hx] at hj; simp at hj
 ·refine⟨base,cap,b,off,rfl,fun _=>⟨hb,hlt⟩,fun j hj=>?_⟩;obtain⟨us,h1,h2⟩:=hx j xs[j] (cw hj);obtain⟨u1,u2,e1,h3,h4⟩:=h1;have e3:u1=[.int .i64 xs[j].1]:=h3;have e4:u2=[.int .i64 xs[j].2]:=h4;subst e3 e4 e1;have s:(Ã).size=2:=rfl;rw[s] at h2;have c1:=h2 0 _ rfl;have c2:=h2 1 _ rfl;rw[cw hj];exact⟨by simpa using c1,by simpa[Nat.add_assoc] using c2⟩
end Go.Proofs.ZzM
end

noncomputable section
set_option maxRecDepth 100000
namespace Go.Proofs.ZzM
open Go Go.Am Go.RowKit
section
variable {w W W':World}
abbrev noG:Nat→Prop:=fun _=>False
def RQ (w:World) (n:Int):ky w noG tI n (.int .i64 n):=⟨[.int .i64 n],rfl,rfl⟩
def ahP {sb:Nat} {mv:Value} {e:TypeId} {s:Val (.map tI Õ)} (h:w.heap[sb]?=some (.cells #[mv] e (0,0))) (hm:CR w noG (.map tI Õ) s [mv]):ky w noG (.ptr (.map tI Õ)) s (.pointer (some ⟨sb,0,none⟩)):=by
 letI:Ghost:=(Gk (fun _=>False) [] (none))
 exact⟨[.pointer (some ⟨sb,0,none⟩)],⟨sb,0,[mv],rfl,id,Ċ h,hm,CellsAt.of_cells h⟩,rfl⟩
def ahD {y:Int} {u:Value} (h:RR w noG [tI] y u):u=.int .i64 y:=by
 obtain⟨us,h1,rfl⟩:=h;have:us=[.int .i64 y]:=h1;rw[this]; rfl
def afX (h1:∀b,b<W.heap.size→W'.heap[b]?=W.heap[b]?) (h2:W.heap.size≤W'.heap.size) (h3:W'.os=W.os) (h4:W'.tape=W.tape) (h5:W'.output=W.output):W.grownBy W' none :=
 ⟨h3,h4,h5,h2,fun b hb _=>h1 b hb⟩
def Sk {f:Nat} {p:à} (hp:jO Tryz.prog f p) (hrs:p.rs=[tI]) {x:Val (tyL p.ts)} {y:Int} (hF:p.F x=some (hrs▸(show Val (tyL [tI]) from y))) {vals:List Value} (ha:AL W noG p.ts x vals) :
 CallsIn Fence.wide 0 Tryz.prog f vals.toArray W fun e W''=>e=.returned (.int .i64 y)∧W.grownBy W'' none:=by
 obtain⟨ts,rs,F⟩:=p;dsimp only at hrs hF ha x;subst hrs;refine(hp noG x y hF W vals (fun _ h=>h.elim) ha).2.mono fun e w' ⟨u,h0,h1,h2,h3,h4,h5,h6⟩=>⟨?_,afX h2 h3 h4 h5 h6⟩;rw[h0,ahD h1]
def SP {s:Val (.map tI Õ)} {a b y:Int} (hF:Ľ a b s=some y) {sb:Nat} {mv:Value} {e:TypeId} (h:W.heap[sb]?=some (.cells #[mv] e (0,0))) (hm:CR W noG (.map tI Õ) s [mv]) :
 CallsIn Fence.wide 0 Tryz.prog 204 #[.int .i64 a,.int .i64 b,.pointer (some ⟨sb,0,none⟩)] W fun e W''=>e=.returned (.int .i64 y)∧W.grownBy W'' none :=
 Sk Yj rfl (x:=(a,b,s)) (y:=y) hF (vals:=[.int .i64 a,.int .i64 b,.pointer (some ⟨sb,0,none⟩)]) ⟨_,_,rfl,RQ _ _,_,_,rfl,RQ _ _,_,rfl,ahP h hm⟩
def ac3 {mv:Value} {s:Val (.map tI Õ)} (hm:CR W noG (.map tI Õ) s [mv]):ky W noG (.map tI Õ) s mv:=⟨[mv],hm,rfl⟩
def Z7 {x:Val Ê} {cs:Array Value} (hb:CR W noG Ê x cs.toList):ky W noG Ê x (.agg cs):=⟨cs.toList,hb,by show Value.agg cs=Value.agg cs.toList.toArray; rw[Array.toArray_toList]⟩
def ade {x:Val Ê} {s:Val (.map tI Õ)} {i y:Int} (hF:Υ x s i=some y) {mv:Value} {cs:Array Value} (hb:CR W noG Ê x cs.toList) (hm:CR W noG (.map tI Õ) s [mv]) :
 CallsIn Fence.wide 0 Tryz.prog 208 #[.agg cs,mv,.int .i64 i] W fun e W''=>e=.returned (.int .i64 y)∧W.grownBy W'' none :=
 Sk Su rfl (x:=(x,s,i)) (y:=y) hF (vals:=[.agg cs,mv,.int .i64 i]) ⟨_,_,rfl,Z7 hb,_,_,rfl,ac3 hm,_,rfl,RQ _ _⟩
def VF {x:Val Ê} {s:Val (.map tI Õ)} {i y:Int} (hF:ņ x s i=some y) {mv:Value} {cs:Array Value} (hb:CR W noG Ê x cs.toList) (hm:CR W noG (.map tI Õ) s [mv]) :
 CallsIn Fence.wide 0 Tryz.prog 209 #[.agg cs,mv,.int .i64 i] W fun e W''=>e=.returned (.int .i64 y)∧W.grownBy W'' none :=
 Sk Iu rfl (x:=(x,s,i)) (y:=y) hF (vals:=[.agg cs,mv,.int .i64 i]) ⟨_,_,rfl,Z7 hb,_,_,rfl,ac3 hm,_,rfl,RQ _ _⟩
end
def pn {w:World} {av:Nat→Prop} {t:Ty} {xs:List (Val t)} {vs:List Value} (h:CR w av (.slice t) xs vs):∃base cap,vs=[.slice base xs.length cap]:=by
 obtain⟨base,cap,e,_⟩:=h;exact⟨base,cap,e⟩
def afp {x:Val Ê} {s:Val (.map tI Õ)} {l1 l2 l3 l4:List Int} (h1:JH (fun u=>Ľ u.1 u.2 s) (x.2.2.1:List (Int×Int))=some l1) (h2:JH (fun i=>Υ x s i) (wI (x.2.2.2.1:List (Val iJ)).length)=some l2)
 (h3:JH (fun i=>ņ x s i) (wI (x.2.2.2.2.1:List (Val â)).length)=some l3) (h4:JH (fun u=>Ľ u.1 u.2 s) (x.2.2.2.2.2:List (Int×Int))=some l4)
 (hlen:(x.2.2.1:List (Val Ã)).length≤1000∧(x.2.2.2.1:List (Val iJ)).length≤1000∧(x.2.2.2.2.1:List (Val â)).length≤1000∧(x.2.2.2.2.2:List (Val Ã)).length≤1000)
 {w:World} {bb tb sb:Nat} {te te2 te3:TypeId} {cb:Array Value} {mv:Value} (hbb:w.heap[bb]?=some (.cells cb te (0,0))) (hbk:CR w noG Ê x cb.toList) (htb:w.heap[tb]?=some (.cells #[.func (.func 204) #[] #[.pointer (some ⟨sb,0,none⟩)]] te2 (0,0)))
 (hsb:w.heap[sb]?=some (.cells #[mv] te3 (0,0))) (hmv:CR w noG (.map tI Õ) s [mv]) :
 SeqStopsK Fence.wide 1 Tryz.prog 207 #[.pointer (some ⟨bb,0,none⟩),.pointer (some ⟨tb,0,none⟩),.pointer (some ⟨sb,0,none⟩)] (fun x:Int=>#[.int .i64 x]) (Below w.heap.size) (fun xs=>xs=l1++(l2++(l3++l4))) (fun pre=>pre <+: (l1++(l2++(l3++l4)))) (l1++(l2++(l3++l4))).length w:=by
 intro l J Jx W hbel hJ hJx hY h0;obtain⟨fl,r0,e0,hfl,hr0⟩:=id hbk;obtain⟨ga,r1,e1,hga,hr1⟩:=hr0;obtain⟨us,r2,e2,hus,hr2⟩:=hr1;obtain⟨lo,r3,e3,hlo,hr3⟩:=hr2;obtain⟨co,ko,e4,hco,hko⟩:=hr3;obtain⟨f1,f2,e5,hf1,hf2⟩:=hfl;have e6:f1=[.int .i64 x.1.1]:=hf1;have e7:f2=[.int .i64 x.1.2]:=hf2;obtain⟨gab,gac,e8⟩:=pn hga;obtain⟨lob,loc,e9⟩:=pn hlo;obtain⟨cob,coc,e10⟩:=pn hco;obtain⟨usb0,usc0,e11⟩:=pn hus;obtain⟨kob0,koc0,e12⟩:=pn hko;rw[e11] at hus;rw[e12] at hko;obtain⟨usb,usc,ub,uo,e13,hub,hU⟩:=Ja hus;obtain⟨kob,koc,kb,kof,e14,hkb,hK⟩:=Ja hko;rw[e13] at e11;rw[e14] at e12
 have hcb:cb=#[.int .i64 x.1.1,.int .i64 x.1.2,.slice gab (x.2.1:List (Val Õ)).length gac,.slice usb (x.2.2.1:List (Val Ã)).length usc,.slice lob (x.2.2.2.1:List (Val iJ)).length loc,.slice cob (x.2.2.2.2.1:List (Val â)).length coc,.slice kob (x.2.2.2.2.2:List (Val Ã)).length koc]:=by
  rw[←dD,e0,e1,e2,e3,e4,e5,e6,e7,e8,e9,e10,e11,e12];rfl
 obtain⟨g1,q1⟩:=CJ h1;obtain⟨g2,q2⟩:=CJ h2;obtain⟨g3,q3⟩:=CJ h3;obtain⟨g4,q4⟩:=CJ h4
 have gl2:l2.length=(x.2.2.2.1:List (Val iJ)).length:=by rw[g2]; simp[wI]
 have gl3:l3.length=(x.2.2.2.2.1:List (Val â)).length:=by rw[g3]; simp[wI]
 have up1:upE (fun j=>l1[j]?.getD 0) (x.2.2.1:List (Val Ã)).length=l1:=by rw[←g1]; exact Ix l1
 have up2:upE (fun j=>l2[j]?.getD 0) (x.2.2.2.1:List (Val iJ)).length=l2:=by rw[←gl2]; exact Ix l2
 have up3:upE (fun j=>l3[j]?.getD 0) (x.2.2.2.2.1:List (Val â)).length=l3:=by rw[←gl3]; exact Ix l3
 have up4:upE (fun j=>l4[j]?.getD 0) (x.2.2.2.2.2:List (Val Ã)).length=l4:=by rw[←g4]; exact Ix l4
 have at1:∀{xs:List (Int×Int)} {ls:List Int},(∀(i:Nat) (a:Int×Int),xs[i]?=some a→∃b,ls[i]?=some b∧Ľ a.1 a.2 s=some b)→∀j,j<xs.length→Ľ (xs[j]?.getD (0,0)).1 (xs[j]?.getD (0,0)).2 s=some (ls[j]?.getD 0):=by
  intro xs ls hq j hj;obtain⟨b,hb,hf⟩:=hq j xs[j] (cw hj);rw[cw hj,hb];exact hf
 have at2:∀{n:Nat} {ls:List Int} {f:Int→Option Int},(∀(i:Nat) (a:Int),(wI n)[i]?=some a→∃b,ls[i]?=some b∧f a=some b)→∀j,j<n→f (j:Int)=some (ls[j]?.getD 0):=by
  intro n ls f hq j hj;obtain⟨b,hb,hf⟩:=hq j j (by simp[wI,hj]);rw[hb]; exact hf
 have hbel':∀{W':World},Below w.heap.size W W'→Below w.heap.size w W':=fun h=>hbel.trans h;have hcell:∀{W':World} {p:Addr} {v:Value},Below w.heap.size w W'→w.cell? p=some v→p.block<w.heap.size→W'.cell? p=some v:=fun {W'} {p} {v} h hc hp=>(h.cell (p:=p) hp).trans hc;have lb:=Ċ hbb;have lt:=Ċ htb;have ls:=Ċ hsb
 have:=afz te 1 (by omega) l w.heap.size bb tb sb (.int .i64 x.1.1) (.int .i64 x.1.2) (.slice gab (x.2.1:List (Val Õ)).length gac) mv lb lt ls
  ub uo (x.2.2.1:List (Val Ã)).length usc kb kof (x.2.2.2.2.2:List (Val Ã)).length koc usb kob lob cob (x.2.2.2.1:List (Val iJ)).length loc (x.2.2.2.2.1:List (Val â)).length coc hub hkb
  (fun j=>(x.2.2.1:List (Int×Int))[j]?.getD (0,0)) (fun j=>(x.2.2.2.2.2:List (Int×Int))[j]?.getD (0,0)) (fun j=>l1[j]?.getD 0) (fun j=>l2[j]?.getD 0) (fun j=>l3[j]?.getD 0) (fun j=>l4[j]?.getD 0)
  hlen.1 hlen.2.1 hlen.2.2.1 hlen.2.2.2 W ((hbel.block bb lb).trans (by rw[hbb,hcb])) (hcell hbel (by simp[World.cell?,htb]) lt) (hcell hbel (by simp[World.cell?,hsb]) ls)
  (fun j hj=>⟨hcell hbel (hU j hj).1 (hub (by omega)).2,hcell hbel (hU j hj).2 (hub (by omega)).2⟩) (fun j hj=>⟨hcell hbel (hK j hj).1 (hkb (by omega)).2,hcell hbel (hK j hj).2 (hkb (by omega)).2⟩)
  (fun j hj W' hW=>SP (at1 q1 j hj) (((hbel' hW).block sb ls).trans hsb) (CR.below (hbel' hW) (cz _) hmv))
  (fun j hj W' hW=>SP (at1 q4 j hj) (((hbel' hW).block sb ls).trans hsb) (CR.below (hbel' hW) (cz _) hmv))
  (fun j hj W' hW=>ade (at2 q2 j hj) (by have:=CR.below (hbel' hW) (cz _) hbk; rwa [hcb] at this) (CR.below (hbel' hW) (cz _) hmv))
  (fun j hj W' hW=>VF (at2 q3 j hj) (by have:=CR.below (hbel' hW) (cz _) hbk; rwa [hcb] at this) (CR.below (hbel' hW) (cz _) hmv))
  J Jx (fun pre W1 W2 hj hg=>hJ pre W1 W2 none hj hg (fun r e=>by cases e)) (fun pre W1 W2 hj hg=>hJx pre W1 W2 none hj hg (fun r e=>by cases e))
  (fun pre y W1 hj hl=>hY pre y W1 hj (by simp only[cD]; omega)) h0 hbel.size
 rw[up1,up2,up3,up4] at this;exact this
end Go.Proofs.ZzM
end

noncomputable section
set_option maxRecDepth 100000
namespace Go.Proofs.ZzM
open Go Go.Am Go.RowKit
section
variable [Ghost] {ρ:Type} {ν:Nat→Value} {w:World}
def peel (hq:Ghost.Q=none) {E:Env ρ} {call:List Nat→Bool→Nat→List AV→List Blk→(AV→List Blk→Option ρ)→Option ρ} {L:Nat} (hE:lM E L call) (hD:uu E L call) (hj:E.joins=fun _ _ _ _=>none) {fid:Nat} {path:List Nat} (hp:path.length+2=L) {x y c:Code} {bid n:Nat} {S:St} {K:Exit→St→Option ρ} {r:ρ} {a:Act} {Q:Exit→Act→World→Prop}
 (hL:∀z∈Û bid x,rV E path fid z.1 z.2) (e:goC E call fid path 0 bid (.seq x y) S K=some r) (H:Sim ν S a w)
 (hn:∀ν' S' a' w',Sim ν' S' a' w'→Ev 0 ν S.h w ν' S'.h w'→goC E call fid path 0 bid y S' K=some r→c.wpIn Fence.wide n E.P Q a' w')
 (hx:∀ν' S' a' w' e,e≠.normal→Sim ν' S' a' w'→Ev 0 ν S.h w ν' S'.h w'→K e S'=some r→Q e a' w'):(Code.seq x c).wpIn Fence.wide n E.P Q a w:=by
 simp only[goC,hj] at e;have hgo:=tY hE hD hp x bid S _ ν a w hL e H (dB _);rw[ZO hq] at hgo;refine wpIn_seq (wpIn_wide.2 (wpIn_wide.1 (wpIn_mono hgo fun e' a' w' ha=>?_)));obtain⟨ν',S',h1,h2,h3,h4,h5⟩:=ha
 cases e' with
 |normal=>exact hn ν' S' a' w' h1 h2 h5
 |exit id=>exact hx ν' S' a' w' _ (by simp) h1 h2 h5
 |goto l=>exact hx ν' S' a' w' _ (by simp) h1 h2 h5
 |ret=>exact hx ν' S' a' w' _ (by simp) h1 h2 h5
 |panic ch=>exact hx ν' S' a' w' _ (by simp) h1 h2 h5
 |outgrown=>exact hx ν' S' a' w' _ (by simp) h1 h2 h5
end
def acu {T:Array Value} {rb:Nat} {n:Int} {e:TypeId} {W:World} (h2:T.getD 2 undef=.pointer (some ⟨rb,0,none⟩)) (hc:W.heap[rb]?=some (.cells #[.int .i64 n] e (0,0))):(results Tryz.f72 T).run Tryz.prog W=.ok (.int .i64 n) W:=by
 letI:Ghost:=(Gk (fun _=>False) [] (none))
 have hl:(loadVar 38 ⟨rb,0,none⟩).run Tryz.prog W=.ok (.int .i64 n) W:=by
  have:=run_loadVar (P:=Tryz.prog) (w:=W) (t:=38) (agg:=false) (n:=1) (by kernel_rfl) (us:=[.int .i64 n]) rfl (fun _=>rfl) (a:=⟨rb,0,none⟩) (fun j v hj=>by
   have:=CellsAt.of_cells hc j v (by simpa using hj)
   cases j with
   |zero=>simpa[Addr.add] using this
   |succ j=>simp at hj)
  exact this
 have hr:Tryz.f72.results=#[.cell 2 38]:=by kernel_rfl
 unfold results;rw[hr,Array.mapM_eq_mapM_toList];simp only[Sem.run_bind,Sem.run_map,List.mapM_cons,List.mapM_nil,h2,asAddr,Sem.run_pure,Result.andThen_ok,hl];rfl
@[reducible] def gck (G:Nat→Prop) (M:Nat):Ghost:=(Gh G).re G [] none M
def aik [Ghost] {ν:Nat→Value} {h:List Blk} {w:World} {x:Val Ê} {us:List Value} (hv:ø (VRc ν h w) (flat Ê x) us):CR w noG Ê x us:=by
 have h1:Ö Ê (flat Ê x)=some x:=rfl;have h2:ø (VRs w (Av ν h)) (flat Ê x) us:=hv.mono fun c u hu=>hu.1.data;exact CR.mono (fun _ hf=>hf.elim) (ě h1 h2)
def A6 (G:Nat→Prop) (y:Int) (w:World) (e:Ending) (w':World):Prop :=
 ∃u,e=.returned u∧RR w' G [tI] y u∧(∀b,b<w.heap.size→w'.heap[b]?=w.heap[b]?)∧w.heap.size≤w'.heap.size∧w'.os=w.os∧w'.tape=w.tape∧w'.output=w.output
def ZW {G:Nat→Prop} {y:Int} {w0 w:World} {a:Act} {ms:List Nat} {rb:Nat} {e:TypeId} (hd:a.defers=ms.map mk1) (hn:ms.Nodup) (hD:∀k∈ms,w.heap[k]?=some (.deferred (some []))∧w0.heap.size≤k) (h2:a.tmps.getD 2 undef=.pointer (some ⟨rb,0,none⟩)) (hc:w.heap[rb]?=some (.cells #[.int .i64 y] e (0,0)))
 (hb:∀b,b<w0.heap.size→w.heap[b]?=w0.heap[b]?) (hsz:w0.heap.size≤w.heap.size) (h3:w.os=w0.os) (h4:w.tape=w0.tape) (h5:w.output=w0.output):LeavesInM Fence.wide 2 Tryz.prog Tryz.f72 a.tmps (A6 G y w0) a.defers .returning w:=by
 rw[hd]
 have hne:rb∉ms:=fun h=>by rw[(hD rb h).1] at hc; cases hc
 refine rD ms w hn (fun k hk=>(hD k hk).1) fun w2 q1 q2 q3 q4 q5=>?_;exact⟨.int .i64 y,acu h2 ((q5 rb hne).trans hc),.int .i64 y,rfl,⟨[.int .i64 y],rfl,rfl⟩,fun b hlt=>(q5 b fun hm=>by have:=(hD b hm).2; omega).trans (hb b hlt),by rw[q1]; exact hsz,q2.trans h3,q3.trans h4,q4.trans h5⟩
def aih (S:St):ckK .ret S=(aeh S).map .inl:=by
 unfold ckK
 cases aeh S<;>rfl
def abo (S:St):ckK .normal S=if decide (78≤S.t.length)=true then some (.inr ([lk S.t 1,lk S.t 2,lk S.t 48],S.h)) else none:=by
 unfold ckK
 cases decide (78≤S.t.length)<;>rfl
def kp [Ghost] {ρ:Type} {E:Env ρ} (h0:E.loops=jY []) (h1:E.ranges=fun _ _ _ _ _ _ _=>none) {path:List Nat} {fid bid:Nat} {b:LI}:rV E path fid bid b:=by
 cases b with
 |lp b=>exact fun m S K r ν a w e=>by rw[h0] at e; cases e
 |rf g ps x y=>exact fun m S K r ν a w e=>by rw[h1] at e; cases e
def ag9 {ρ:Type} (E:Env ρ) (hP:E.P.follows .mixedOrders=true) (hlib:∀[Ghost],jN E→EP E) (h0:E.loops=jY []) (h1:E.ranges=fun _ _ _ _ _ _ _=>none) (hy:E.yld=none) [Ghost]:lM E 2 (Ű E 10) :=
 pZ hlib (fun L call hE=>mH hP L call hE) (fun n hn hE _ _ path f fn c _ _ _ z _=>kp h0 h1) 10 (cz _) (iI hy)
def ahI:Code→String
 | .region _ ops _ => ((ops[0]?).map fun o => o.pos).getD ""
 | _ => ""
def rfA:Code→Code
 |.block _ (.rangeFunc _ _ a _)=>a
 |_=>.skip
def rfB:Code→Code
 |.block _ (.rangeFunc _ _ _ (.block _ (.seq a _)))=>a
 |_=>.skip
def rfC:Code→Code
 |.block _ (.rangeFunc _ _ _ (.block _ (.seq _ (.cond _ (.seq a _) _))))=>a
 |_=>.skip
def aif:ckRF=Code.block 0 (Code.rangeFunc (.tmp 48) #[49] (YV (ahI (rfA ckRF))) (agQ (ahI (rfB ckRF)) (ahI (rfC ckRF)))):=by kernel_rfl
def ag8:∀e∈ck_pt,jO Tryz.prog e.1 e.2:=Á Ml (Á Cb (Á zr (Á Mm Å)))
def aei {e:Exit} {S:St} {n:Int} (h:ckK2 e S=some n):e=.ret∧lk S.t 2=.box 1 0∧lkB S.h 1=.cells [.int .i64 n]:=by
 unfold ckK2 at h
 split at h
 ·split at h
  ·rename_i h2
   split at h
   ·rename_i h3;cases h;exact⟨rfl,h2,h3⟩
   ·cases h
  ·cases h
 ·cases h
def Vm [Ghost] {ν:Nat→Value} {h:List Blk} {w:World} {n:Int} {id:Nat} (H:HR ν h w) (hl:lkB h id=.cells [.int .i64 n]):∃b e,ν id=.pointer (some ⟨b,0,none⟩)∧w.heap[b]?=some (.cells #[.int .i64 n] e (0,0)):=by
 have hB:=H.blk id;rw[hl] at hB;obtain⟨b,c,e,h1,h2,h3⟩:=hB;obtain⟨u,h4,h5⟩:=h3.one;have h6:u=.int .i64 n:=h5.1;refine⟨b,e,h1,?_⟩;rw[h2]
 have:c=#[.int .i64 n]:=by rw[←dD,h4,h6]
 rw[this]
def Gx [Ghost] {ν:Nat→Value} {h:List Blk} {w:World} {id off:Nat} {v:Value} {b:Nat} (hv:VR ν h w (.box id off) v) (hb:ν id=.pointer (some ⟨b,0,none⟩)):v=.pointer (some ⟨b,off,none⟩):=by
 obtain⟨cs,b',h1,h2,h3⟩:=hv;rw[hb] at h2;cases h2;exact h3
def aie {G:Nat→Prop} {x:Val Ê} {s:Val (.map tI Õ)} {y:Int} (hS:ckS x=some y) {ν:Nat→Value} {w0 w6 W:World} {a:Act} (H:@HR (gck G w0.heap.size) ν (ckH x s 0) w6) (hb:Below w6.heap.size w6 W) {ms:List Nat} (hd:a.defers=ms.map mk1) (hn:ms.Nodup) (hms:∀k∈ms,W.heap[k]?=some (.deferred (some []))∧w0.heap.size≤k) (hlen:78≤a.tmps.size)
 (t1:@VR (gck G w0.heap.size) ν (ckH x s 0) w6 (.box 0 0) (a.tmps.getD 1 undef)) (t2:@VR (gck G w0.heap.size) ν (ckH x s 0) w6 (.box 1 0) (a.tmps.getD 2 undef))
 (h0:∀b,b<w0.heap.size→w6.heap[b]?=w0.heap[b]?∧¬Cg ν (ckH x s 0) b) (hsz:w0.heap.size≤w6.heap.size) (h3:w6.os=w0.os) (h4:w6.tape=w0.tape) (h5:w6.output=w0.output) :
 PE.wpIn Fence.wide 2 Tryz.prog (bodyPostM Fence.wide 2 Tryz.prog Tryz.f72 (A6 G y w0)) a W:=by
 have hlive:∀b,Cg ν (ckH x s 0) b→b<w6.heap.size:=fun b hl=>@HR.ltA (gck G w0.heap.size) _ _ _ H b (.inl hl)
 have t1':∃b,ν 0=.pointer (some ⟨b,0,none⟩)∧a.tmps.getD 1 undef=.pointer (some ⟨b,0,none⟩):=by
  obtain⟨cs,b,_,h2,h3⟩:=t1;exact⟨b,h2,h3⟩
 have t2':∃b,ν 1=.pointer (some ⟨b,0,none⟩)∧a.tmps.getD 2 undef=.pointer (some ⟨b,0,none⟩):=by
  obtain⟨cs,b,_,h2,h3⟩:=t2;exact⟨b,h2,h3⟩
 letI:Ghost:=gck G w0.heap.size
 have H1:HR ν (ckH x s 0) w6:=H;have H2:HR ν (ckH x s 0) W:=(H1.grow (fun b hlt=>hb.block b hlt) hb.size hb.os hb.tape hb.output 0).2;have hdraw:∀L call,lM (agk Int) L call→uu (agk Int) L call:=mH hmix;have hl0:(agk Int).loops=jY []:=rfl;have hEnv:lM (agk Int) 2 (Ű (agk Int) 10):=ag9 (agk Int) hmix (fun {_} _=>B4 ag8 (agk Int) rfl rfl rfl rfl rfl (ŏ rfl) (lB rfl) (iI rfl)) rfl rfl rfl;have law:=ck_suf x s;rw[hS] at law
 have sim:Sim ν {t:=[.any,.box 0 0,.box 1 0]++List.replicate 75 .any,h:=ckH x s 0} a W:=by
  refine⟨⟨⟨ms,hd.trans (cW _).symm,hn,hms⟩,fun l hl=>(by cases hl),dB _,cR hsz hb.size⟩,by simpa using hlen,fun i=>?_,H2⟩;simp only[Pf];rcases i with _|_|_|i
  ·trivial
  ·obtain⟨b,g1,g2⟩:=t1';exact⟨_,b,rfl,g1,g2⟩
  ·obtain⟨b,g1,g2⟩:=t2';exact⟨_,b,rfl,g1,g2⟩
  ·trivial
 refine wpIn_wide.2 (wpIn_wide.1 (wpIn_mono (tY hEnv (hdraw _ _ hEnv) rfl PE 0 _ _ ν a W (fun z _=>kp hl0 rfl) law sim (dB _)) fun e a' w' ha=>?_));obtain⟨ν',S',g1,g2,_,_,g5⟩:=ha;obtain⟨rfl,k2,k3⟩:=aei g5;obtain⟨rb,te,r1,r2⟩:=Vm g1.heap k3;have r3:=g1.tmps 2;rw[k2] at r3;have r4:=Gx r3 r1;obtain⟨⟨ms2,m1,m2,m3⟩,_⟩:=g1.defers;refine ZW (w:=w') (a:=a') (G:=G) (y:=y) (w0:=w0) (rb:=rb) (m1.trans (cW _)) m2 m3 r4 r2 (fun b hlt=>?_) (by have:=g2.size; have:=hb.size; omega) (g2.os.trans (hb.os.trans h3)) (g2.tape.trans (hb.tape.trans h4)) (g2.output.trans (hb.output.trans h5));have h01:=h0 b hlt
 have hlt6:b<w6.heap.size:=by omega
 have hltW:b<W.heap.size:=by have:=hb.size; omega
 exact(g2.keep b hltW h01.2).1.trans ((hb.block b hlt6).trans h01.1)
set_option maxHeartbeats 2000000 in
def abp (G:Nat→Prop) (x:Val Ê) (y:Int) (hF':ż x=some y) (w:World) (vals:List Value) (hG:∀b,G b→b<w.heap.size) (hAL:AL w G [Ê] x vals) :
 (∃fn c,Tryz.prog.funcs[72]?=some fn∧fn.body=some c)∧CallsIn Fence.wide 0 Tryz.prog 72 vals.toArray w (A6 G y w):=by
 rw[agj] at hF'
 letI:Ghost:=gck G w.heap.size
 have hpt:=ag8;have hdraw:∀L call,lM (ckE ckR) L call→uu (ckE ckR) L call:=mH hmix;have h0:(ckE ckR).loops=jY []:=rfl;have hEnv:lM (ckE ckR) 2 (Ű (ckE ckR) 10):=ag9 (ckE ckR) hmix (fun {_} _=>B4 hpt (ckE ckR) rfl rfl rfl rfl rfl (ŏ rfl) (lB rfl) (iI rfl)) rfl rfl rfl;have hD:=hdraw _ _ hEnv;have H:HR (fun _=>undef) [] w:=⟨fun _=>trivial,fun _ _ _ h=>(by cases h),hG,fun _ _ h=>(by cases h)⟩;have hav:∀b,Av (fun _=>undef) [] b→G b:=fun b hb=>hb.elim (fun⟨_,h,_⟩=>by cases h) id;have hargs:ø (VR (fun _=>undef) [] w) (X4 [Ê] x) vals:=AL.VR (hAL.mono hav);refine⟨⟨Tryz.f72,_,Tryz.func72,aha⟩,?_⟩
 have hlen:vals.length=1:=by
  have:=hargs.length;simpa[X4,adR] using this.symm
 cases hM:ckM x with
 |none=>rw[hM] at hF'; cases hF'
 |some r0 =>
 rw[hM] at hF';have law:=ck_pre x;rw[hM] at law;refine callsIn_wide.2 (callsIn_wide.1 (callsIn_of_wp_marks (n:=2) Tryz.func72 aha trivial ?_ (R:=A6 G y w)))
 have hS:Sim (fun _=>undef) {t:=X4 [Ê] x++List.replicate 77 .any,h:=[]} {tmps:=vals.toArray++Array.replicate (Tryz.f72.ntmps-vals.toArray.size) undef,defers:=[]} w:=by
  refine⟨⟨⟨[],rfl,f8,fun _ h=>(by cases h)⟩,fun l hl=>(by cases hl),dB _,cz _⟩,?_,fun i=>?_,H⟩
  ·have:Tryz.f72.ntmps=78:=by kernel_rfl
   have hl2:(X4 [Ê] x).length=1:=rfl;simp[this,hlen,hl2]
  ·simp only[Pf];rcases cV i (X4 [Ê] x).length with hi|hi
   ·have:=ø.lk (R:=VR (fun _=>undef) [] w) (fun _=>trivial) i hargs
    have hv:i<vals.length:=by rw[←hargs.length]; exact hi
    have h2:(vals.toArray++Array.replicate (Tryz.f72.ntmps-vals.toArray.size) undef).getD i undef=vals.getD i undef:=by
     simp[dM,fe,hv]
    rw[h2]; exact this
   ·rw[afL _ _ hi]; trivial
 -- the ways out ahead of the loop
 have out:∀ν' S' a' w' e,e≠.normal→Sim ν' S' a' w'→Ev 0 (fun _=>undef) [] w ν' S'.h w'→ckK e S'=some r0→bodyPostM Fence.wide 2 Tryz.prog Tryz.f72 (A6 G y w) e a' w':=by
  intro ν' S' a' w' e hne hS' hE' hk
  cases e with
  |normal=>exact(hne rfl).elim
  |ret =>
   rw[aih] at hk
   cases hr:aeh S' with
   |none=>rw[hr] at hk; cases hk
   |some n =>
    rw[hr,dF] at hk;cases hk
    have hyn:n=y:=by simpa using hF'
    subst hyn;unfold aeh at hr
    split at hr
    ·rename_i v hv;show LeavesInM _ _ _ _ _ _ a'.defers _ _;obtain⟨⟨ms,m1,m2,m3⟩,_,m4,m5⟩:=hS'.defers;rw[show a'.defers=ms.map mk1 from m1.trans (cW _)];refine rD ms w' m2 (fun k hk=>(m3 k hk).1) fun w2 q1 q2 q3 q4 q5=>?_
     have hk2:∀(b:Nat) (o:Obj),w'.heap[b]?=some o→MO o=true∨b<(gck G w.heap.size).B→w2.heap[b]?=some o:=fun b o hb hd=>by
      have hbm:b∉ms:=fun hm=>by
       rw[(m3 b hm).1] at hb; cases hb;rcases hd with hd|hd
       ·cases hd
       ·exact absurd hd (Nat.not_lt_zero _)
      rw[q5 b hbm]; exact hb
     have KG:lL (gck G w.heap.size) ν' S'.h w' (gck G w.heap.size).G w2:=lL.nds q2 q3 q4 (by omega) hk2
     have sim2:Sim ν' S' {a' with defers:=[]} w2:=⟨⟨⟨[],rfl,f8,fun _ h=>(by cases h)⟩,fun l hl=>(by cases hl),dB _,by rw[q1]; exact m5⟩,hS'.len,fun i=>VR.step (g:=gck G w.heap.size) (D:=[]) (Q:=none) (M:=w.heap.size) KG (hS'.tmps i),
      HR.step (g:=gck G w.heap.size) (D:=[]) (Q:=none) (M:=w.heap.size) KG (fun b hb=>by rw[q1]; exact hS'.heap.ghlt b hb) (fun b hb hg=>by obtain⟨id,h1,h2⟩:=hb; exact hS'.heap.ghne id b h1 h2 hg) hS'.heap⟩
     obtain⟨u,r1,r2⟩:=Ov sim2 hv;exact⟨u,r1,u,rfl,YW sim2.heap [tI] r2 hr,fun b hb=>(q5 b fun hm=>by have m7:w.heap.size≤b:=(m3 b hm).2; omega).trans (hE'.keep b hb fun⟨_,h,_⟩=>by cases h).1,by rw[q1]; exact hE'.size,q2.trans hE'.os,q3.trans hE'.tape,q4.trans hE'.output⟩
    ·cases hr
  |exit id=>cases hk
  |goto l=>cases hk
  |panic ch=>cases hk
  |outgrown=>cases hk
 have outT:∀{ν₁:Nat→Value} {h₁:List Blk} {w₁:World},Ev 0 (fun _=>undef) [] w ν₁ h₁ w₁→∀ν' S' a' w' e,e≠.normal→Sim ν' S' a' w'→Ev 0 ν₁ h₁ w₁ ν' S'.h w'→ckK e S'=some r0→bodyPostM Fence.wide 2 Tryz.prog Tryz.f72 (A6 G y w) e a' w' :=
  fun hE ν' S' a' w' e hne hS' hE' hk=>out ν' S' a' w' e hne hS' (hE.trans hE' (cz _)) hk
 refine peel rfl hEnv hD rfl rfl (fun z _=>kp h0 rfl) law hS (fun ν1 S1 a1 w1 s1 e1 k1=>?_) out;refine peel rfl hEnv hD rfl rfl (fun z _=>kp h0 rfl) k1 s1 (fun ν2 S2 a2 w2 s2 e2 k2=>?_) (outT e1);have t2:=e1.trans e2 (cz _);refine peel rfl hEnv hD rfl rfl (fun z _=>kp h0 rfl) k2 s2 (fun ν3 S3 a3 w3 s3 e3 k3=>?_) (outT t2);have t3:=t2.trans e3 (cz _);refine peel rfl hEnv hD rfl rfl (fun z _=>kp h0 rfl) k3 s3 (fun ν4 S4 a4 w4 s4 e4 k4=>?_) (outT t3);have t4:=t3.trans e4 (cz _);refine peel rfl hEnv hD rfl rfl (fun z _=>kp h0 rfl) k4 s4 (fun ν5 S5 a5 w5 s5 e5 k5=>?_) (outT t4);have t5:=t4.trans e5 (cz _);refine wpIn_seq (wpIn_seq (wpIn_wide.2 (wpIn_wide.1 (wpIn_mono (tY hEnv hD rfl ckA5 0 S5 _ ν5 a5 w5 (fun z _=>kp h0 rfl) k5 s5 (dB _)) fun e' a6 w6 ha=>?_))));obtain⟨ν,S,s6,e6,_,_,k6⟩:=ha;have t6:=t5.trans e6 (cz _)
 have other:∀e,e≠.normal→ckK e S=some r0→Exit.then (Code.wpIn Fence.wide 2 Tryz.prog PE (bodyPostM Fence.wide 2 Tryz.prog Tryz.f72 (A6 G y w))) (bodyPostM Fence.wide 2 Tryz.prog Tryz.f72 (A6 G y w)) e a6 w6:=by
  intro e hne hk;have:=out ν S a6 w6 e hne s6 t6 hk
  cases e<;>first|exact(hne rfl).elim|exact this
 cases e' with
 |exit id=>exact other _ (by simp) k6
 |goto l=>exact other _ (by simp) k6
 |ret=>exact other _ (by simp) k6
 |panic ch=>exact other _ (by simp) k6
 |outgrown=>exact other _ (by simp) k6
 |normal =>
 clear other;rw[abo] at k6
 split at k6<;>try (cases k6; done)
 rename_i h78
 have h78':78≤S.t.length:=by simpa using h78
 cases k6;obtain⟨hlens,s,hs,hq⟩:=aig hM;simp only[Prod.mk.injEq,List.cons.injEq,and_true] at hq;obtain⟨⟨q1,q2,q48⟩,qh⟩:=hq
 have hF2:Tn (nO x s) some (ckS x)=some y:=by
  simp only at hF';rw[hs] at hF';exact hF'
 -- what the errors are
 obtain⟨L,hL,hLy⟩:∃L,nO x s=some L∧(match L.find? (fun e=>e != 0) with|some e=>some e|none=>ckS x)=some y:=by
  unfold Tn at hF2
  cases hl:nO x s with
  |none=>rw[hl] at hF2; cases hF2
  |some L=>rw[hl] at hF2; exact⟨L,rfl,hF2⟩
 obtain⟨l1,l2,l3,l4,m1,m2,m3,m4,rfl⟩:∃l1 l2 l3 l4,JH (fun u=>Ľ u.1 u.2 s) (x.2.2.1:List (Int×Int))=some l1∧JH (fun i=>Υ x s i) (wI (x.2.2.2.1:List (Val iJ)).length)=some l2 ∧
  JH (fun i=>ņ x s i) (wI (x.2.2.2.2.1:List (Val â)).length)=some l3∧JH (fun u=>Ľ u.1 u.2 s) (x.2.2.2.2.2:List (Int×Int))=some l4∧L=l1++(l2++(l3++l4)):=by
  unfold nO at hL
  cases m1:JH (fun u=>Ľ u.1 u.2 s) (x.2.2.1:List (Int×Int)) with
  |none=>rw[m1] at hL; cases hL
  |some l1 =>
  rw[m1] at hL
  cases m2:JH (fun i=>Υ x s i) (wI (x.2.2.2.1:List (Val iJ)).length) with
  |none=>simp only[Ä,m2] at hL; cases hL
  |some l2 =>
  cases m3:JH (fun i=>ņ x s i) (wI (x.2.2.2.2.1:List (Val â)).length) with
  |none=>simp only[Ä,m2,m3] at hL; cases hL
  |some l3 =>
  cases m4:JH (fun u=>Ľ u.1 u.2 s) (x.2.2.2.2.2:List (Int×Int)) with
  |none=>simp only[Ä,m2,m3,m4] at hL; cases hL
  |some l4 =>
  simp only[Ä,m2,m3,m4] at hL;cases hL;exact⟨l1,l2,l3,l4,rfl,rfl,rfl,rfl,rfl⟩
 -- the blocks
 obtain⟨T,Hh⟩:=S;dsimp only at q1 q2 q48 qh h78';subst qh;have p1:=s6.tmps 1;have p2:=s6.tmps 2;have p48:=s6.tmps 48;dsimp only at p1 p2 p48;rw[q1] at p1;rw[q2] at p2;rw[q48] at p48;obtain⟨rb,te1,n1,hrb⟩:=Vm (id:=1) (n:=0) s6.heap rfl;have hB2:BR ν (ckH x s 0) w6 2 (.cells (flat Ê x)):=s6.heap.blk 2;have hB3:BR ν (ckH x s 0) w6 3 (.cells [.mp tI Õ s]):=s6.heap.blk 3;have hB4:BR ν (ckH x s 0) w6 4 (.cells [.fn (.func 204) [] [.box 3 0]]):=s6.heap.blk 4;obtain⟨bb,cb,te,n2,hbb,hb2⟩:=hB2;obtain⟨sb,cs3,te3,n3,hsb,hb3⟩:=hB3;obtain⟨tb,cs4,te2,n4,htb,hb4⟩:=hB4;obtain⟨mv,z3,hm3⟩:=hb3.one;obtain⟨fv,z4,hm4⟩:=hb4.one;have hmv:CR w6 noG (.map tI Õ) s [mv]:=CR.mono (fun _ hf=>hf.elim) (show CR w6 (Av ν (ckH x s 0)) (.map tI Õ) s [mv] from hm3.1)
 have hc3:cs3=#[mv]:=by rw[←dD,z3]
 have hfv:fv=.func (.func 204) #[] #[.pointer (some ⟨sb,0,none⟩)]:=by
  obtain⟨fs,cs,h1,h2,h3⟩:=hm4.1
  have e1:fs=#[]:=by rw[←dD]; exact h2.nil_left
  obtain⟨u,e2,h4⟩:=h3.one;have e3:u=.pointer (some ⟨sb,0,none⟩):=Gx (w:=w6) (id:=3) (off:=0) h4 n3
  have e4:cs=#[.pointer (some ⟨sb,0,none⟩)]:=by rw[←dD,e2,e3]
  rw[h1,e1,e4]
 have hc4:cs4=#[fv]:=by rw[←dD,z4]
 rw[hc3] at hsb;rw[hc4,hfv] at htb
 have hg:a6.tmps.getD 48 undef=.func (.func 207) #[] #[.pointer (some ⟨bb,0,none⟩),.pointer (some ⟨tb,0,none⟩),.pointer (some ⟨sb,0,none⟩)]:=by
  obtain⟨fs,cs,h1,h2,h3⟩:=p48
  have e1:fs=#[]:=by rw[←dD]; exact h2.nil_left
  have hl:=h3.length
  obtain⟨u1,u2,u3,e2⟩:∃u1 u2 u3,cs.toList=[u1,u2,u3]:=by
   rcases hcs:cs.toList with _|⟨u1,_|⟨u2,_|⟨u3,_|⟨u4,t⟩⟩⟩⟩<;>rw[hcs] at hl<;>simp at hl
   exact⟨u1,u2,u3,rfl⟩
  rw[e2] at h3;have e3:u1=.pointer (some ⟨bb,0,none⟩):=Gx (w:=w6) (id:=2) (off:=0) h3.1 n2;have e4:u2=.pointer (some ⟨tb,0,none⟩):=Gx (w:=w6) (id:=4) (off:=0) h3.2.1 n4;have e5:u3=.pointer (some ⟨sb,0,none⟩):=Gx (w:=w6) (id:=3) (off:=0) h3.2.2.1 n3;rw[h1,e1];congr 1;rw[←dD,e2,e3,e4,e5]
 have hseq:=afp m1 m2 m3 m4 hlens hbb (aik hb2) htb hsb hmv;have h2:=Gx p2 n1;have hsz:78≤a6.tmps.size:=cR h78' s6.len
 have hkeep:∀b,b<w.heap.size→w6.heap[b]?=w.heap[b]?∧¬Cg ν (ckH x s 0) b:=fun b hb=>t6.keep b hb fun⟨_,h,_⟩=>by cases h
 obtain⟨⟨ms,m1',m2',m3'⟩,_⟩:=s6.defers;have hdef:a6.defers=ms.map mk1:=m1'.trans (cW _);show ckRF.wpIn Fence.wide 2 Tryz.prog (Exit.then (PE.wpIn Fence.wide 2 Tryz.prog (bodyPostM Fence.wide 2 Tryz.prog Tryz.f72 (A6 G y w))) (bodyPostM Fence.wide 2 Tryz.prog Tryz.f72 (A6 G y w))) a6 w6;rw[aif];refine wpIn_block (ahC hseq hg h2 hsz hrb (fun D W hall hbel hDl hDo=>?_) (fun D W z hz hput hDl hDo=>?_))
 ·have hck:ckS x=some y:=by
   have:(l1++(l2++(l3++l4))).find? (fun e=>e != 0)=none:=dU.2 fun z hz=>by rw[hall z hz]; simp
   rw[this] at hLy;exact hLy
  have hDn:D∉ms:=fun hm=>by have:=Ċ (m3' D hm).1; omega
  exact aie (s:=s) (ms:=D::ms) hck s6.heap hbel (by show mark D::a6.defers=_; rw[hdef]; rfl) (eG.2 ⟨hDn,m2'⟩) (fun k hk=>by
   rcases cF.1 hk with rfl|hk
   ·exact⟨hDo,cR t6.size hDl⟩
   ·exact⟨(hbel.block k (Ċ (m3' k hk).1)).trans (m3' k hk).1,(m3' k hk).2⟩) hsz p1 p2 hkeep t6.size t6.os t6.tape t6.output
 ·have hzy:z=y:=by
   rw[hz] at hLy;simpa using hLy
  subst hzy;obtain⟨te5,hcell⟩:=hput.cell;have hlb:=Ċ hrb;have hlive:Cg ν (ckH x s 0) rb:=⟨1,rfl,by rw[n1]; rfl⟩
  have hDn:D∉ms:=fun hm=>by have:=Ċ (m3' D hm).1; omega
  exact ZW (a:={a6 with defers:=mark D::a6.defers}) (w:=W) (ms:=D::ms) (by show mark D::a6.defers=_; rw[hdef]; rfl) (eG.2 ⟨hDn,m2'⟩) (fun k hk=>by
   rcases cF.1 hk with rfl|hk
   ·exact⟨hDo,cR t6.size hDl⟩
   ·exact⟨(hput.block k (Ċ (m3' k hk).1) (fun e=>by have h9:=(m3' k hk).1; rw[e,hrb] at h9; cases h9)).trans (m3' k hk).1,(m3' k hk).2⟩) h2 hcell
   (fun b hb=>(hput.block b (by have:=t6.size; omega) (fun e=>(hkeep b hb).2 (e▸hlive))).trans (hkeep b hb).1) (by have:=t6.size; have:=hput.size; omega) (hput.os.trans t6.os) (hput.tape.trans t6.tape) (hput.output.trans t6.output)
def uq:jO Tryz.prog 72 pp:=fun G x y hF w vals hG hAL=>abp G x y hF w vals hG hAL
end Go.Proofs.ZzM
end

noncomputable section
namespace Go.Proofs
open Go.RowKit
attribute [local go_sem] Oper.semAt_some
def aae (w:World) (o o':Obj):((w.alloc o).alloc o').heap[w.heap.size+1]?=some o':=by
 simp only[World.alloc];rw[show w.heap.size+1=(w.heap.push o).size from(Array.size_push _).symm];exact Array.getElem?_push_size
def aeQ (w:World) (o o':Obj):((w.alloc o).alloc o').heap[w.heap.size]?=some o:=by
 simp only[World.alloc];rw[Array.getElem?_push_lt (by rw[Array.size_push]; omega),Array.getElem_push_eq]
def VZ (w:World) (o o':Obj) (b:Nat) (hb:b<w.heap.size):((w.alloc o).alloc o').heap[b]?=w.heap[b]?:=by
 simp only[World.alloc];rw[Array.getElem?_push_lt (by simp; omega),Array.getElem_push_lt hb,Array.getElem?_eq_getElem hb]
def ahb {W:World} {b:Nat} {x0 x1 x2 x3 x4:Value} {t:TypeId} (h:W.heap[b]?=some (.cells #[x0,x1,x2,x3,x4] t (0,0))) :
 W.cell? ⟨b,0,none⟩=some x0∧W.cell? ⟨b,1,none⟩=some x1∧W.cell? ⟨b,2,none⟩=some x2∧W.cell? ⟨b,3,none⟩=some x3∧W.cell? ⟨b,4,none⟩=some x4∧∀j,W.frozen? ⟨b,j,none⟩=false:=by
 refine⟨?_,?_,?_,?_,?_,fun j=>?_⟩<;>simp only[World.cell?,World.frozen?,h]<;>rfl
def set5 {W:World} {b:Nat} {c0 c1 c2 c3 c4:Value} {x0 x1 x2 x3 x4:Value} {t:TypeId} (h:W.heap[b]?=some (.cells #[x0,x1,x2,x3,x4] t (0,0))) :
 (((((W.setCell ⟨b,0,none⟩ c0).setCell ⟨b,1,none⟩ c1).setCell ⟨b,2,none⟩ c2).setCell ⟨b,3,none⟩ c3).setCell ⟨b,4,none⟩ c4)=W.setRow b #[c0,c1,c2,c3,c4]:=by
 rw[setCell_eq_setRow W b 0 _ t (0,0) c0 h,setCell_eq_setRow _ b 1 _ t (0,0) c1 (setRow_heap _ _ _ _ t _ h),setRow_setRow,setCell_eq_setRow _ b 2 _ t (0,0) c2 (setRow_heap _ _ _ _ t _ h),setRow_setRow,
  setCell_eq_setRow _ b 3 _ t (0,0) c3 (setRow_heap _ _ _ _ t _ h),setRow_setRow,setCell_eq_setRow _ b 4 _ t (0,0) c4 (setRow_heap _ _ _ _ t _ h),setRow_setRow]
 rfl
def aay {T:Array Value} {b:Nat} {c0 c1 c2 c3 c4:Int} {e:TypeId} {W:World} (h2:T.getD 2 undef=.pointer (some ⟨b,0,none⟩)) (hc:W.heap[b]?=some (.cells #[.int .i64 c0,.int .i64 c1,.int .i64 c2,.int .i64 c3,.int .i64 c4] e (0,0))):(results Tryz.f220 T).run Tryz.prog W=.ok (.agg #[.int .i64 c0,.int .i64 c1,.int .i64 c2,.int .i64 c3,.int .i64 c4]) W:=by
 letI:Go.Am.Ghost:=Go.Am.Gh fun _=>False
 have hl:(loadVar 250 ⟨b,0,none⟩).run Tryz.prog W=.ok (.agg #[.int .i64 c0,.int .i64 c1,.int .i64 c2,.int .i64 c3,.int .i64 c4]) W:=by
  have:=Go.Am.run_loadVar (P:=Tryz.prog) (w:=W) (t:=250) (agg:=true) (n:=5) (by kernel_rfl) (us:=[.int .i64 c0,.int .i64 c1,.int .i64 c2,.int .i64 c3,.int .i64 c4]) rfl (fun h=>by cases h) (a:=⟨b,0,none⟩) (fun j v hj=>by
   have:=Go.Am.CellsAt.of_cells hc j v (by simpa using hj)
   have ha:(⟨b,0,none⟩:Addr).add j=⟨b,j,none⟩:=by unfold Addr.add; split<;>simp_all
   rw[ha]; simpa using this)
  exact this
 have hr:Tryz.f220.results=#[.cell 2 250]:=by kernel_rfl
 unfold results;rw[hr,Array.mapM_eq_mapM_toList];simp only[Sem.run_bind,Sem.run_map,List.mapM_cons,List.mapM_nil,h2,asAddr,Sem.run_pure,Result.andThen_ok,hl];rfl
set_option maxRecDepth 100000 in
set_option maxHeartbeats 1000000 in
def afv (v:Value) (w:World) (c0 c1 c2 c3 c4:Int) (n:Int)
 (hcopy : ∀ W, (∀ b, b < w.heap.size → W.heap[b]? = w.heap[b]?) → W.heap[w.heap.size + 1]? = some (.cells #[.int .i64 0, .int .i64 0, .int .i64 0, .int .i64 0, .int .i64 0] 250 (0, 0)) → (Builtin.copy_ #[51, 51] 3 #[.slice (some ⟨w.heap.size + 1, 0, none⟩) 5 5, v]).run Tryz.prog W = .ok (.int .i64 n) (W.setRow (w.heap.size + 1) #[.int .i64 c0, .int .i64 c1, .int .i64 c2, .int .i64 c3, .int .i64 c4])) :
  CallsIn Fence.wide 0 Tryz.prog 220 #[v] w fun e W'=>e=.returned (.agg #[.int .i64 c0,.int .i64 c1,.int .i64 c2,.int .i64 c3,.int .i64 c4])∧(∀b,b<w.heap.size→W'.heap[b]?=w.heap[b]?)∧w.heap.size≤W'.heap.size∧W'.os=w.os∧W'.tape=w.tape∧W'.output=w.output:=by
 refine callsIn_of_wp Tryz.func220 rfl trivial ?_ rfl;simp only[Tryz.ntmps220,eF,cN,dN,Nat.reduceAdd,Nat.reduceSub,Array.replicate_succ,Array.replicate_zero,List.push_toArray,gq,eZ,dL]
 gi_wp2
 rw[hcopy _ (VZ _ _ _) (aae _ _ _)];generalize hW:World.setRow _ _ _=W1
 have g1:W1.heap[w.heap.size+1]?=some (.cells #[.int .i64 c0,.int .i64 c1,.int .i64 c2,.int .i64 c3,.int .i64 c4] 250 (0,0)):=by
  rw[←hW]; exact setRow_heap _ _ _ _ 250 _ (aae _ _ _)
 have g2:W1.heap[w.heap.size]?=some (.cells #[.int .i64 0,.int .i64 0,.int .i64 0,.int .i64 0,.int .i64 0] 250 (0,0)):=by
  rw[←hW,setRow_other _ _ _ _ (by omega)]; exact aeQ _ _ _
 have g3:∀b,b<w.heap.size→W1.heap[b]?=w.heap[b]?:=fun b hb=>by
  rw[←hW,setRow_other _ _ _ _ (by omega)]; exact VZ _ _ _ b hb
 have g4:W1.os=w.os∧W1.tape=w.tape∧W1.output=w.output∧W1.heap.size=w.heap.size+2:=by
  rw[←hW]; refine⟨rfl,rfl,rfl,?_⟩;rw[size_setRow]; simp only[World.alloc,Array.size_push]
 clear hW hcopy;obtain⟨l0,l1,l2,l3,l4,_⟩:=ahb g1;obtain⟨z0,z1,z2,z3,z4,zf⟩:=ahb g2
 gi_wp2
 rw[set5 g2];refine bodyPost_ret (aay rfl (setRow_heap _ _ _ _ 250 _ g2)) rfl ?_;exact⟨rfl,fun b hb=>(setRow_other _ _ _ _ (by omega)).trans (g3 b hb),by rw[size_setRow]; omega,g4.1,g4.2.1,g4.2.2.1⟩
end Go.Proofs
namespace Go.Proofs.ZzM
open Go Go.Am Go.Proofs
def ahB (xs:List Int):(#[Value.int .i64 0,.int .i64 0,.int .i64 0,.int .i64 0,.int .i64 0].toList.take 0++(xs.take 5).map (Value.int .i64 ·)++#[Value.int .i64 0,.int .i64 0,.int .i64 0,.int .i64 0,.int .i64 0].toList.drop (0+((xs.take 5).map (Value.int .i64 ·)).length)).toArray =
 #[.int .i64 (xs.getD 0 0),.int .i64 (xs.getD 1 0),.int .i64 (xs.getD 2 0),.int .i64 (xs.getD 3 0),.int .i64 (xs.getD 4 0)]:=by
 rcases xs with _|⟨a,_|⟨b,_|⟨c,_|⟨d,_|⟨e,r⟩⟩⟩⟩⟩<;>rfl
def aem:jO Tryz.prog 220 Tx:=by
 intro G x y hF w vals hG hAL;obtain⟨v,rfl,us,hus,hv⟩:=hAL;change List Int at x;obtain⟨base,cap,rfl,hcap,hcase⟩:=hus;have hv:v=.slice base (x:List Int).length cap:=hv;subst hv;have hy:y=((x:List Int).getD 0 0,(x:List Int).getD 1 0,(x:List Int).getD 2 0,(x:List Int).getD 3 0,(x:List Int).getD 4 0):=(Option.some.inj hF).symm;refine⟨⟨Tryz.f220,_,Tryz.func220,rfl⟩,?_⟩
 have hcopy:∀W:World,(∀b,b<w.heap.size→W.heap[b]?=w.heap[b]?)→W.heap[w.heap.size+1]?=some (.cells #[.int .i64 0,.int .i64 0,.int .i64 0,.int .i64 0,.int .i64 0] 250 (0,0)) →
  (Builtin.copy_ #[51,51] 3 #[.slice (some ⟨w.heap.size+1,0,none⟩) 5 5,.slice base (x:List Int).length cap]).run Tryz.prog W=.ok (.int .i64 ((((x:List Int).take 5).map (Value.int .i64 ·)).length:Nat)) (W.setRow (w.heap.size+1) #[.int .i64 ((x:List Int).getD 0 0),.int .i64 ((x:List Int).getD 1 0),.int .i64 ((x:List Int).getD 2 0),.int .i64 ((x:List Int).getD 3 0),.int .i64 ((x:List Int).getD 4 0)]):=by
  intro W hlow hcell;rcases hcase with h0|⟨b,off,rfl,hGb,hb,hcs⟩
  ·have h0:x=([]:List Int):=h0;subst h0;rw[run_copy_none W 51 51 3 3 _ _ 5 5 _ _ (by kernel_rfl) (by kernel_rfl) (by simp)];exact congrArg _ (setRow_self W _ _ 250 (0,0) hcell).symm
  ·have:=run_copy_row Tryz.prog W 51 51 3 3 (w.heap.size+1) 0 5 5 ⟨b,off,none⟩ (x:List Int).length cap _ 250 (((x:List Int).take 5).map (Value.int .i64 ·)) (by kernel_rfl) (by kernel_rfl) hcell (by simp[Nat.min_comm]) (fun j u hj=>by
    rw[ej] at hj
    cases hx:((x:List Int).take 5)[j]? with
    |none=>rw[hx] at hj; cases hj
    |some n =>
     rw[hx] at hj;cases hj
     have hx2:(x:List Int)[j]?=some n:=by
      rw[dI] at hx
      split at hx
      ·exact hx
      ·cases hx
     obtain⟨us,q1,q2⟩:=hcs j n hx2;have q1:us=[.int .i64 n]:=q1;subst q1;have q3:=q2 0 _ rfl
     have ha:(⟨b,off,none⟩:Addr).add j=⟨b,off+j,none⟩:=by unfold Addr.add; split<;>simp_all
     rw[ha,World.cell?_of_block (w:=w) (by exact hlow b hb)]
     simpa[Ty.size] using q3) (by simp; omega) (fun u hu=>by
    obtain⟨n,_,rfl⟩:=dj.1 hu
    rfl)
   rw[ahB] at this;exact this
 refine(afv _ w _ _ _ _ _ _ hcopy).mono fun e w' h=>?_;obtain⟨rfl,h1,h2,h3,h4,h5⟩:=h;refine⟨_,rfl,?_,h1,h2,h3,h4,h5⟩;subst hy;exact⟨[.int .i64 _,.int .i64 _,.int .i64 _,.int .i64 _,.int .i64 _],⟨[_],_,rfl,rfl,[_],_,rfl,rfl,[_],_,rfl,rfl,[_],_,rfl,rfl,rfl⟩,rfl⟩
end Go.Proofs.ZzM
end

noncomputable section
set_option maxRecDepth 100000
namespace Go.Proofs.ZzM
open Go Go.Am
def abt:ZP 15 OD:=zt (qA _) Å rfl (Á HE (Á HD Å)) fun x=>MQ x some
def aeD:ZP 269 TL:=zt (BX _) (Á uq (Á Cb (Á EL Å))) rfl (Á Lh Å) fun x=>RA x some
def agw:ZP 226 Zf:=zt (Pa _) (Á Z3 (Á aeD Å)) rfl Å fun x=>U7 x some
def aeo:ZP 156 TA:=zt (j7 _) (Á agw Å) rfl (Á J5 (Á J4 (Á J3 (Á J2 (Á J1 Å))))) fun x=>Qu x some
def jL:ZP 80 iP:=zt (uQ _) (Á uq (Á aeo Å)) rfl (Á Kk (Á Kl Å)) fun x=>QJ x some
def jb:ZP 135 ű:=zt (ŝ _) Å rfl (Á kS Å) fun x=>mq x some
def VS:ZP 147 GW:=zt (AU _) (Á jb Å) rfl Å fun x=>Il x some
def agu:ZP 247 Zd:=zt (yS _) (Á kv Å) rfl (Á NN (Á NM Å)) fun x=>UP x some
def Ir:ZP 261 we:=zt (rl _) Å rfl Å fun x=>zM x some
def yA:ZP 264 sJ:=zt (BI _) (Á EK Å) rfl (Á KN Å) fun x=>Q5 x some
def Mj:ZP 312 Bf:=zt (DA _) (Á Z0 (Á aey Å)) rfl Å fun x=>KQ x some
def aii:ZP 296 acG:=zt (UD _) (Á yA (Á Mj Å)) rfl Å fun x=>Xw x some
def Ss:ZP 262 CC:=zt (xY _) (Á aii Å) rfl Å fun x=>FX x some
def Yi:ZP 320 WP:=zt (UB _) Å rfl Å fun x=>Xt x some
def A4:ZP 313 Ab:=zt (wn _) (Á yA (Á Yi Å)) rfl Å fun x=>DC x some
def aeA:ZP 316 acH:=zt (UF _) (Á yA (Á Mj Å)) rfl Å fun x=>Xz x some
def aez:jO Tryz.prog 297 TI:=acA (BK _) (UE _) (fun {_}=>B4 (Á EK (Á A4 (Á aeA (Á Yi Å)))) (BK _) rfl rfl rfl rfl rfl (ŏ rfl) (lB rfl) (iI rfl)) (fun {_}=>libN (Á EK (Á A4 (Á aeA (Á Yi Å)))) _) rfl hmix (tab:=vg _) rfl Å (us:=Ha) rfl (Á (by kernel_rfl) Å) (oY fun x=>Rc x some)
def Sr:ZP 263 CB:=zt (xX _) (Á aez Å) rfl Å fun x=>FV x some
def abx:ZP 215 OI:=zt (He _) (Á Cb (Á I1 (Á Ir (Á Ss (Á Sr Å))))) rfl Å fun x=>NX x some
def aeC:ZP 216 TK:=zt (Lf _) Å rfl Å fun x=>Rv x some
def VQ:ZP 265 Jt:=zt (KS _) Å rfl Å fun x=>Q9 x some
def ags:ZP 217 Zb:=zt (O7 _) (Á yA (Á VQ Å)) rfl Å fun x=>UI x some
def aeB:ZP 218 TJ:=zt (KX _) (Á yA (Á VQ Å)) rfl Å fun x=>Rf x some
def agt:ZP 248 Zc:=zt (O8 _) (Á abx (Á aeC (Á ags (Á aeB Å)))) rfl Å fun x=>UK x some
def Z1:ZP 132 P5:=zt (tR _) (Á Ml (Á VS (Á I1 (Á Z2 (Á agu (Á agt Å)))))) rfl (Á NK (Á NL (Á NJ Å))) fun x=>UN x some
def un:ZP 66 oZ:=zt (Hf _) (Á uq (Á Z1 Å)) rfl Å fun x=>N2 x some
def Sl:ZP 105 Jq:=zt (JN _) (Á uj Å) rfl (Á Qk Å) fun x=>WY x some
def Mg:ZP 183 wW:=zt (me _) (Á Sl Å) rfl (Á xl Å) fun x=>Bs x some
def jm:jO Tryz.prog 104 ik:=YZ (ų _) (fun {_}=>B4 (Á Sl (Á Mg Å)) (ų _) rfl rfl rfl rfl rfl (ŏ rfl) (lB rfl) (iI rfl)) hmix (tab:=sP _) rfl (Á Bq (Á Bp (Á Bo (Á Bn Å)))) (oY fun x=>Ft x some)
def ZZ:ZP 196 P3:=zt (OY _) Å rfl Å fun x=>Un x some
def yz:ZP 126 sI:=zt (BH _) (Á ZZ Å) rfl (Á KJ Å) fun x=>Q0 x some
def rS:ZP 127 mV:=zt (Ω _) Å rfl (Á Dp (Á Dn (Á Dl (Á Dm (Á Dk Å))))) fun x=>H9 x some
def Od:ZP 155 zZ:=zt (wj _) (Á yz (Á rS Å)) rfl Å fun x=>Dw x some
def yx:ZP 79 qu:=zt (Ar _) (Á un (Á jm (Á Od Å))) rfl Å fun x=>HP x some
def abu:ZP 116 OE:=zt (qF _) Å rfl (Á HI (Á HJ Å)) fun x=>MT x some
def Mk:ZP 234 wX:=zt (tQ _) Å rfl Å fun x=>BM x some
def uk:ZP 180 mc:=zt (pO _) (Á Mk Å) rfl Å fun x=>xW x some
def PG:ZP 179 Fe:=zt (G4 _) (Á abu (Á uk Å)) rfl Å fun x=>MZ x some
def oS:XOk Tryz.prog 273 (.row Ā):=PV (r:=Ā) (ò _) (fun {_}=>B4 (Á PG Å) (ò _) rfl rfl rfl rfl rfl (ŏ rfl) (lB rfl) (iI rfl)) hmix (tab:=ζ _) rfl (Á kz (Á kB Å)) (fun xs x m=>lG xs x m some)
def yy:XOk Tryz.prog 300 (.row ī):=PV (r:=ī) (û _) (fun {_}=>B4 Å (û _) rfl rfl rfl rfl rfl (ŏ rfl) (lB rfl) (iI rfl)) hmix (tab:=jE _) rfl (Á pI (Á pH (Á pJ (Á pG Å)))) (fun xs x m=>sf xs x m some)
def oR {rec:(Val (.slice (.slice (.slice tI))))→Int→Int→Int→(Val Â)→Option ((Val (.slice (.slice (.slice tI))))×(Val Â))} (hrec:XOk Tryz.prog 274 (.row ⟨(.slice (.slice tI)),[tI,tI,tI],179,Â,fun(xs:(Val (.slice (.slice (.slice tI))))) (x:Val ŕ) (m:Val Â)=>rec xs x.1 x.2.1 x.2.2 m⟩)):XOk Tryz.prog 274 (.row ⟨(.slice (.slice tI)),[tI,tI,tI],179,Â,fun(xs:(Val (.slice (.slice (.slice tI))))) (x:Val ŕ) (m:Val Â)=>ġ rec xs x.1 x.2.1 x.2.2 m some⟩):=PV (r:=⟨(.slice (.slice tI)),[tI,tI,tI],179,Â,fun(xs:(Val (.slice (.slice (.slice tI))))) (x:Val ŕ) (m:Val Â)=>ġ rec xs x.1 x.2.1 x.2.2 m some⟩) (Æ rec _) (fun {_}=>B4 (Á PG Å) (Æ rec _) rfl rfl rfl rfl rfl (ŏ rfl) (Sb (Á hrec (Á yy Å)) rfl) (iI rfl)) hmix (tab:=iT rec _) rfl (Á od (Á oc (Á ob (Á oa (Á nZ Å))))) (fun xs x m=>pC _ xs x m some)
def ja:∀n:Nat,XOk Tryz.prog 274 (.row ⟨(.slice (.slice tI)),[tI,tI,tI],179,Â,fun(xs:(Val (.slice (.slice (.slice tI))))) (x:Val ŕ) (m:Val Â)=>ğ n xs x.1 x.2.1 x.2.2 m⟩)
 |0=>agE.mk (by intro _ _ _ _ _ _ h; cases h)
 |n+1=>oR (ja n)
def vT:XOk Tryz.prog 274 (.row kG):=ja 100
def nV:XOk Tryz.prog 233 (.row ĝ):=PV (r:=ĝ) (ď _) (fun {_}=>B4 Å (ď _) rfl rfl rfl rfl rfl (ŏ rfl) (Sb (Á oS (Á vT Å)) rfl) (iI rfl)) hmix (tab:=jD _) rfl (Á pF (Á pD (Á pE Å))) (fun xs x m=>se xs x m some)
def ZY:jO Tryz.prog 81 P2:=Jj (χ _) (fun {_}=>B4 (Á yx Å) (χ _) rfl rfl rfl rfl rfl (ŏ rfl) (Sb (Á nV Å) rfl) (iI rfl)) hmix (tab:=G7 _) rfl (Á Nh (Á Ng Å)) (rtab:=J7 _) rfl (Á (Nf L9) Å) (Á Nd Å) (oY fun x=>T9 x some)
def aes:ZP 19 WN:=zt (Uj _) (Á jL (Á ZY Å)) rfl Å fun x=>Xf x some
def EI:jO Tryz.prog 96 yK:=Jj (je _) (fun {_}=>B4 Å (je _) rfl rfl rfl rfl rfl (ŏ rfl) (Sb (Á nV Å) rfl) (iI rfl)) hmix (tab:=G3 _) rfl Å (rtab:=JP _) rfl (Á (MX L9) Å) (Á MW Å) (oY fun x=>T3 x some)
def vS:ZP 82 ow:=zt (pw _) (Á yx (Á EI Å)) rfl (Á Bz Å) fun x=>Fw x some
def aer:ZP 20 TC:=zt (Ki _) (Á jL (Á vS Å)) rfl Å fun x=>QD x some
def EJ:ZP 35 uC:=zt (pM _) Å rfl (Á BD Å) fun x=>FH x some
def VO:ZP 26 GV:=zt (sg _) (Á EJ Å) rfl (Á Dh Å) fun x=>H6 x some
def Mh:ZP 88 Cw:=zt (Bx _) Å rfl (Á JT Å) fun x=>Qr x some
def aby:ZP 91 OJ:=zt (Hg _) (Á I1 (Á PJ Å)) rfl Å fun x=>N5 x some
def Sn:ZP 28 Cy:=zt (kO _) (Á jL (Á vS (Á Mh (Á aby (Á π Å))))) rfl (Á BB (Á BA Å)) fun x=>FA x some
def ZX:ZP 87 P1:=zt (yN _) (Á π Å) rfl (Á M4 (Á M3 Å)) fun x=>T5 x some
def agp:ZP 29 Y8:=zt (yO _) (Á jL (Á vS (Á ZX (Á lD Å)))) rfl (Á Np (Á No Å)) fun x=>Uh x some
def abw:ZP 98 OH:=zt (xx _) Å rfl (Á HS Å) fun x=>Nj x some
def VM:ZP 30 GS:=zt (ĺ _) (Á yx (Á jL (Á ZX (Á EI (Á abw (Á uk Å)))))) rfl (Á Da (Á Db (Á C9 (Á C8 (Á C6 (Á C5 (Á C4 (Á C7 Å)))))))) fun x=>HW x some
def ago:ZP 40 Y7:=zt (OX _) (Á jL (Á EI Å)) rfl Å fun x=>Ud x some
def VT:ZP 68 Jv:=zt (Lj _) (Á uq (Á jb (Á Ml Å))) rfl Å fun x=>RE x some
def Z4:ZP 69 P9:=zt (F8 _) (Á uq Å) rfl (Á N3 Å) fun x=>U0 x some
def VP:ZP 133 Js:=zt (BG _) (Á yz (Á rS (Á ZZ Å))) rfl (Á Kv Å) fun x=>QQ x some
def PI:ZP 134 Fg:=zt (iY _) Å rfl (Á Ig (Á If (Á Ie (Á Ib (Á Ic Å))))) fun x=>Nv x some
def aeu:ZP 185 TE:=zt (vd _) (Á VP (Á PI Å)) rfl (Á Ky (Á Kx Å)) fun x=>QS x some
def abv:ZP 106 OG:=zt (G5 _) (Á un (Á VT (Á Z4 (Á aeu Å)))) rfl Å fun x=>M6 x some
def PH:ZP 42 Ff:=zt (qX _) (Á jL (Á ZY (Á Mh (Á jm (Á Sl (Á abv Å)))))) rfl (Á HY (Á HX Å)) fun x=>Nn x some
def aen:jO Tryz.prog 154 Tz:=Jj (Φ _) (fun {_}=>B4 (Á aem Å) (Φ _) rfl rfl rfl rfl rfl (ŏ rfl) (lB rfl) (iI rfl)) hmix (tab:=CX _) rfl (Á JZ Å) (rtab:=G6 _) rfl (Á (JY aej) Å) (Á JX Å) (oY fun x=>Qs x some)
def Mi:ZP 78 Cx:=zt (Kc _) (Á jL (Á aen Å)) rfl Å fun x=>Qy x some
def aep:ZP 49 WM:=zt (Ub _) (Á Mi (Á Mh (Á Sl Å))) rfl Å fun x=>Xa x some
def aet:ZP 128 TD:=zt (FM _) Å rfl (Á Xm (Á Xk (Á Xj (Á Xl Å)))) fun x=>ac5 x some
def aew:ZP 64 TG:=zt (j9 _) (Á yz (Á rS (Á aet Å))) rfl (Á KI (Á KC (Á KD (Á KE (Á KH Å))))) fun x=>QY x some
def aeq:ZP 59 TB:=zt (BC _) (Á aew (Á un (Á jL (Á EI (Á jm Å))))) rfl (Á Kg Å) fun x=>QB x some
def Yh:ZP 188 Jr:=zt (uX _) Å rfl (Á FL Å) fun x=>Ks x some
def agq:ZP 189 Y9:=zt (FI _) Å rfl (Á Ns Å) fun x=>Ul x some
def Oe:ZP 122 Aa:=zt (wm _) (Á yz (Á Yh (Á agq Å))) rfl Å fun x=>Dz x some
def Oc:ZP 60 zY:=zt (nY _) (Á un (Á jL (Á EI (Á jm (Á Oe Å))))) rfl (Á zI Å) fun x=>Dg x some
def VL:ZP 77 GR:=zt (Ae _) Å rfl Å fun x=>HG x some
def Yg:ZP 17 Jp:=zt (CL _) (Á aes (Á aer (Á VO (Á Sn (Á agp (Á VM (Á EJ (Á ago (Á PH (Á aep (Á aeq (Á Oc (Á VL Å))))))))))))) rfl Å fun x=>JL x some
def Sq:ZP 41 Cz:=zt (xy _) (Á Mi (Á jm Å)) rfl Å fun x=>FC x some
def Gw:ZP 146 sK:=zt (ka _) (Á kv Å) rfl (Á vn Å) fun x=>ya x some
def agr:ZP 219 Za:=zt (yQ _) (Á yz Å) rfl (Á NA (Á Nz Å)) fun x=>Us x some
def Og:ZP 153 Ac:=zt (wq _) (Á agr Å) rfl Å fun x=>DI x some
def agv:ZP 76 Ze:=zt (O9 _) (Á uq (Á Z1 (Á Gw (Á Og Å)))) rfl Å fun x=>U5 x some
def VN:ZP 61 GU:=zt (Ax _) (Á agv (Á Mi (Á jm Å))) rfl Å fun x=>H4 x some
def aex:ZP 139 TH:=zt (KL _) (Á VP (Á PI Å)) rfl Å fun x=>Q3 x some
def aev:ZP 70 TF:=zt (KA _) (Á rS (Á aex Å)) rfl Å fun x=>QU x some
def c_w7_SwapEnds:ZP 13 ov:=zt (kK _) (Á abt (Á Yg (Á aes (Á Sq (Á PH (Á aep (Á VN (Á un (Á VT (Á Z4 (Á aev Å))))))))))) rfl (Á Bk (Á Bl Å)) fun x=>Fp x some
end Go.Proofs.ZzM
end
