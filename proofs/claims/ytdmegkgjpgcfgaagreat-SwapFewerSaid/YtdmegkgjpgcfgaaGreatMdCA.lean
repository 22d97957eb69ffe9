/- lemmas -/
import Derived.Test.YtdmegkgjpgcfgaaGreatAmD
import Derived.Test.YtdmegkgjpgcfgaaGreatAmE
import Derived.Ground.NamesProg
import Derived.Ground.Names2Prog
import Derived.KernelRfl
import Derived.Test.YtdmegkgjpgcfgaaGreatMdMA
import Derived.Test.YtdmegkgjpgcfgaaGreatMdKC
import Derived.Test.YtdmegkgjpgcfgaaGreatMdPA
import Derived.RangeFuncBox
import Derived.Lib.SliceRun
import Derived.RangeFuncLeaves
import Derived.WalkKit
import Derived.OwnWalkIn
import Derived.TacticsInMore
import Derived.LoopNIn
import Derived.LoopIn
import Derived.Test.YtdmegkgjpgcfgaaGreatProg
import Derived.RangeFuncFrom
import Derived.RangeFuncRecord
import Derived.Laws.CopyRow
import Derived.Laws.IdiomCopy
import Derived.Test.YtdmegkgjpgcfgaaGreatAmA
import Derived.Test.YtdmegkgjpgcfgaaGreatMdKB
import Derived.Test.YtdmegkgjpgcfgaaGreatMdKA
set_option linter.all false
set_option linter.unusedSectionVars false
set_option linter.unusedVariables false
set_option linter.unusedSimpArgs false
noncomputable section
namespace Go.Proofs
open Go.Shelf
def Tryz.laysSort_ren:Go.Shelf.Ren:=⟨fun|189=>184|125=>236|257=>235|128=>284|129=>285|294=>275|295=>276|296=>277|297=>278|298=>279|299=>280|216=>281|300=>282|301=>283|328=>301|329=>302|330=>303|331=>304|332=>305|215=>234|343=>318|n=>n,fun|28=>51|3=>3|46=>148|0=>0|51=>307|53=>309|4=>4|183=>300|182=>299|131=>256|5=>5|9=>9|218=>328|222=>332|228=>342|229=>343|n=>n,fun|n=>n⟩
def Tryz.laysSort:Go.Proofs.Lays.n189 Tryz.prog Tryz.laysSort_ren:={
 mixed:=by kernel_rfl
 f125:=Tryz.func236.trans (congrArg some (by kernel_rfl))
 f128:=Tryz.func284.trans (congrArg some (by kernel_rfl))
 f129:=Tryz.func285.trans (congrArg some (by kernel_rfl))
 f189:=Tryz.func184.trans (congrArg some (by kernel_rfl))
 f215:=Tryz.func234.trans (congrArg some (by kernel_rfl))
 f216:=Tryz.func281.trans (congrArg some (by kernel_rfl))
 f257:=Tryz.func235.trans (congrArg some (by kernel_rfl))
 f294:=Tryz.func275.trans (congrArg some (by kernel_rfl))
 f295:=Tryz.func276.trans (congrArg some (by kernel_rfl))
 f296:=Tryz.func277.trans (congrArg some (by kernel_rfl))
 f297:=Tryz.func278.trans (congrArg some (by kernel_rfl))
 f298:=Tryz.func279.trans (congrArg some (by kernel_rfl))
 f299:=Tryz.func280.trans (congrArg some (by kernel_rfl))
 f300:=Tryz.func282.trans (congrArg some (by kernel_rfl))
 f301:=Tryz.func283.trans (congrArg some (by kernel_rfl))
 f328:=Tryz.func301.trans (congrArg some (by kernel_rfl))
 f329:=Tryz.func302.trans (congrArg some (by kernel_rfl))
 f330:=Tryz.func303.trans (congrArg some (by kernel_rfl))
 f331:=Tryz.func304.trans (congrArg some (by kernel_rfl))
 f332:=Tryz.func305.trans (congrArg some (by kernel_rfl))
 f343:=Tryz.func318.trans (congrArg some (by kernel_rfl))
 t0:=Tryz.underlying0
 a0:=Tryz.isAgg0
 z0:=Tryz.sizeOf0
 v0:=Tryz.zeroValue0
 t3:=Tryz.underlying3
 a3:=Tryz.isAgg3
 z3:=Tryz.sizeOf3
 v3:=Tryz.zeroValue3
 t4:=Tryz.underlying4
 a4:=Tryz.isAgg4
 z4:=Tryz.sizeOf4
 v4:=Tryz.zeroValue4
 t5:=Tryz.underlying5
 a5:=Tryz.isAgg5
 z5:=Tryz.sizeOf5
 v5:=Tryz.zeroValue5
 t9:=Tryz.underlying9
 a9:=Tryz.isAgg9
 z9:=Tryz.sizeOf9
 v9:=Tryz.zeroValue9
 t28:=Tryz.underlying51
 a28:=Tryz.isAgg51
 z28:=Tryz.sizeOf51
 v28:=Tryz.zeroValue51
 t46:=Tryz.underlying148
 a46:=Tryz.isAgg148
 z46:=Tryz.sizeOf148
 v46:=Tryz.zeroValue148
 t51:=Tryz.underlying307
 a51:=Tryz.isAgg307
 z51:=Tryz.sizeOf307
 v51:=Tryz.zeroValue307
 t53:=Tryz.underlying309
 a53:=Tryz.isAgg309
 z53:=Tryz.sizeOf309
 v53:=Tryz.zeroValue309
 t131:=Tryz.underlying256
 a131:=Tryz.isAgg256
 z131:=Tryz.sizeOf256
 v131:=Tryz.zeroValue256
 t182:=Tryz.underlying299
 a182:=Tryz.isAgg299
 z182:=Tryz.sizeOf299
 v182:=Tryz.zeroValue299
 t183:=Tryz.underlying300
 a183:=Tryz.isAgg300
 z183:=Tryz.sizeOf300
 v183:=Tryz.zeroValue300
 t218:=Tryz.underlying328
 a218:=Tryz.isAgg328
 z218:=Tryz.sizeOf328
 v218:=Tryz.zeroValue328
 t222:=Tryz.underlying332
 a222:=Tryz.isAgg332
 z222:=Tryz.sizeOf332
 v222:=Tryz.zeroValue332
 t228:=Tryz.underlying342
 a228:=Tryz.isAgg342
 z228:=Tryz.sizeOf342
 v228:=Tryz.zeroValue342
 t229:=Tryz.underlying343
 a229:=Tryz.isAgg343
 z229:=Tryz.sizeOf343
 v229:=Tryz.zeroValue343}
def Tryz.laysCompact_ren:Go.Shelf.Ren:=⟨fun|20=>249|n=>n,fun|22=>51|3=>3|4=>4|0=>0|n=>n,fun|n=>n⟩
def Tryz.laysCompact:Go.Proofs.Lays2.n20 Tryz.prog Tryz.laysCompact_ren:={
 mixed:=by kernel_rfl
 f20:=Tryz.func249.trans (congrArg some (by kernel_rfl))
 t0:=Tryz.underlying0
 a0:=Tryz.isAgg0
 z0:=Tryz.sizeOf0
 v0:=Tryz.zeroValue0
 t3:=Tryz.underlying3
 a3:=Tryz.isAgg3
 z3:=Tryz.sizeOf3
 v3:=Tryz.zeroValue3
 t4:=Tryz.underlying4
 a4:=Tryz.isAgg4
 z4:=Tryz.sizeOf4
 v4:=Tryz.zeroValue4
 t22:=Tryz.underlying51
 a22:=Tryz.isAgg51
 z22:=Tryz.sizeOf51
 v22:=Tryz.zeroValue51
 i3:=by kernel_rfl}
end Go.Proofs
namespace Go.Proofs.ZzM
open Go Go.Am
def hmix:Tryz.prog.follows .mixedOrders=true:=by kernel_rfl
def plain_ : (Tryz.prog.funcs.toList.all fun fn => !(fn.name == "runtime.NumGoroutine")) = true := by kernel_rfl
def plain (f : Nat) (fn : Func) (h : Tryz.prog.funcs[f]? = some fn) : (fn.name == "runtime.NumGoroutine") = false := by
 have:=dh.1 plain_ fn (cN (i:=f) (by simpa using h));simpa using this
def agw:Tryz.laysSort_ren.f 189=184:=by kernel_rfl
def Zu:Tryz.laysCompact_ren.f 20=249:=by kernel_rfl
section
variable [Ghost] {ρ:Type}
def sortOk (f:Nat) (hf:OI f=true) (h:List Blk) (x:AV) (K:AV→List Blk→Option ρ) (q:ρ) (e:Pf h x K=some q) (ν:Nat→Value) (w:World) (u:Value) (H:HR ν h w) (hx:VR ν h w x u):Es Tryz.prog f ν h w [u] K q:=by
 have h1:f=184:=by
  unfold OI at hf
  split at hf
  ·rfl
  ·cases hf
 subst h1;have:=agl Tryz.laysSort e H hx ⟨_,rfl⟩
 rwa [agw] at this
def ac0 (f:Nat) (hf:tC f=true) (h:List Blk) (x:AV) (K:AV→List Blk→Option ρ) (q:ρ) (e:oF h x K=some q) (ν:Nat→Value) (w:World) (u:Value) (H:HR ν h w) (hx:VR ν h w x u):Es Tryz.prog f ν h w [u] K q:=by
 have h1:f=249:=by
  unfold tC at hf
  split at hf
  ·rfl
  ·cases hf
 subst h1;have:=aac Tryz.laysCompact e H hx ⟨_,rfl⟩
 rwa [Zu] at this
def ag6:Ge Tryz.prog FO:=by
 intro g hg fz S nid x v S' e ν w u H hx hn hd;unfold FO at hg
 split at hg
 ·exact rz Tryz.func114 (T:=31) (by kernel_rfl) (by kernel_rfl) e H hx hn hd
 ·exact rz Tryz.func115 (T:=51) (by kernel_rfl) (by kernel_rfl) e H hx hn hd
 ·exact rz Tryz.func140 (T:=103) (by kernel_rfl) (by kernel_rfl) e H hx hn hd
 ·exact rz Tryz.func170 (T:=27) (by kernel_rfl) (by kernel_rfl) e H hx hn hd
 ·exact rz Tryz.func182 (T:=24) (by kernel_rfl) (by kernel_rfl) e H hx hn hd
 ·exact rz Tryz.func250 (T:=25) (by kernel_rfl) (by kernel_rfl) e H hx hn hd
 ·exact rz Tryz.func251 (T:=26) (by kernel_rfl) (by kernel_rfl) e H hx hn hd
 ·exact rz Tryz.func252 (T:=28) (by kernel_rfl) (by kernel_rfl) e H hx hn hd
 ·cases hg
def zx {pt:List (Nat×ä)} (h:∀e∈pt,jv Tryz.prog e.1 e.2) (E:Env ρ) (hP:E.P=Tryz.prog) (h1:E.pure=WY pt) (h2:E.sort=OI) (h3:E.compact=tC) (h4:E.clone=FO) (hj:Vg E) (hx:∀f X,E.ext f=some X→aaB E.P f X) (hy:jO E):Ep E:=by
 constructor
 ·intro f p hf;rw[h1] at hf;rw[hP];exact h (f,p) (OV hf)
 ·intro f hf;rw[h2] at hf;rw[hP];exact sortOk f hf
 ·intro f hf;rw[h3] at hf;rw[hP];exact ac0 f hf
 ·rw[hP]; exact plain
 ·rw[hP,h4]; exact ag6
 ·exact hj
 ·exact hy
 ·exact hx
def libN {pt:List (Nat×ä)} (h:∀e∈pt,jv Tryz.prog e.1 e.2) (tab:List (á ρ)):Ep (ë pt tab):=zx h _ rfl rfl rfl rfl rfl (ŏ rfl) (jY rfl) (g8 rfl)
end
abbrev ZP (f:Nat) (p:ä):Prop:=jv Tryz.prog f p
def zt {f:Nat} {p:ä} {pt:List (Nat×ä)} {tab:List (á (Val (tyL p.rs)))} (E:Env (Val (tyL p.rs))) (hc:∀e∈pt,jv Tryz.prog e.1 e.2) (hE:E=ë pt tab) (hok:∀x∈tab,x.Ok E) (law:∀x:Val (tyL p.ts),topK E f (W6 p.ts x) (fun h v=>Ã (agv p.rs h v) some)=p.F x):jv Tryz.prog f p:=by
 subst hE;exact Po (ë pt tab) (fun {_}=>libN hc _) hmix (tab:=tab) rfl hok (lV law)
end Go.Proofs.ZzM
end

noncomputable section
set_option maxRecDepth 100000
namespace Go.Proofs.ZzM
open Go Go.Am
def lr:ZP 93 iI:=zt (δ _) Å rfl (Á s7 (Á sZ Å)) fun x=>vY x some
def ND {n:Nat} (hr:jP Tryz.prog ⟨272,(.slice tI),(.slice tI),Vm n⟩):jP Tryz.prog ⟨272,(.slice tI),(.slice tI),Vm (n+1)⟩:=Rc ⟨272,(.slice tI),(.slice tI),Vm (n+1)⟩ (fun al=>þ al (Vm n) _) rfl (fun _=>rfl) (fun _=>rfl) (fun _ {_} hy=>zx (Á lr Å) _ rfl rfl rfl rfl rfl (ŏ rfl) (jY rfl) hy) hmix (fun al=>DH (E:=þ al (Vm n) _) hmix (tab:=vH al (Vm n) _) rfl (Á Cw Å) (rtab:=wW al (Vm n) _) rfl (Á (Cv hr) Å) (Á Cu Å)) (fun m xs h=>(Hg m (Vm (n+1))).trans (abC h))
def Ef:∀n:Nat,jP Tryz.prog ⟨272,(.slice tI),(.slice tI),Vm n⟩
 |0=>⟨rfl,fun _ _ m xs h=>(Nat.not_lt_zero _ (XW (n:=0) (l:=m) (xs:=xs) h).1).elim⟩
 |n+1=>ND (Ef n)
def adc:jP Tryz.prog KS:=(Ef 10).mono fun _ _ h=>Zz h
def HS {n:Nat} (hr:jP Tryz.prog ⟨231,(.slice Ğ),(.slice (.slice tI)),Vn n⟩):jP Tryz.prog ⟨231,(.slice Ğ),(.slice (.slice tI)),Vn (n+1)⟩:=Rc ⟨231,(.slice Ğ),(.slice (.slice tI)),Vn (n+1)⟩ (fun al=>ê al (Vn n) _) rfl (fun _=>rfl) (fun _=>rfl) (fun _ {_} hy=>zx Å _ rfl rfl rfl rfl rfl (ŏ rfl) (jY rfl) hy) hmix (fun al=>DH (E:=ê al (Vn n) _) hmix (tab:=qE al (Vn n) _) rfl Å (rtab:=sn al (Vn n) _) rfl (Á (zi hr) (Á (zm adc) Å)) (Á zh (Á zl Å))) (fun m xs h=>(CH m (Vn (n+1))).trans (Xf h))
def yb:∀n:Nat,jP Tryz.prog ⟨231,(.slice Ğ),(.slice (.slice tI)),Vn n⟩
 |0=>⟨rfl,fun _ _ m xs h=>(Nat.not_lt_zero _ (XX (n:=0) (l:=m) (xs:=xs) h).1).elim⟩
 |n+1=>HS (yb n)
def Lx:jP Tryz.prog pF:=(yb 10).mono fun _ _ h=>US h
def adb:jP Tryz.prog DK:=Rc DK (fun al=>ć al (fun _=>none) _) rfl (fun _=>rfl) (fun _=>rfl) (fun _ {_} hy=>zx Å _ rfl rfl rfl rfl rfl (ŏ rfl) (jY rfl) hy) hmix (fun _=>If hmix rfl (Á pY Å) rfl) (fun m xs h=>(sW m yE).trans (aaR h))
def tO:ZP 173 lW:=zt (j8 _) Å rfl (Á uC Å) fun x=>xo x some
def Š:ZP 92 Ń:=zt (lN _) (Á tO Å) rfl Å fun x=>sY x some
def YU:ZP 201 Pw:=zt (yB _) (Á Š Å) rfl (Á Nt (Á Ns Å)) fun x=>Uh x some
def LJ:ZP 136 Cg:=zt (uQ _) (Á YU Å) rfl (Á Ks (Á Kt Å)) fun x=>QG x some
def yX:ZP 141 si:=zt (GJ _) Å rfl Å fun x=>Np x some
def mz:ZP 212 ke:=zt (GI _) Å rfl Å fun x=>M9 x some
def Em:ZP 205 wG:=zt (Kz _) (Á mz Å) rfl Å fun x=>QN x some
def YT:ZP 291 Pv:=zt (Ox _) Å rfl Å fun x=>TU x some
def ado:ZP 292 VN:=zt (Ke _) Å rfl (Á Qu Å) fun x=>Ws x some
def El:ZP 253 Cd:=zt (Ki _) (Á YT (Á ado Å)) rfl Å fun x=>Qy x some
def Xm:ZP 203 I0:=zt (Dy _) (Á yX (Á Em (Á mz (Á El Å)))) rfl Å fun x=>Ky x some
def LK:ZP 142 wH:=zt (mi _) (Á Xm Å) rfl (Á xM Å) fun x=>By x some
def BK:ZP 143 ue:=zt (uN _) Å rfl (Á Ft Å) fun x=>Ko x some
def sd:ZP 206 mD:=zt (vN _) Å rfl Å fun x=>Di x some
def Xl:ZP 204 VP:=zt (Dj _) (Á Em (Á sd Å)) rfl Å fun x=>Kr x some
def RG:ZP 208 Px:=zt (kZ _) (Á yX (Á sd (Á mz Å))) rfl (Á Bw (Á Bv Å)) fun x=>FD x some
def Ir:ZP 148 Ch:=zt (yA _) (Á Š Å) rfl (Á Nj (Á Ni Å)) fun x=>Ud x some
def O7:ZP 172 EJ:=zt (xL _) (Á mz Å) rfl (Á HN Å) fun x=>Nl x some
def YV:ZP 259 Py:=zt (FE _) (Á mz Å) rfl (Á Nu Å) fun x=>Uj x some
def HU:ZP 209 G6:=zt (Ś _) (Á lr (Á yX (Á Ir (Á O7 (Á Em (Á sd (Á mz (Á YV Å)))))))) rfl (Á wg (Á wd (Á we (Á vZ Å)))) fun x=>zw x some
end Go.Proofs.ZzM
end

noncomputable section
namespace Go.Proofs
open Go.RowKit
attribute [local go_sem] Oper.semAt_some
def upE (f:Nat→Int) (k:Nat):List Int:=(List.range k).map f
def pZ (f:Nat→Int) (k:Nat):upE f (k+1)=upE f k++[f k]:=by simp[upE,fI]
def yo (f:Nat→Int) (k:Nat):(upE f k).length=k:=by simp[upE]
def HW (f:Nat→Int) {j k:Nat} (h:j≤k):upE f j <+: upE f k:=by
 have:k=j+(k-j):=by omega
 rw[this,upE,upE,List.range_add,fo];exact dO _ _
set_option maxRecDepth 100000 in
set_option maxHeartbeats 1000000 in
def aep (te:TypeId) (n:Nat) (hn:1≤n) (l n₀ bb tb sb:Nat) (flo fhi ga mv:Value) (hbb:bb<n₀) (htb:tb<n₀) (hsb:sb<n₀)
 (ub uo ul uc kb ko kl kc:Nat) (ubase kbase lbase cbase:Option Addr) (ll lc cl cc:Nat) (hub:0<ul→ubase=some ⟨ub,uo,none⟩∧ub<n₀) (hkb:0<kl→kbase=some ⟨kb,ko,none⟩∧kb<n₀)
 (U K:Nat→Int×Int) (eU eL eC eK:Nat→Int)
 (hul:ul≤1000) (hll:ll≤1000) (hcl:cl≤1000) (hkl:kl≤1000)
 (W:World) (hb0:W.heap[bb]?=some (.cells #[flo,fhi,ga,.slice ubase ul uc,.slice lbase ll lc,.slice cbase cl cc,.slice kbase kl kc] te (0,0)))
 (ht:W.cell? ⟨tb,0,none⟩=some (.func (.func 204) #[] #[.pointer (some ⟨sb,0,none⟩)])) (hs:W.cell? ⟨sb,0,none⟩=some mv)
 (hU:∀j,j<ul→W.cell? ⟨ub,uo+j*2,none⟩=some (.int .i64 (U j).1)∧W.cell? ⟨ub,uo+j*2+1,none⟩=some (.int .i64 (U j).2))
 (hK:∀j,j<kl→W.cell? ⟨kb,ko+j*2,none⟩=some (.int .i64 (K j).1)∧W.cell? ⟨kb,ko+j*2+1,none⟩=some (.int .i64 (K j).2))
 (cU:∀j,j<ul→∀W',Below n₀ W W'→CallsIn Fence.wide (n-1) Tryz.prog 204 #[.int .i64 (U j).1,.int .i64 (U j).2,.pointer (some ⟨sb,0,none⟩)] W' fun e W''=>e=.returned (.int .i64 (eU j))∧W'.grownBy W'' none)
 (cK:∀j,j<kl→∀W',Below n₀ W W'→CallsIn Fence.wide (n-1) Tryz.prog 204 #[.int .i64 (K j).1,.int .i64 (K j).2,.pointer (some ⟨sb,0,none⟩)] W' fun e W''=>e=.returned (.int .i64 (eK j))∧W'.grownBy W'' none)
 (cL:∀j,j<ll→∀W',Below n₀ W W'→CallsIn Fence.wide (n-1) Tryz.prog 208 #[.agg #[flo,fhi,ga,.slice ubase ul uc,.slice lbase ll lc,.slice cbase cl cc,.slice kbase kl kc],mv,.int .i64 j] W' fun e W''=>e=.returned (.int .i64 (eL j))∧W'.grownBy W'' none)
 (cC:∀j,j<cl→∀W',Below n₀ W W'→CallsIn Fence.wide (n-1) Tryz.prog 209 #[.agg #[flo,fhi,ga,.slice ubase ul uc,.slice lbase ll lc,.slice cbase cl cc,.slice kbase kl kc],mv,.int .i64 j] W' fun e W''=>e=.returned (.int .i64 (eC j))∧W'.grownBy W'' none)
 (J Jx:List Int→World→Prop) (hJ:∀pre W W',J pre W→W.grownBy W' none→J pre W') (hJx:∀pre W W',Jx pre W→W.grownBy W' none→Jx pre W')
 (hY:∀pre x W,J pre W→pre.length<ul+(ll+(cl+kl))→YieldAt Fence.wide (n-1) Tryz.prog l #[.int .i64 x] W fun e W' =>
  (e=.returned (.bool true)∧J (pre++[x]) W'∧Below n₀ W W')∨(e=.returned (.bool false)∧Jx (pre++[x]) W'))
 (h0 : J [] W) (hn₀ : n₀ ≤ W.heap.size) :
  CallsIn Fence.wide n Tryz.prog 207 #[.func (.yield l) #[] #[],.pointer (some ⟨bb,0,none⟩),.pointer (some ⟨tb,0,none⟩),.pointer (some ⟨sb,0,none⟩)] W fun e W'=>(∃v,e=.returned v) ∧
   ((∃xs,xs=upE eU ul++(upE eL ll++(upE eC cl++upE eK kl))∧J xs W')∨(∃pre,(pre <+: upE eU ul++(upE eL ll++(upE eC cl++upE eK kl)))∧Jx pre W')):=by
 have grown_alloc:∀(X:World) (o:Obj),X.grownBy (X.alloc o) none:=fun X o=>World.grownBy_alloc X o none
 have bel:∀{X Y:World},Below n₀ W X→X.grownBy Y none→Below n₀ W Y:=fun {X Y} h g =>
  ⟨g.os.trans h.os,g.tape.trans h.tape,g.output.trans h.output,cW h.size g.size,fun k hk=>(g.block k (dc (dc hk hn₀) h.size) (by simp)).trans (h.block k hk)⟩
 have hc:∀{X:World},Below n₀ W X→X.heap[bb]?=some (.cells #[flo,fhi,ga,.slice ubase ul uc,.slice lbase ll lc,.slice cbase cl cc,.slice kbase kl kc] te (0,0)):=fun h=>(h.block bb hbb).trans hb0;refine callsIn_of_wp Tryz.func207 rfl trivial ?_ rfl;simp only[Tryz.ntmps207,eR,cS,dX,Nat.reduceAdd,Nat.reduceSub,Array.replicate_succ,Array.replicate_zero,List.push_toArray,gw,dI,eO]
 have hb3:W.cell? ⟨bb,3,none⟩=some (.slice ubase ul uc):=by simp[World.cell?,hb0]
 gi_wp2
 gi_loopw [14] (fun i wr=>∃k:Nat,k≤ul∧i=.int .i64 k∧J (upE eU k) wr∧Below n₀ W wr)
  (fun i _=>ul-(intOf i).toNat)
 case atStart=>exact⟨0,dQ _,rfl,h0,Below.refl _ _⟩
 case round =>
  obtain⟨k,hk,rfl,hJs,hnx⟩:=hrel
  by_cases hlt:k<ul
  ·obtain⟨rfl,hlu⟩:=hub (by omega);have hu1:=(hnx.cell (p:=⟨ub,uo+k*2,none⟩) hlu).trans (hU k hlt).1;have hu2:=(hnx.cell (p:=⟨ub,uo+k*2+1,none⟩) hlu).trans (hU k hlt).2;have ht':=(hnx.cell (p:=⟨tb,0,none⟩) htb).trans ht;have hta:∀o,(wr.alloc o).cell? ⟨tb,0,none⟩=some (.func (.func 204) #[] #[.pointer (some ⟨sb,0,none⟩)]):=fun o=>Lib.cell?_alloc_some _ ht'
   gi_wp2
   refine⟨trivial,(cU k hlt _ (bel hnx (grown_alloc _ _))).mono ?_⟩;rintro e W2 ⟨rfl,hg2⟩;obtain⟨fn,tmps,assign,body,hy,hR⟩:=hY _ (eU k) W2 (hJ _ _ _ (hJ _ _ _ hJs (grown_alloc _ _)) hg2) (by rw[yo]; omega);have hb2:=bel (bel hnx (grown_alloc _ _)) hg2
   gi_wp2
   refine hR.mono ?_;rintro e W3 (⟨rfl,hJ3,hk3⟩|⟨rfl,hJx3⟩)
   ·gi_wp2
    go_roundw
    case rel=>exact⟨k+1,by omega,by simp,by rw[pZ]; exact hJ3,hb2.trans hk3⟩
    case measure=>simp[intOf]; omega
   ·gi_wp2
    refine bodyPost_ret (results_none rfl _ _ _) rfl ?_;refine⟨⟨_,rfl⟩,.inr ⟨_,?_,hJx3⟩⟩;rw[←pZ];exact(HW eU (by omega)).trans (dO _ _)
  ·obtain rfl:ul=k:=by omega
   have hb4:wr.cell? ⟨bb,4,none⟩=some (.slice lbase ll lc):=by simp[World.cell?,hc hnx]
   gi_wp2
   gi_loopw [31] (fun i wr=>∃k:Nat,k≤ll∧i=.int .i64 k∧J (upE eU ul++upE eL k) wr∧Below n₀ W wr)
    (fun i _=>ll-(intOf i).toNat)
   case atStart=>exact⟨0,dQ _,rfl,by simpa[upE] using hJs,hnx⟩
   case round =>
    clear hJs hnx;obtain⟨k,hk,rfl,hJs,hnx⟩:=hrel
    by_cases hlt:k<ll
    ·have q0:wr.cell? ⟨bb,0,none⟩=some flo:=by simp[World.cell?,hc hnx]
     have q1:wr.cell? ⟨bb,1,none⟩=some fhi:=by simp[World.cell?,hc hnx]
     have q2:wr.cell? ⟨bb,2,none⟩=some ga:=by simp[World.cell?,hc hnx]
     have q3:wr.cell? ⟨bb,3,none⟩=some (.slice ubase ul uc):=by simp[World.cell?,hc hnx]
     have q4:wr.cell? ⟨bb,4,none⟩=some (.slice lbase ll lc):=by simp[World.cell?,hc hnx]
     have q5:wr.cell? ⟨bb,5,none⟩=some (.slice cbase cl cc):=by simp[World.cell?,hc hnx]
     have q6:wr.cell? ⟨bb,6,none⟩=some (.slice kbase kl kc):=by simp[World.cell?,hc hnx]
     have hs':=(hnx.cell (p:=⟨sb,0,none⟩) hsb).trans hs
     gi_wp2
     refine⟨trivial,(cL k hlt _ hnx).mono ?_⟩;rintro e W2 ⟨rfl,hg2⟩;obtain⟨fn,tmps,assign,body,hy,hR⟩:=hY _ (eL k) W2 (hJ _ _ _ hJs hg2) (by simp only[cI,yo]; omega);have hb2:=bel hnx hg2
     gi_wp2
     refine hR.mono ?_;rintro e W3 (⟨rfl,hJ3,hk3⟩|⟨rfl,hJx3⟩)
     ·gi_wp2
      go_roundw
      case rel=>exact⟨k+1,by omega,by simp,by rw[pZ,←cP]; exact hJ3,hb2.trans hk3⟩
      case measure=>simp[intOf]; omega
     ·gi_wp2
      refine bodyPost_ret (results_none rfl _ _ _) rfl ?_;refine⟨⟨_,rfl⟩,.inr ⟨_,?_,hJx3⟩⟩;rw[cP,←pZ];exact(eG _).2 ((HW eL (by omega)).trans (dO _ _))
    ·obtain rfl:ll=k:=by omega
     have hb5:wr.cell? ⟨bb,5,none⟩=some (.slice cbase cl cc):=by simp[World.cell?,hc hnx]
     gi_wp2
     gi_loopw [45] (fun i wr=>∃k:Nat,k≤cl∧i=.int .i64 k∧J (upE eU ul++upE eL ll++upE eC k) wr∧Below n₀ W wr)
      (fun i _=>cl-(intOf i).toNat)
     case atStart=>exact⟨0,dQ _,rfl,by simpa[upE] using hJs,hnx⟩
     case round =>
      clear hJs hnx;obtain⟨k,hk,rfl,hJs,hnx⟩:=hrel
      by_cases hlt:k<cl
      ·have q0:wr.cell? ⟨bb,0,none⟩=some flo:=by simp[World.cell?,hc hnx]
       have q1:wr.cell? ⟨bb,1,none⟩=some fhi:=by simp[World.cell?,hc hnx]
       have q2:wr.cell? ⟨bb,2,none⟩=some ga:=by simp[World.cell?,hc hnx]
       have q3:wr.cell? ⟨bb,3,none⟩=some (.slice ubase ul uc):=by simp[World.cell?,hc hnx]
       have q4:wr.cell? ⟨bb,4,none⟩=some (.slice lbase ll lc):=by simp[World.cell?,hc hnx]
       have q5:wr.cell? ⟨bb,5,none⟩=some (.slice cbase cl cc):=by simp[World.cell?,hc hnx]
       have q6:wr.cell? ⟨bb,6,none⟩=some (.slice kbase kl kc):=by simp[World.cell?,hc hnx]
       have hs':=(hnx.cell (p:=⟨sb,0,none⟩) hsb).trans hs
       gi_wp2
       refine⟨trivial,(cC k hlt _ hnx).mono ?_⟩;rintro e W2 ⟨rfl,hg2⟩;obtain⟨fn,tmps,assign,body,hy,hR⟩:=hY _ (eC k) W2 (hJ _ _ _ hJs hg2) (by simp only[cI,yo]; omega);have hb2:=bel hnx hg2
       gi_wp2
       refine hR.mono ?_;rintro e W3 (⟨rfl,hJ3,hk3⟩|⟨rfl,hJx3⟩)
       ·gi_wp2
        go_roundw
        case rel=>exact⟨k+1,by omega,by simp,by rw[pZ,←cP]; exact hJ3,hb2.trans hk3⟩
        case measure=>simp[intOf]; omega
       ·gi_wp2
        refine bodyPost_ret (results_none rfl _ _ _) rfl ?_;refine⟨⟨_,rfl⟩,.inr ⟨_,?_,hJx3⟩⟩;rw[cP,←pZ]
        exact by rw[cP]; exact(eG _).2 ((eG _).2 ((HW eC (by omega)).trans (dO _ _)))
      ·obtain rfl:cl=k:=by omega
       have hb6:wr.cell? ⟨bb,6,none⟩=some (.slice kbase kl kc):=by simp[World.cell?,hc hnx]
       gi_wp2
       gi_loopw [59] (fun i wr=>∃k:Nat,k≤kl∧i=.int .i64 k∧J ((upE eU ul++upE eL ll++upE eC cl)++upE eK k) wr∧Below n₀ W wr)
        (fun i _=>kl-(intOf i).toNat)
       case atStart=>exact⟨0,dQ _,rfl,by simpa[upE] using hJs,hnx⟩
       case round =>
        clear hJs hnx;obtain⟨k,hk,rfl,hJs,hnx⟩:=hrel
        by_cases hlt:k<kl
        ·obtain⟨rfl,hlk⟩:=hkb (by omega);have hu1:=(hnx.cell (p:=⟨kb,ko+k*2,none⟩) hlk).trans (hK k hlt).1;have hu2:=(hnx.cell (p:=⟨kb,ko+k*2+1,none⟩) hlk).trans (hK k hlt).2;have ht':=(hnx.cell (p:=⟨tb,0,none⟩) htb).trans ht;have hta:∀o,(wr.alloc o).cell? ⟨tb,0,none⟩=some (.func (.func 204) #[] #[.pointer (some ⟨sb,0,none⟩)]):=fun o=>Lib.cell?_alloc_some _ ht'
         gi_wp2
         refine⟨trivial,(cK k hlt _ (bel hnx (grown_alloc _ _))).mono ?_⟩;rintro e W2 ⟨rfl,hg2⟩;obtain⟨fn,tmps,assign,body,hy,hR⟩:=hY _ (eK k) W2 (hJ _ _ _ (hJ _ _ _ hJs (grown_alloc _ _)) hg2) (by simp only[cI,yo]; omega);have hb2:=bel (bel hnx (grown_alloc _ _)) hg2
         gi_wp2
         refine hR.mono ?_;rintro e W3 (⟨rfl,hJ3,hk3⟩|⟨rfl,hJx3⟩)
         ·gi_wp2
          go_roundw
          case rel=>exact⟨k+1,by omega,by simp,by rw[pZ,←cP]; exact hJ3,hb2.trans hk3⟩
          case measure=>simp[intOf]; omega
         ·gi_wp2
          refine bodyPost_ret (results_none rfl _ _ _) rfl ?_;refine⟨⟨_,rfl⟩,.inr ⟨_,?_,hJx3⟩⟩;rw[cP,←pZ,cP,cP];exact(eG _).2 ((eG _).2 ((eG _).2 (HW eK (by omega))))
        ·obtain rfl:kl=k:=by omega
         gi_wp2
         go_end0
         exact⟨⟨_,rfl⟩,.inl ⟨_,rfl,by simpa[cP] using hJs⟩⟩
end Go.Proofs
end

noncomputable section
set_option maxRecDepth 100000
namespace Go.Proofs.ZzM
open Go Go.Am Go.RowKit
def XU (p:String):Code:=.region 10 #[{dst:=some 5,op:=.assign (.tmp 49),type:=38,pos:=p,after:=#[],guard:=none}] false
def afI (q r:String):Code:=.block 1 (.seq (.region 11 #[{dst:=some 50,op:=.move (.tmp 5),type:=38,pos:=q,after:=#[],guard:=none},{dst:=some 51,op:=.binOp .neq 38 (.tmp 50) (.const (.int .i64 0)) 38,type:=4,pos:=q,after:=#[{on:=0,ground:=.data}],guard:=none}] false)
 (.cond (.tmp 51) (.seq (.region 12 #[{dst:=some 52,op:=.move (.tmp 5),type:=38,pos:=r,after:=#[],guard:=none},{dst:=none,op:=.store 38 (.tmp 2) (.tmp 52),type:=0,pos:=r,after:=#[{on:=0,ground:=.data},{on:=0,ground:=.phase}],guard:=none}] false) .ret) .skip))
section
variable {P:Program} {F:Fence} {n:Nat}
def Cj {ops:Array Oper} {i d:Nat} {o:Oper} {u:Value} {w w':World} {a:Act} {next:Act→World→Prop} {Q:Exit→Act→World→Prop} (hF:∀f,F.fn f) (ho:ops[i]?=some o) (hg:o.guard=none) (hd:o.dst=some d) (hdf:∀c,o.op≠.defer c)
 (hrun:(execOp a.eval o).run P w=.ok (.value u) w') (k:next (a.put (some d) u) w'):wpOpIn F n P ops Q i next a w:=by
 unfold wpOpIn;rw[ho]
 have hw:Region.wanted o (yielded ops a.tmps)=true:=by simp[Region.wanted,hg]
 simp only[hw,if_true];refine⟨fun _ _=>hF _,?_⟩;rw[Oper.semAt_eq _ _ _ hdf,hrun];rw[←hd] at k;exact k
def ZB {ops:Array Oper} {i:Nat} {o:Oper} {w w':World} {a:Act} {next:Act→World→Prop} {Q:Exit→Act→World→Prop} (hF:∀f,F.fn f) (ho:ops[i]?=some o) (hg:o.guard=none) (hd:o.dst=none) (hdf:∀c,o.op≠.defer c)
 (hrun:(execOp a.eval o).run P w=.ok .skip w') (k:next a w'):wpOpIn F n P ops Q i next a w:=by
 unfold wpOpIn;rw[ho]
 have hw:Region.wanted o (yielded ops a.tmps)=true:=by simp[Region.wanted,hg]
 simp only[hw,if_true];refine⟨fun _ _=>hF _,?_⟩;rw[Oper.semAt_eq _ _ _ hdf,hrun];show next (a.put o.dst undef) w';rw[hd];exact k
end
def jh (T:Array Value) (i j:Nat) (v:Value):(T.setIfInBounds i v).getD j undef=if i=j∧i<T.size then v else T.getD j undef:=by
 simp only[dU,fD]
 by_cases h:i=j
 ·subst h
  by_cases h2:i<T.size
  ·simp[h2]
  ·simp[h2]
 ·simp[h]
def mark (D:Nat):Deferred:={target:=.collected D,args:=#[]}
structure Put1 (n₀ rb:Nat) (x:Int) (w W:World):Prop where
 os:W.os=w.os
 tape:W.tape=w.tape
 output:W.output=w.output
 size:w.heap.size≤W.heap.size
 block:∀k,k<n₀→k≠rb→W.heap[k]?=w.heap[k]?
 cell:∃e,W.heap[rb]?=some (.cells #[.int .i64 x] e (0,0))
set_option maxHeartbeats 4000000 in
def agt {a:Act} {w:World} {Q:Exit→Act→World→Prop} {lb:Array Value} {L:List Int} {rb:Nat} {e0:TypeId} {v0:Value} {p q r:String}
 (hseq:SeqStopsK Fence.wide 1 Tryz.prog 207 lb (fun x:Int=>#[.int .i64 x]) (Below w.heap.size) (fun xs=>xs=L) (fun pre=>pre <+: L) L.length w)
 (hg:a.tmps.getD 48 undef=.func (.func 207) #[] lb) (h2:a.tmps.getD 2 undef=.pointer (some ⟨rb,0,none⟩)) (hsz:78≤a.tmps.size)
 (hrb:w.heap[rb]?=some (.cells #[v0] e0 (0,0)))
 (hdone:∀D W,(∀x∈L,x=0)→Below w.heap.size w W→w.heap.size≤D→W.heap[D]?=some (.deferred (some []))→Q .normal {a with defers:=mark D::a.defers} W)
 (hstop:∀D W x,L.find? (fun e=>e != 0)=some x→Put1 w.heap.size rb x w W→w.heap.size≤D→W.heap[D]?=some (.deferred (some []))→Q .ret {a with defers:=mark D::a.defers} W) :
 (Code.rangeFunc (.tmp 48) #[49] (XU p) (afI q r)).wpIn Fence.wide 2 Tryz.prog Q a w:=by
 have hT:∀f,Fence.wide.fn f:=fun _=>trivial;have hrl:=Ċ hrb
 refine wpIn_rangeFunc_ownF (α:=Int) (encs:=fun x=>#[.int .i64 x]) (Kp:=Below w.heap.size) (S:=fun xs=>xs=L) (Sp:=fun pre=>pre <+: L) (N:=L.length) (w0:=w) rfl (by omega) hg trivial (fun args w=>?eg) hseq
  (fun h k=>h.trans k) (fun W l o o' hl ho hc hw=>belowK_b (cF _) W l o o' hl ho hc hw) (Below.refl _ _) (fun _=>rfl)
  (fun pre W=>(∀x∈pre,x=0)∧Below w.heap.size w W)
  (fun c pre W=>c=.ret∧∃pre' x,pre=pre'++[x]∧(∀x∈pre',x=0)∧x≠0∧Put1 w.heap.size rb x w W)
  ?hI ?hIx ⟨by simp,Below.refl _ _⟩ (fun x=>{tmps:=(a.tmps.setIfInBounds 49 (.int .i64 x)).setIfInBounds 5 (.int .i64 x),defers:=[]}) ?hassign ?hbody ?hdone ?hstop
 case eg=>simp[callFunc,Sem.run_bind,run_program,Result.andThen_ok,Tryz.func207,plain 207 _ Tryz.func207,show Tryz.f207.body.isNone=false from rfl]; rfl
 case hI =>
  intro s W W' row ⟨h1,h2⟩ hgr hr;exact⟨h1,hgr.os.trans h2.os,hgr.tape.trans h2.tape,hgr.output.trans h2.output,cW h2.size hgr.size,fun k hk=>(hgr.block k (dc hk h2.size) (fun e=>by have:=(hr k e.symm).1; omega)).trans (h2.block k hk)⟩
 case hIx =>
  intro c s W W' row ⟨h1,pre',x,h3,h4,h5,h6⟩ hgr hr;have hb:∀k,k<w.heap.size→W'.heap[k]?=W.heap[k]?:=fun k hk=>hgr.block k (dc hk h6.size) (fun e=>by have:=(hr k e.symm).1; omega)
  exact⟨h1,pre',x,h3,h4,h5,hgr.os.trans h6.os,hgr.tape.trans h6.tape,hgr.output.trans h6.output,cW h6.size hgr.size,fun k hk hne=>(hb k hk).trans (h6.block k hk hne),by
   obtain⟨e,he⟩:=h6.cell
   exact⟨e,(hb rb hrl).trans he⟩⟩
 case hassign =>
  intro l x W K hK
  have hf:((#[49]:Array Tmp).zip #[Value.int .i64 x]).foldl (fun t (p,v)=>t.setIfInBounds p v) a.tmps=a.tmps.setIfInBounds 49 (.int .i64 x):=by simp
  rw[hf];refine wpIn_region ?_;rw[show ∀o:Oper,List.range (#[o]:Array Oper).size=[0] from fun _=>rfl,wpOpsIn_cons];refine Cj (d:=5) (u:=.int .i64 x) (w':=W) hT rfl rfl rfl (by simp) ?_ hK;show Result.ok (Next.value ((a.tmps.setIfInBounds 49 (.int .i64 x)).getD 49 undef)) W=_;rw[jh,if_pos ⟨rfl,by omega⟩]
 case hbody =>
  intro l pre x W ⟨h1,hbel⟩ hpre;refine wpIn_block (wpIn_seq (wpIn_region ?_));rw[show ∀o p:Oper,List.range (#[o,p]:Array Oper).size=[0,1] from fun _ _=>rfl,wpOpsIn_cons]
  refine Cj (d:=50) (u:=.int .i64 x) (w':=W) hT rfl rfl rfl (by simp) (by
   show Result.ok (Next.value (((a.tmps.setIfInBounds 49 (.int .i64 x)).setIfInBounds 5 (.int .i64 x)).getD 5 undef)) W=_
   rw[jh,if_pos ⟨rfl,by simp; omega⟩]) ?_
  rw[wpOpsIn_cons]
  refine Cj (d:=51) (u:=.bool (x != 0)) (w':=W) hT rfl rfl rfl (by simp) (by
   show((do let u ←(do eqGuard .neq 38 (.tmp 50) (.const (.int .i64 0)) ((((a.tmps.setIfInBounds 49 (.int .i64 x)).setIfInBounds 5 (.int .i64 x)).setIfInBounds 50 (.int .i64 x)).getD 50 undef) (.int .i64 0); binOp .neq 38 ((((a.tmps.setIfInBounds 49 (.int .i64 x)).setIfInBounds 5 (.int .i64 x)).setIfInBounds 50 (.int .i64 x)).getD 50 undef) (.int .i64 0)); pure (.value u)):Sem Next).run Tryz.prog W=_;rw[jh,if_pos ⟨rfl,by simp; omega⟩]
   simp[eqGuard,binOp,Op.intCmp]) ?_
  show Code.wpIn (Fence.wide.inRound l) (2-1-1) Tryz.prog (Code.cond (.tmp 51) _ .skip) _ {tmps:=((((a.tmps.setIfInBounds 49 (.int .i64 x)).setIfInBounds 5 (.int .i64 x)).setIfInBounds 50 (.int .i64 x)).setIfInBounds 51 (.bool (x != 0))),defers:=[]} W;obtain⟨T,hTd⟩:∃T,T=((((a.tmps.setIfInBounds 49 (.int .i64 x)).setIfInBounds 5 (.int .i64 x)).setIfInBounds 50 (.int .i64 x)).setIfInBounds 51 (.bool (x != 0))):=⟨_,rfl⟩;rw[←hTd]
  have t51:T.getD 51 undef=.bool (x != 0):=by rw[hTd,jh,if_pos ⟨rfl,by simp; omega⟩]
  have t5:T.getD 5 undef=.int .i64 x:=by rw[hTd,jh,if_neg (by simp),jh,if_neg (by simp),jh,if_pos ⟨rfl,by simp; omega⟩]
  have t2:T.getD 2 undef=.pointer (some ⟨rb,0,none⟩):=by rw[hTd,jh,if_neg (by simp),jh,if_neg (by simp),jh,if_neg (by simp),jh,if_neg (by simp),h2]
  have tsz:78≤T.size:=by rw[hTd]; simpa using hsz
  clear hTd
  by_cases hx:x=0
  ·have e51:Act.eval {tmps:=T,defers:=[]} (.tmp 51)=.bool false:=t51.trans (by simp[hx]);refine wpIn_cond_false e51 (wpIn_skip ?_);simp only[Exit.inBlock,ownPostK];exact⟨KeepsOthers.refl _,Below.refl _ _,fun y hy=>(cJ.1 hy).elim (h1 y) (fun h=>by rw[cO] at h; rw[h,hx]),hbel⟩
  ·have e51:Act.eval {tmps:=T,defers:=[]} (.tmp 51)=.bool true:=t51.trans (by simp[hx]);refine wpIn_cond_true e51 (wpIn_seq (wpIn_region ?_));rw[show ∀o p:Oper,List.range (#[o,p]:Array Oper).size=[0,1] from fun _ _=>rfl,wpOpsIn_cons]
   have e5:(execOp (Act.eval {tmps:=T,defers:=[]}) {dst:=some 52,op:=.move (.tmp 5),type:=38,pos:=r,after:=#[],guard:=none}).run Tryz.prog W=.ok (.value (.int .i64 x)) W:=by
    show Result.ok (Next.value (T.getD 5 undef)) W=_;rw[t5]
   refine Cj (d:=52) (u:=.int .i64 x) (w':=W) hT rfl rfl rfl (by simp) e5 ?_;rw[wpOpsIn_cons];have hW:W.heap[rb]?=some (.cells #[v0] e0 (0,0)):=(hbel.block rb hrl).trans hrb
   letI:Ghost:=(Gk (fun _=>False) [] (none))
   have hst:=qf (P:=Tryz.prog) (w:=W) (t:=38) (u:=.int .i64 x) (n:=1) (b:=rb) (o:=0) (by kernel_rfl) rfl hW (by simp) (by simp[Value.cells,Value.oneCell'])
   have hst':(storeVar 38 ⟨rb,0,none⟩ (.int .i64 x)).run Tryz.prog W=.ok () (W.setRow rb #[.int .i64 x]):=by simpa[Value.cells] using hst
   have t52:(T.setIfInBounds 52 (.int .i64 x)).getD 52 undef=.int .i64 x:=by rw[jh,if_pos ⟨rfl,by omega⟩]
   have t2':(T.setIfInBounds 52 (.int .i64 x)).getD 2 undef=.pointer (some ⟨rb,0,none⟩):=by rw[jh,if_neg (by simp),t2]
   have e6:(execOp (Act.eval {tmps:=T.setIfInBounds 52 (.int .i64 x),defers:=[]}) {dst:=none,op:=.store 38 (.tmp 2) (.tmp 52),type:=0,pos:=r,after:=#[{on:=0,ground:=.data},{on:=0,ground:=.phase}],guard:=none}).run Tryz.prog W=.ok .skip (W.setRow rb #[.int .i64 x]):=by
    show((do Instr.storeAt 38 ((T.setIfInBounds 52 (.int .i64 x)).getD 2 undef) ((T.setIfInBounds 52 (.int .i64 x)).getD 52 undef); pure .skip):Sem Next).run Tryz.prog W=_;rw[t52,t2'];simp[Instr.storeAt,Instr.sureAddr,hst']
   refine ZB (w':=W.setRow rb #[.int .i64 x]) hT rfl rfl rfl (by simp) e6 ?_;refine wpIn_ret ?_;simp only[Exit.inBlock,ownPostK];refine⟨⟨by simp,fun k o hk ho=>?_⟩,trivial,pre,x,rfl,h1,hx,hbel.os,hbel.tape,hbel.output,by simpa using hbel.size,fun k hk hne=>(setRow_other _ _ _ _ hne).trans (hbel.block k hk),⟨_,setRow_heap _ _ _ _ _ _ hW⟩⟩
   by_cases hk2:k=rb
   ·subst hk2; rw[hW] at hk; cases hk; simp[Obj.isCells] at ho
   ·rw[setRow_other _ _ _ _ hk2]; exact hk
 case hdone =>
  intro D xs W hD hS ⟨h1,hbel⟩ hDo;subst hS;exact hdone D W h1 hbel hD hDo
 case hstop =>
  intro D c pre W hD hS ⟨hc,pre',x,h3,h4,h5,h6⟩ hDo;subst hc;refine wpIn_ret (hstop D W x ?_ h6 hD hDo);obtain⟨t,rfl⟩:=hS;rw[h3,cP,List.find?_append]
  have:List.find? (fun e=>e != 0) pre'=none:=d9.2 fun y hy=>by simp[h4 y hy]
  rw[this];simp[h5]
end Go.Proofs.ZzM
end

noncomputable section
set_option maxRecDepth 100000
namespace Go.Proofs.ZzM
open Go Go.Am Go.RowKit
def fstC:Code→Code
 |.seq a _=>a
 |c=>c
def sndC:Code→Code
 |.seq _ b=>b
 |c=>c
def abJ:Nat→Code→Code
 |0,c=>fstC c
 |n+1,c=>abJ n (sndC c)
def ae4:Nat→Code→Code
 |0,c=>c
 |n+1,c=>ae4 n (sndC c)
def ckB:Code:=Tryz.f72.body.getD .skip
def ckA5:Code:=fstC (ae4 5 ckB |> fstC)
def ckRF:Code:=sndC (ae4 5 ckB |> fstC)
def O3:Code:=sndC (ae4 5 ckB)
def ckPre:Code:=.seq (abJ 0 ckB) (.seq (abJ 1 ckB) (.seq (abJ 2 ckB) (.seq (abJ 3 ckB) (.seq (abJ 4 ckB) ckA5))))
def af2:Tryz.f72.body=some (.seq (abJ 0 ckB) (.seq (abJ 1 ckB) (.seq (abJ 2 ckB) (.seq (abJ 3 ckB) (.seq (abJ 4 ckB) (.seq (.seq ckA5 ckRF) O3)))))):=by kernel_rfl
def ck_pt:List (Nat×ä):=[(136,Cg),(143,ue),(141,si),(142,wH)]
def ckE (ρ:Type):Env ρ:=ë ck_pt []
abbrev ckR:Type:=Int ⊕ (List AV×List Blk)
def ac9 (S:St):Option Int:=match sg Tryz.prog Tryz.f72 S with
 |some v=>agv [tI] S.h v
 |none=>none
def ckK (e:Exit) (S:St):Option ckR:=match e with
 |.ret=>match ac9 S with
  |some n=>some (.inl n)
  |none=>none
 |.normal=>match decide (78≤S.t.length) with
  |true=>some (.inr ([lk S.t 1,lk S.t 2,lk S.t 48],S.h))
  |false=>none
 |_=>none
def ckH (x:Val È) (s:Val (.map tI Õ)) (n:Int):List Blk :=
 [.cells (flat È x),.cells [.int .i64 n],.cells (flat È x),.cells [.mp tI Õ s],.cells [.fn (.func 204) [] [.box 3 0]]]
def ckM (x:Val È):Option ckR :=
 Ã (Γ x.1 (0:Int) (1000000:Int)) fun r1=>ifb (!r1) (some (.inl 1)) (ifb (igt (Ø x.2.1) (12:Int)) (some (.inl 2)) (ifb (igt (Ø x.2.2.1) (40:Int)) (some (.inl 2)) (ifb (igt (Ø x.2.2.2.1) (12:Int)) (some (.inl 2)) (ifb (igt (Ø x.2.2.2.2.1) (40:Int)) (some (.inl 2)) (ifb (igt (Ø x.2.2.2.2.2) (10:Int)) (some (.inl 2))
  (Ã (Ÿ x) fun r2=>ifb (ine r2 (0:Int)) (some (.inl r2)) (Ã (Ľ x) fun r3=>some (.inr ([.box 0 0,.box 1 0,.fn (.func 207) [] [.box 2 0,.box 4 0,.box 3 0]],ckH x r3 0)))))))))
def ck_pre (x:Val È):goC (ckE ckR) (ů (ckE ckR) 10) 72 [] 0 0 ckPre {t:=W6 [È] x++List.replicate 77 .any,h:=[]} ckK=ckM x:=by kernel_rfl
def afd (ρ:Type):Env ρ:={ckE ρ with inl:=fun _=>false}
def ckS (x:Val È):Option Int :=
 Ã (pK x) fun r5=>ifb (igt (Ø r5) (59:Int)) (some (2:Int)) (ck ((2:Int)*(Ø x.2.1)) fun n6=>ck ((Ø r5)-(Ø x.2.1)) fun n7=>ck ((2:Int)*n7) fun n8=>ck (n6+n8) fun n9=>ck ((2:Int)*(Ø x.2.2.2.2.1)) fun n10=>ck (n9+n10) fun n11=>ifb (igt n11 (300:Int)) (some (2:Int)) (some (0:Int)))
def ckK2 (e:Exit) (S:St):Option Int:=match e with
 |.ret=>match lk S.t 2 with
  |.box 1 0=>match lkB S.h 1 with
   |.cells [.int .i64 n]=>some n
   |_=>none
  |_=>none
 |_=>none
def ck_suf (x:Val È) (s:Val (.map tI Õ)):goC (afd Int) (ů (afd Int) 10) 72 [] 0 0 O3 {t:=[.any,.box 0 0,.box 1 0]++List.replicate 75 .any,h:=ckH x s 0} ckK2=ckS x:=by kernel_rfl
def afc (x:Val È):ī x=match ckM x with
 |none=>none
 |some (.inl n)=>some n
 |some (.inr _)=>Ã (Ľ x) fun s=>SG (nB x s) some (ckS x):=by
 unfold ī KL ckM ckS
 cases Γ x.1 (0:Int) (1000000:Int) with
 |none=>rfl
 |some r1 =>
 cases r1 with
 |false=>rfl
 |true =>
 simp only[Ã,ifb,dz]
 cases igt (Ø x.2.1) (12:Int) with
 |true=>rfl
 |false =>
 cases igt (Ø x.2.2.1) (40:Int) with
 |true=>rfl
 |false =>
 cases igt (Ø x.2.2.2.1) (12:Int) with
 |true=>rfl
 |false =>
 cases igt (Ø x.2.2.2.2.1) (40:Int) with
 |true=>rfl
 |false =>
 cases igt (Ø x.2.2.2.2.2) (10:Int) with
 |true=>rfl
 |false =>
 cases Ÿ x with
 |none=>rfl
 |some r2 =>
 simp only
 cases ine r2 (0:Int) with
 |true=>rfl
 |false =>
 cases Ľ x with
 |none=>rfl
 |some r3=>rfl
def ag9 {x:Val È} {q:List AV×List Blk} (h:ckM x=some (.inr q)):((x.2.2.1:List (Val Ä)).length≤1000∧(x.2.2.2.1:List (Val η)).length≤1000∧(x.2.2.2.2.1:List (Val ã)).length≤1000∧(x.2.2.2.2.2:List (Val Ä)).length≤1000) ∧
 ∃s,Ľ x=some s∧q=([.box 0 0,.box 1 0,.fn (.func 207) [] [.box 2 0,.box 4 0,.box 3 0]],ckH x s 0):=by
 unfold ckM at h
 cases h0:Γ x.1 (0:Int) (1000000:Int) with
 |none=>rw[h0] at h; cases h
 |some r1 =>
 rw[h0] at h
 cases r1 with
 |false=>cases h
 |true =>
 simp only[Ã,ifb,dz] at h
 cases h1:igt (Ø x.2.1) (12:Int) with
 |true=>rw[h1] at h; cases h
 |false =>
 rw[h1] at h
 cases h2:igt (Ø x.2.2.1) (40:Int) with
 |true=>rw[h2] at h; cases h
 |false =>
 rw[h2] at h
 cases h3:igt (Ø x.2.2.2.1) (12:Int) with
 |true=>rw[h3] at h; cases h
 |false =>
 rw[h3] at h
 cases h4:igt (Ø x.2.2.2.2.1) (40:Int) with
 |true=>rw[h4] at h; cases h
 |false =>
 rw[h4] at h
 cases h5:igt (Ø x.2.2.2.2.2) (10:Int) with
 |true=>rw[h5] at h; cases h
 |false =>
 rw[h5] at h
 cases h6:Ÿ x with
 |none=>rw[h6] at h; cases h
 |some r2 =>
 rw[h6] at h;simp only at h
 cases h7:ine r2 (0:Int) with
 |true=>rw[h7] at h; cases h
 |false =>
 rw[h7] at h
 cases h8:Ľ x with
 |none=>rw[h8] at h; cases h
 |some r3 =>
 rw[h8] at h
 have lt:∀{α:Type} (l:List α) (n:Nat),igt (Ø l) (n:Int)=false→l.length≤n:=by
  intro α l n h;unfold Ø at h;rw[I5] at h;simp only[igt,gt_iff_lt,decide_eq_false_iff_not] at h;omega
 simp only[Option.some.injEq,Sum.inr.injEq] at h;exact⟨⟨by have:=lt x.2.2.1 40 h2; omega,by have:=lt x.2.2.2.1 12 h3; omega,by have:=lt x.2.2.2.2.1 40 h4; omega,by have:=lt x.2.2.2.2.2 10 h5; omega⟩,r3,rfl,h.symm⟩
def Cn {α β:Type} {f:α→Option β}:∀{l:List α} {m:List β},Jb f l=some m→m.length=l.length∧∀(i:Nat) (a:α),l[i]?=some a→∃b,m[i]?=some b∧f a=some b
 |[],m,h=>by cases h; exact⟨rfl,fun i a ha=>by simp at ha⟩
 |a::l,m,h=>by
  unfold Jb at h
  cases ha:f a with
  |none=>rw[ha] at h; cases h
  |some b =>
   rw[ha] at h
   cases hl:Jb f l with
   |none=>rw[hl] at h; cases h
   |some m' =>
    rw[hl] at h;cases h;obtain⟨h1,h2⟩:=Cn hl;refine⟨by simp[h1],fun i c hc=>?_⟩
    cases i with
    |zero=>simp at hc; subst hc; exact⟨b,by simp,ha⟩
    |succ i=>simpa using h2 i c (by simpa using hc)
def HX (l:List Int):upE (fun j=>l[j]?.getD 0) l.length=l:=by
 unfold upE;refine List.ext_getElem (by simp) fun i h1 h2=>?_;simp at h1;simp[h1]
def CR.below {n₀:Nat} {w W:World} {av:Nat→Prop} (hb:Below n₀ w W) (hn:w.heap.size≤n₀) {t:Ty} {x:Val t} {vs:List Value} (h:CR w av t x vs):CR W av t x vs :=
 h.keep fun b hlt ha=>⟨hb.block b (dc hlt hn),ha⟩
def IC {w:World} {av:Nat→Prop} {xs:List (Int×Int)} {v:Value} (h:CR w av (.slice Ä) xs [v]):∃base cap b off,v=.slice base xs.length cap∧(0<xs.length→base=some ⟨b,off,none⟩∧b<w.heap.size) ∧
 ∀j,j<xs.length→w.cell? ⟨b,off+j*2,none⟩=some (.int .i64 (xs[j]?.getD (0,0)).1)∧w.cell? ⟨b,off+j*2+1,none⟩=some (.int .i64 (xs[j]?.getD (0,0)).2):=by
 obtain⟨base,cap,e,hc,hx⟩:=h;cases e;rcases hx with hx|⟨b,off,hb,hav,hlt,hx⟩
 ·refine⟨base,cap,0,0,rfl,fun h=>?_,fun j hj=>?_⟩
  ·rw[show xs=[] from hx] at h; simp at h
  ·rw[show xs=[] from hx] at hj; simp at hj
 ·refine⟨base,cap,b,off,rfl,fun _=>⟨hb,hlt⟩,fun j hj=>?_⟩;obtain⟨us,h1,h2⟩:=hx j xs[j] (cE hj);obtain⟨u1,u2,e1,h3,h4⟩:=h1;have e3:u1=[.int .i64 xs[j].1]:=h3;have e4:u2=[.int .i64 xs[j].2]:=h4;subst e3 e4 e1;have s:(Ä).size=2:=rfl;rw[s] at h2;have c1:=h2 0 _ rfl;have c2:=h2 1 _ rfl;rw[cE hj];exact⟨by simpa using c1,by simpa[Nat.add_assoc] using c2⟩
end Go.Proofs.ZzM
end

noncomputable section
set_option maxRecDepth 100000
namespace Go.Proofs.ZzM
open Go Go.Am Go.RowKit
section
variable {w W W':World}
abbrev noG:Nat→Prop:=fun _=>False
def Re (w:World) (n:Int):kr w noG tI n (.int .i64 n):=⟨[.int .i64 n],rfl,rfl⟩
def agG {sb:Nat} {mv:Value} {e:TypeId} {s:Val (.map tI Õ)} (h:w.heap[sb]?=some (.cells #[mv] e (0,0))) (hm:CR w noG (.map tI Õ) s [mv]):kr w noG (.ptr (.map tI Õ)) s (.pointer (some ⟨sb,0,none⟩)):=by
 letI:Ghost:=(Gk (fun _=>False) [] (none))
 exact⟨[.pointer (some ⟨sb,0,none⟩)],⟨sb,0,[mv],rfl,id,Ċ h,hm,CellsAt.of_cells h⟩,rfl⟩
def agu {y:Int} {u:Value} (h:RR w noG [tI] y u):u=.int .i64 y:=by
 obtain⟨us,h1,rfl⟩:=h;have:us=[.int .i64 y]:=h1;rw[this]; rfl
def aeR (h1:∀b,b<W.heap.size→W'.heap[b]?=W.heap[b]?) (h2:W.heap.size≤W'.heap.size) (h3:W'.os=W.os) (h4:W'.tape=W.tape) (h5:W'.output=W.output):W.grownBy W' none :=
 ⟨h3,h4,h5,h2,fun b hb _=>h1 b hb⟩
def RA {f:Nat} {p:ä} (hp:jv Tryz.prog f p) (hrs:p.rs=[tI]) {x:Val (tyL p.ts)} {y:Int} (hF:p.F x=some (hrs▸(show Val (tyL [tI]) from y))) {vals:List Value} (ha:AL W noG p.ts x vals) :
 CallsIn Fence.wide 0 Tryz.prog f vals.toArray W fun e W''=>e=.returned (.int .i64 y)∧W.grownBy W'' none:=by
 obtain⟨ts,rs,F⟩:=p;dsimp only at hrs hF ha x;subst hrs;refine(hp noG x y hF W vals (fun _ h=>h.elim) ha).2.mono fun e w' ⟨u,h0,h1,h2,h3,h4,h5,h6⟩=>⟨?_,aeR h2 h3 h4 h5 h6⟩;rw[h0,agu h1]
def Sa {s:Val (.map tI Õ)} {a b y:Int} (hF:ľ a b s=some y) {sb:Nat} {mv:Value} {e:TypeId} (h:W.heap[sb]?=some (.cells #[mv] e (0,0))) (hm:CR W noG (.map tI Õ) s [mv]) :
 CallsIn Fence.wide 0 Tryz.prog 204 #[.int .i64 a,.int .i64 b,.pointer (some ⟨sb,0,none⟩)] W fun e W''=>e=.returned (.int .i64 y)∧W.grownBy W'' none :=
 RA Xl rfl (x:=(a,b,s)) (y:=y) hF (vals:=[.int .i64 a,.int .i64 b,.pointer (some ⟨sb,0,none⟩)]) ⟨_,_,rfl,Re _ _,_,_,rfl,Re _ _,_,rfl,agG h hm⟩
def abU {mv:Value} {s:Val (.map tI Õ)} (hm:CR W noG (.map tI Õ) s [mv]):kr W noG (.map tI Õ) s mv:=⟨[mv],hm,rfl⟩
def YY {x:Val È} {cs:Array Value} (hb:CR W noG È x cs.toList):kr W noG È x (.agg cs):=⟨cs.toList,hb,by show Value.agg cs=Value.agg cs.toList.toArray; rw[Array.toArray_toList]⟩
def ab7 {x:Val È} {s:Val (.map tI Õ)} {i y:Int} (hF:Κ x s i=some y) {mv:Value} {cs:Array Value} (hb:CR W noG È x cs.toList) (hm:CR W noG (.map tI Õ) s [mv]) :
 CallsIn Fence.wide 0 Tryz.prog 208 #[.agg cs,mv,.int .i64 i] W fun e W''=>e=.returned (.int .i64 y)∧W.grownBy W'' none :=
 RA RG rfl (x:=(x,s,i)) (y:=y) hF (vals:=[.agg cs,mv,.int .i64 i]) ⟨_,_,rfl,YY hb,_,_,rfl,abU hm,_,rfl,Re _ _⟩
def UR {x:Val È} {s:Val (.map tI Õ)} {i y:Int} (hF:ň x s i=some y) {mv:Value} {cs:Array Value} (hb:CR W noG È x cs.toList) (hm:CR W noG (.map tI Õ) s [mv]) :
 CallsIn Fence.wide 0 Tryz.prog 209 #[.agg cs,mv,.int .i64 i] W fun e W''=>e=.returned (.int .i64 y)∧W.grownBy W'' none :=
 RA HU rfl (x:=(x,s,i)) (y:=y) hF (vals:=[.agg cs,mv,.int .i64 i]) ⟨_,_,rfl,YY hb,_,_,rfl,abU hm,_,rfl,Re _ _⟩
end
def oY {w:World} {av:Nat→Prop} {t:Ty} {xs:List (Val t)} {vs:List Value} (h:CR w av (.slice t) xs vs):∃base cap,vs=[.slice base xs.length cap]:=by
 obtain⟨base,cap,e,_⟩:=h;exact⟨base,cap,e⟩
def aeh {x:Val È} {s:Val (.map tI Õ)} {l1 l2 l3 l4:List Int} (h1:Jb (fun u=>ľ u.1 u.2 s) (x.2.2.1:List (Int×Int))=some l1) (h2:Jb (fun i=>Κ x s i) (wn (x.2.2.2.1:List (Val η)).length)=some l2)
 (h3:Jb (fun i=>ň x s i) (wn (x.2.2.2.2.1:List (Val ã)).length)=some l3) (h4:Jb (fun u=>ľ u.1 u.2 s) (x.2.2.2.2.2:List (Int×Int))=some l4)
 (hlen:(x.2.2.1:List (Val Ä)).length≤1000∧(x.2.2.2.1:List (Val η)).length≤1000∧(x.2.2.2.2.1:List (Val ã)).length≤1000∧(x.2.2.2.2.2:List (Val Ä)).length≤1000)
 {w:World} {bb tb sb:Nat} {te te2 te3:TypeId} {cb:Array Value} {mv:Value} (hbb:w.heap[bb]?=some (.cells cb te (0,0))) (hbk:CR w noG È x cb.toList) (htb:w.heap[tb]?=some (.cells #[.func (.func 204) #[] #[.pointer (some ⟨sb,0,none⟩)]] te2 (0,0)))
 (hsb:w.heap[sb]?=some (.cells #[mv] te3 (0,0))) (hmv:CR w noG (.map tI Õ) s [mv]) :
 SeqStopsK Fence.wide 1 Tryz.prog 207 #[.pointer (some ⟨bb,0,none⟩),.pointer (some ⟨tb,0,none⟩),.pointer (some ⟨sb,0,none⟩)] (fun x:Int=>#[.int .i64 x]) (Below w.heap.size) (fun xs=>xs=l1++(l2++(l3++l4))) (fun pre=>pre <+: (l1++(l2++(l3++l4)))) (l1++(l2++(l3++l4))).length w:=by
 intro l J Jx W hbel hJ hJx hY h0;obtain⟨fl,r0,e0,hfl,hr0⟩:=id hbk;obtain⟨ga,r1,e1,hga,hr1⟩:=hr0;obtain⟨us,r2,e2,hus,hr2⟩:=hr1;obtain⟨lo,r3,e3,hlo,hr3⟩:=hr2;obtain⟨co,ko,e4,hco,hko⟩:=hr3;obtain⟨f1,f2,e5,hf1,hf2⟩:=hfl;have e6:f1=[.int .i64 x.1.1]:=hf1;have e7:f2=[.int .i64 x.1.2]:=hf2;obtain⟨gab,gac,e8⟩:=oY hga;obtain⟨lob,loc,e9⟩:=oY hlo;obtain⟨cob,coc,e10⟩:=oY hco;obtain⟨usb0,usc0,e11⟩:=oY hus;obtain⟨kob0,koc0,e12⟩:=oY hko;rw[e11] at hus;rw[e12] at hko;obtain⟨usb,usc,ub,uo,e13,hub,hU⟩:=IC hus;obtain⟨kob,koc,kb,kof,e14,hkb,hK⟩:=IC hko;rw[e13] at e11;rw[e14] at e12
 have hcb:cb=#[.int .i64 x.1.1,.int .i64 x.1.2,.slice gab (x.2.1:List (Val Õ)).length gac,.slice usb (x.2.2.1:List (Val Ä)).length usc,.slice lob (x.2.2.2.1:List (Val η)).length loc,.slice cob (x.2.2.2.2.1:List (Val ã)).length coc,.slice kob (x.2.2.2.2.2:List (Val Ä)).length koc]:=by
  rw[←dJ,e0,e1,e2,e3,e4,e5,e6,e7,e8,e9,e10,e11,e12];rfl
 obtain⟨g1,q1⟩:=Cn h1;obtain⟨g2,q2⟩:=Cn h2;obtain⟨g3,q3⟩:=Cn h3;obtain⟨g4,q4⟩:=Cn h4
 have gl2:l2.length=(x.2.2.2.1:List (Val η)).length:=by rw[g2]; simp[wn]
 have gl3:l3.length=(x.2.2.2.2.1:List (Val ã)).length:=by rw[g3]; simp[wn]
 have up1:upE (fun j=>l1[j]?.getD 0) (x.2.2.1:List (Val Ä)).length=l1:=by rw[←g1]; exact HX l1
 have up2:upE (fun j=>l2[j]?.getD 0) (x.2.2.2.1:List (Val η)).length=l2:=by rw[←gl2]; exact HX l2
 have up3:upE (fun j=>l3[j]?.getD 0) (x.2.2.2.2.1:List (Val ã)).length=l3:=by rw[←gl3]; exact HX l3
 have up4:upE (fun j=>l4[j]?.getD 0) (x.2.2.2.2.2:List (Val Ä)).length=l4:=by rw[←g4]; exact HX l4
 have at1:∀{xs:List (Int×Int)} {ls:List Int},(∀(i:Nat) (a:Int×Int),xs[i]?=some a→∃b,ls[i]?=some b∧ľ a.1 a.2 s=some b)→∀j,j<xs.length→ľ (xs[j]?.getD (0,0)).1 (xs[j]?.getD (0,0)).2 s=some (ls[j]?.getD 0):=by
  intro xs ls hq j hj;obtain⟨b,hb,hf⟩:=hq j xs[j] (cE hj);rw[cE hj,hb];exact hf
 have at2:∀{n:Nat} {ls:List Int} {f:Int→Option Int},(∀(i:Nat) (a:Int),(wn n)[i]?=some a→∃b,ls[i]?=some b∧f a=some b)→∀j,j<n→f (j:Int)=some (ls[j]?.getD 0):=by
  intro n ls f hq j hj;obtain⟨b,hb,hf⟩:=hq j j (by simp[wn,hj]);rw[hb]; exact hf
 have hbel':∀{W':World},Below w.heap.size W W'→Below w.heap.size w W':=fun h=>hbel.trans h;have hcell:∀{W':World} {p:Addr} {v:Value},Below w.heap.size w W'→w.cell? p=some v→p.block<w.heap.size→W'.cell? p=some v:=fun {W'} {p} {v} h hc hp=>(h.cell (p:=p) hp).trans hc;have lb:=Ċ hbb;have lt:=Ċ htb;have ls:=Ċ hsb
 have:=aep te 1 (by omega) l w.heap.size bb tb sb (.int .i64 x.1.1) (.int .i64 x.1.2) (.slice gab (x.2.1:List (Val Õ)).length gac) mv lb lt ls
  ub uo (x.2.2.1:List (Val Ä)).length usc kb kof (x.2.2.2.2.2:List (Val Ä)).length koc usb kob lob cob (x.2.2.2.1:List (Val η)).length loc (x.2.2.2.2.1:List (Val ã)).length coc hub hkb
  (fun j=>(x.2.2.1:List (Int×Int))[j]?.getD (0,0)) (fun j=>(x.2.2.2.2.2:List (Int×Int))[j]?.getD (0,0)) (fun j=>l1[j]?.getD 0) (fun j=>l2[j]?.getD 0) (fun j=>l3[j]?.getD 0) (fun j=>l4[j]?.getD 0)
  hlen.1 hlen.2.1 hlen.2.2.1 hlen.2.2.2 W ((hbel.block bb lb).trans (by rw[hbb,hcb])) (hcell hbel (by simp[World.cell?,htb]) lt) (hcell hbel (by simp[World.cell?,hsb]) ls)
  (fun j hj=>⟨hcell hbel (hU j hj).1 (hub (by omega)).2,hcell hbel (hU j hj).2 (hub (by omega)).2⟩) (fun j hj=>⟨hcell hbel (hK j hj).1 (hkb (by omega)).2,hcell hbel (hK j hj).2 (hkb (by omega)).2⟩)
  (fun j hj W' hW=>Sa (at1 q1 j hj) (((hbel' hW).block sb ls).trans hsb) (CR.below (hbel' hW) (cF _) hmv))
  (fun j hj W' hW=>Sa (at1 q4 j hj) (((hbel' hW).block sb ls).trans hsb) (CR.below (hbel' hW) (cF _) hmv))
  (fun j hj W' hW=>ab7 (at2 q2 j hj) (by have:=CR.below (hbel' hW) (cF _) hbk; rwa [hcb] at this) (CR.below (hbel' hW) (cF _) hmv))
  (fun j hj W' hW=>UR (at2 q3 j hj) (by have:=CR.below (hbel' hW) (cF _) hbk; rwa [hcb] at this) (CR.below (hbel' hW) (cF _) hmv))
  J Jx (fun pre W1 W2 hj hg=>hJ pre W1 W2 none hj hg (fun r e=>by cases e)) (fun pre W1 W2 hj hg=>hJx pre W1 W2 none hj hg (fun r e=>by cases e))
  (fun pre y W1 hj hl=>hY pre y W1 hj (by simp only[cI]; omega)) h0 hbel.size
 rw[up1,up2,up3,up4] at this;exact this
end Go.Proofs.ZzM
end

noncomputable section
set_option maxRecDepth 100000
namespace Go.Proofs.ZzM
open Go Go.Am Go.RowKit
section
variable [Ghost] {ρ:Type} {ν:Nat→Value} {w:World}
def peel (hq:Ghost.Q=none) {E:Env ρ} {call:List Nat→Bool→Nat→List AV→List Blk→(AV→List Blk→Option ρ)→Option ρ} {L:Nat} (hE:lJ E L call) (hD:tV E L call) (hj:E.joins=fun _ _ _ _=>none) {fid:Nat} {path:List Nat} (hp:path.length+2=L) {x y c:Code} {bid n:Nat} {S:St} {K:Exit→St→Option ρ} {r:ρ} {a:Act} {Q:Exit→Act→World→Prop}
 (hL:∀z∈Ü bid x,rA E path fid z.1 z.2) (e:goC E call fid path 0 bid (.seq x y) S K=some r) (H:Sim ν S a w)
 (hn:∀ν' S' a' w',Sim ν' S' a' w'→Ev 0 ν S.h w ν' S'.h w'→goC E call fid path 0 bid y S' K=some r→c.wpIn Fence.wide n E.P Q a' w')
 (hx:∀ν' S' a' w' e,e≠.normal→Sim ν' S' a' w'→Ev 0 ν S.h w ν' S'.h w'→K e S'=some r→Q e a' w'):(Code.seq x c).wpIn Fence.wide n E.P Q a w:=by
 simp only[goC,hj] at e;have hgo:=tE hE hD hp x bid S _ ν a w hL e H (dQ _);rw[YK hq] at hgo;refine wpIn_seq (wpIn_wide.2 (wpIn_wide.1 (wpIn_mono hgo fun e' a' w' ha=>?_)));obtain⟨ν',S',h1,h2,h3,h4,h5⟩:=ha
 cases e' with
 |normal=>exact hn ν' S' a' w' h1 h2 h5
 |exit id=>exact hx ν' S' a' w' _ (by simp) h1 h2 h5
 |goto l=>exact hx ν' S' a' w' _ (by simp) h1 h2 h5
 |ret=>exact hx ν' S' a' w' _ (by simp) h1 h2 h5
 |panic ch=>exact hx ν' S' a' w' _ (by simp) h1 h2 h5
 |outgrown=>exact hx ν' S' a' w' _ (by simp) h1 h2 h5
end
def abj {T:Array Value} {rb:Nat} {n:Int} {e:TypeId} {W:World} (h2:T.getD 2 undef=.pointer (some ⟨rb,0,none⟩)) (hc:W.heap[rb]?=some (.cells #[.int .i64 n] e (0,0))):(results Tryz.f72 T).run Tryz.prog W=.ok (.int .i64 n) W:=by
 letI:Ghost:=(Gk (fun _=>False) [] (none))
 have hl:(loadVar 38 ⟨rb,0,none⟩).run Tryz.prog W=.ok (.int .i64 n) W:=by
  have:=run_loadVar (P:=Tryz.prog) (w:=W) (t:=38) (agg:=false) (n:=1) (by kernel_rfl) (us:=[.int .i64 n]) rfl (fun _=>rfl) (a:=⟨rb,0,none⟩) (fun j v hj=>by
   have:=CellsAt.of_cells hc j v (by simpa using hj)
   cases j with
   |zero=>simpa[Addr.add] using this
   |succ j=>simp at hj)
  exact this
 have hr:Tryz.f72.results=#[.cell 2 38]:=by kernel_rfl
 unfold results;rw[hr,Array.mapM_eq_mapM_toList];simp only[Sem.run_bind,Sem.run_map,List.mapM_cons,List.mapM_nil,h2,asAddr,Sem.run_pure,Result.andThen_ok,hl];rfl
@[reducible] def gck (G:Nat→Prop) (M:Nat):Ghost:=(Gh G).re G [] none M
def ahf [Ghost] {ν:Nat→Value} {h:List Blk} {w:World} {x:Val È} {us:List Value} (hv:ú (VRc ν h w) (flat È x) us):CR w noG È x us:=by
 have h1:Ö È (flat È x)=some x:=rfl;have h2:ú (VRs w (Av ν h)) (flat È x) us:=hv.mono fun c u hu=>hu.1.data;exact CR.mono (fun _ hf=>hf.elim) (Ě h1 h2)
def AH (G:Nat→Prop) (y:Int) (w:World) (e:Ending) (w':World):Prop :=
 ∃u,e=.returned u∧RR w' G [tI] y u∧(∀b,b<w.heap.size→w'.heap[b]?=w.heap[b]?)∧w.heap.size≤w'.heap.size∧w'.os=w.os∧w'.tape=w.tape∧w'.output=w.output
def YP {G:Nat→Prop} {y:Int} {w0 w:World} {a:Act} {ms:List Nat} {rb:Nat} {e:TypeId} (hd:a.defers=ms.map mk1) (hn:ms.Nodup) (hD:∀k∈ms,w.heap[k]?=some (.deferred (some []))∧w0.heap.size≤k) (h2:a.tmps.getD 2 undef=.pointer (some ⟨rb,0,none⟩)) (hc:w.heap[rb]?=some (.cells #[.int .i64 y] e (0,0)))
 (hb:∀b,b<w0.heap.size→w.heap[b]?=w0.heap[b]?) (hsz:w0.heap.size≤w.heap.size) (h3:w.os=w0.os) (h4:w.tape=w0.tape) (h5:w.output=w0.output):LeavesInM Fence.wide 2 Tryz.prog Tryz.f72 a.tmps (AH G y w0) a.defers .returning w:=by
 rw[hd]
 have hne:rb∉ms:=fun h=>by rw[(hD rb h).1] at hc; cases hc
 refine rh ms w hn (fun k hk=>(hD k hk).1) fun w2 q1 q2 q3 q4 q5=>?_;exact⟨.int .i64 y,abj h2 ((q5 rb hne).trans hc),.int .i64 y,rfl,⟨[.int .i64 y],rfl,rfl⟩,fun b hlt=>(q5 b fun hm=>by have:=(hD b hm).2; omega).trans (hb b hlt),by rw[q1]; exact hsz,q2.trans h3,q3.trans h4,q4.trans h5⟩
def aha (S:St):ckK .ret S=(ac9 S).map .inl:=by
 unfold ckK
 cases ac9 S<;>rfl
def aag (S:St):ckK .normal S=if decide (78≤S.t.length)=true then some (.inr ([lk S.t 1,lk S.t 2,lk S.t 48],S.h)) else none:=by
 unfold ckK
 cases decide (78≤S.t.length)<;>rfl
def kh [Ghost] {ρ:Type} {E:Env ρ} (h0:E.loops=je []) (h1:E.ranges=fun _ _ _ _ _ _ _=>none) {path:List Nat} {fid bid:Nat} {b:LI}:rA E path fid bid b:=by
 cases b with
 |lp b=>exact fun m S K r ν a w e=>by rw[h0] at e; cases e
 |rf g ps x y=>exact fun m S K r ν a w e=>by rw[h1] at e; cases e
def af1 {ρ:Type} (E:Env ρ) (hP:E.P.follows .mixedOrders=true) (hlib:∀[Ghost],jO E→Ep E) (h0:E.loops=je []) (h1:E.ranges=fun _ _ _ _ _ _ _=>none) (hy:E.yld=none) [Ghost]:lJ E 2 (ů E 10) :=
 pN hlib (fun L call hE=>mu hP L call hE) (fun n hn hE _ _ path f fn c _ _ _ z _=>kh h0 h1) 10 (cF _) (g8 hy)
def agz:Code→String
 | .region _ ops _ => ((ops[0]?).map fun o => o.pos).getD ""
 | _ => ""
def rfA:Code→Code
 |.block _ (.rangeFunc _ _ a _)=>a
 |_=>.skip
def rfB:Code→Code
 |.block _ (.rangeFunc _ _ _ (.block _ (.seq a _)))=>a
 |_=>.skip
def rfC:Code→Code
 |.block _ (.rangeFunc _ _ _ (.block _ (.seq _ (.cond _ (.seq a _) _))))=>a
 |_=>.skip
def ag8:ckRF=Code.block 0 (Code.rangeFunc (.tmp 48) #[49] (XU (agz (rfA ckRF))) (afI (agz (rfB ckRF)) (agz (rfC ckRF)))):=by kernel_rfl
def af0:∀e∈ck_pt,jv Tryz.prog e.1 e.2:=Á LJ (Á BK (Á yX (Á LK Å)))
def ada {e:Exit} {S:St} {n:Int} (h:ckK2 e S=some n):e=.ret∧lk S.t 2=.box 1 0∧lkB S.h 1=.cells [.int .i64 n]:=by
 unfold ckK2 at h
 split at h
 ·split at h
  ·rename_i h2
   split at h
   ·rename_i h3;cases h;exact⟨rfl,h2,h3⟩
   ·cases h
  ·cases h
 ·cases h
def UA [Ghost] {ν:Nat→Value} {h:List Blk} {w:World} {n:Int} {id:Nat} (H:HR ν h w) (hl:lkB h id=.cells [.int .i64 n]):∃b e,ν id=.pointer (some ⟨b,0,none⟩)∧w.heap[b]?=some (.cells #[.int .i64 n] e (0,0)):=by
 have hB:=H.blk id;rw[hl] at hB;obtain⟨b,c,e,h1,h2,h3⟩:=hB;obtain⟨u,h4,h5⟩:=h3.one;have h6:u=.int .i64 n:=h5.1;refine⟨b,e,h1,?_⟩;rw[h2]
 have:c=#[.int .i64 n]:=by rw[←dJ,h4,h6]
 rw[this]
def F8 [Ghost] {ν:Nat→Value} {h:List Blk} {w:World} {id off:Nat} {v:Value} {b:Nat} (hv:VR ν h w (.box id off) v) (hb:ν id=.pointer (some ⟨b,0,none⟩)):v=.pointer (some ⟨b,off,none⟩):=by
 obtain⟨cs,b',h1,h2,h3⟩:=hv;rw[hb] at h2;cases h2;exact h3
def ag7 {G:Nat→Prop} {x:Val È} {s:Val (.map tI Õ)} {y:Int} (hS:ckS x=some y) {ν:Nat→Value} {w0 w6 W:World} {a:Act} (H:@HR (gck G w0.heap.size) ν (ckH x s 0) w6) (hb:Below w6.heap.size w6 W) {ms:List Nat} (hd:a.defers=ms.map mk1) (hn:ms.Nodup) (hms:∀k∈ms,W.heap[k]?=some (.deferred (some []))∧w0.heap.size≤k) (hlen:78≤a.tmps.size)
 (t1:@VR (gck G w0.heap.size) ν (ckH x s 0) w6 (.box 0 0) (a.tmps.getD 1 undef)) (t2:@VR (gck G w0.heap.size) ν (ckH x s 0) w6 (.box 1 0) (a.tmps.getD 2 undef))
 (h0:∀b,b<w0.heap.size→w6.heap[b]?=w0.heap[b]?∧¬BQ ν (ckH x s 0) b) (hsz:w0.heap.size≤w6.heap.size) (h3:w6.os=w0.os) (h4:w6.tape=w0.tape) (h5:w6.output=w0.output) :
 O3.wpIn Fence.wide 2 Tryz.prog (bodyPostM Fence.wide 2 Tryz.prog Tryz.f72 (AH G y w0)) a W:=by
 have hlive:∀b,BQ ν (ckH x s 0) b→b<w6.heap.size:=fun b hl=>@HR.ltA (gck G w0.heap.size) _ _ _ H b (.inl hl)
 have t1':∃b,ν 0=.pointer (some ⟨b,0,none⟩)∧a.tmps.getD 1 undef=.pointer (some ⟨b,0,none⟩):=by
  obtain⟨cs,b,_,h2,h3⟩:=t1;exact⟨b,h2,h3⟩
 have t2':∃b,ν 1=.pointer (some ⟨b,0,none⟩)∧a.tmps.getD 2 undef=.pointer (some ⟨b,0,none⟩):=by
  obtain⟨cs,b,_,h2,h3⟩:=t2;exact⟨b,h2,h3⟩
 letI:Ghost:=gck G w0.heap.size
 have H1:HR ν (ckH x s 0) w6:=H;have H2:HR ν (ckH x s 0) W:=(H1.grow (fun b hlt=>hb.block b hlt) hb.size hb.os hb.tape hb.output 0).2;have hdraw:∀L call,lJ (afd Int) L call→tV (afd Int) L call:=mu hmix;have hl0:(afd Int).loops=je []:=rfl;have hEnv:lJ (afd Int) 2 (ů (afd Int) 10):=af1 (afd Int) hmix (fun {_} _=>zx af0 (afd Int) rfl rfl rfl rfl rfl (ŏ rfl) (jY rfl) (g8 rfl)) rfl rfl rfl;have law:=ck_suf x s;rw[hS] at law
 have sim:Sim ν {t:=[.any,.box 0 0,.box 1 0]++List.replicate 75 .any,h:=ckH x s 0} a W:=by
  refine⟨⟨⟨ms,hd.trans (df _).symm,hn,hms⟩,fun l hl=>(by cases hl),dQ _,cW hsz hb.size⟩,by simpa using hlen,fun i=>?_,H2⟩;simp only[OE];rcases i with _|_|_|i
  ·trivial
  ·obtain⟨b,g1,g2⟩:=t1';exact⟨_,b,rfl,g1,g2⟩
  ·obtain⟨b,g1,g2⟩:=t2';exact⟨_,b,rfl,g1,g2⟩
  ·trivial
 refine wpIn_wide.2 (wpIn_wide.1 (wpIn_mono (tE hEnv (hdraw _ _ hEnv) rfl O3 0 _ _ ν a W (fun z _=>kh hl0 rfl) law sim (dQ _)) fun e a' w' ha=>?_));obtain⟨ν',S',g1,g2,_,_,g5⟩:=ha;obtain⟨rfl,k2,k3⟩:=ada g5;obtain⟨rb,te,r1,r2⟩:=UA g1.heap k3;have r3:=g1.tmps 2;rw[k2] at r3;have r4:=F8 r3 r1;obtain⟨⟨ms2,m1,m2,m3⟩,_⟩:=g1.defers;refine YP (w:=w') (a:=a') (G:=G) (y:=y) (w0:=w0) (rb:=rb) (m1.trans (df _)) m2 m3 r4 r2 (fun b hlt=>?_) (by have:=g2.size; have:=hb.size; omega) (g2.os.trans (hb.os.trans h3)) (g2.tape.trans (hb.tape.trans h4)) (g2.output.trans (hb.output.trans h5));have h01:=h0 b hlt
 have hlt6:b<w6.heap.size:=by omega
 have hltW:b<W.heap.size:=by have:=hb.size; omega
 exact(g2.keep b hltW h01.2).1.trans ((hb.block b hlt6).trans h01.1)
set_option maxHeartbeats 2000000 in
def aah (G:Nat→Prop) (x:Val È) (y:Int) (hF':ī x=some y) (w:World) (vals:List Value) (hG:∀b,G b→b<w.heap.size) (hAL:AL w G [È] x vals) :
 (∃fn c,Tryz.prog.funcs[72]?=some fn∧fn.body=some c)∧CallsIn Fence.wide 0 Tryz.prog 72 vals.toArray w (AH G y w):=by
 rw[afc] at hF'
 letI:Ghost:=gck G w.heap.size
 have hpt:=af0;have hdraw:∀L call,lJ (ckE ckR) L call→tV (ckE ckR) L call:=mu hmix;have h0:(ckE ckR).loops=je []:=rfl;have hEnv:lJ (ckE ckR) 2 (ů (ckE ckR) 10):=af1 (ckE ckR) hmix (fun {_} _=>zx hpt (ckE ckR) rfl rfl rfl rfl rfl (ŏ rfl) (jY rfl) (g8 rfl)) rfl rfl rfl;have hD:=hdraw _ _ hEnv;have H:HR (fun _=>undef) [] w:=⟨fun _=>trivial,fun _ _ _ h=>(by cases h),hG,fun _ _ h=>(by cases h)⟩;have hav:∀b,Av (fun _=>undef) [] b→G b:=fun b hb=>hb.elim (fun⟨_,h,_⟩=>by cases h) id;have hargs:ú (VR (fun _=>undef) [] w) (W6 [È] x) vals:=AL.VR (hAL.mono hav);refine⟨⟨Tryz.f72,_,Tryz.func72,af2⟩,?_⟩
 have hlen:vals.length=1:=by
  have:=hargs.length;simpa[W6,acL] using this.symm
 cases hM:ckM x with
 |none=>rw[hM] at hF'; cases hF'
 |some r0 =>
 rw[hM] at hF';have law:=ck_pre x;rw[hM] at law;refine callsIn_wide.2 (callsIn_wide.1 (callsIn_of_wp_marks (n:=2) Tryz.func72 af2 trivial ?_ (R:=AH G y w)))
 have hS:Sim (fun _=>undef) {t:=W6 [È] x++List.replicate 77 .any,h:=[]} {tmps:=vals.toArray++Array.replicate (Tryz.f72.ntmps-vals.toArray.size) undef,defers:=[]} w:=by
  refine⟨⟨⟨[],rfl,f7,fun _ h=>(by cases h)⟩,fun l hl=>(by cases hl),dQ _,cF _⟩,?_,fun i=>?_,H⟩
  ·have:Tryz.f72.ntmps=78:=by kernel_rfl
   have hl2:(W6 [È] x).length=1:=rfl;simp[this,hlen,hl2]
  ·simp only[OE];rcases cZ i (W6 [È] x).length with hi|hi
   ·have:=ú.lk (R:=VR (fun _=>undef) [] w) (fun _=>trivial) i hargs
    have hv:i<vals.length:=by rw[←hargs.length]; exact hi
    have h2:(vals.toArray++Array.replicate (Tryz.f72.ntmps-vals.toArray.size) undef).getD i undef=vals.getD i undef:=by
     simp[dU,fg,hv]
    rw[h2]; exact this
   ·rw[aeD _ _ hi]; trivial
 -- the ways out ahead of the loop
 have out:∀ν' S' a' w' e,e≠.normal→Sim ν' S' a' w'→Ev 0 (fun _=>undef) [] w ν' S'.h w'→ckK e S'=some r0→bodyPostM Fence.wide 2 Tryz.prog Tryz.f72 (AH G y w) e a' w':=by
  intro ν' S' a' w' e hne hS' hE' hk
  cases e with
  |normal=>exact(hne rfl).elim
  |ret =>
   rw[aha] at hk
   cases hr:ac9 S' with
   |none=>rw[hr] at hk; cases hk
   |some n =>
    rw[hr,dK] at hk;cases hk
    have hyn:n=y:=by simpa using hF'
    subst hyn;unfold ac9 at hr
    split at hr
    ·rename_i v hv;show LeavesInM _ _ _ _ _ _ a'.defers _ _;obtain⟨⟨ms,m1,m2,m3⟩,_,m4,m5⟩:=hS'.defers;rw[show a'.defers=ms.map mk1 from m1.trans (df _)];refine rh ms w' m2 (fun k hk=>(m3 k hk).1) fun w2 q1 q2 q3 q4 q5=>?_
     have hk2:∀(b:Nat) (o:Obj),w'.heap[b]?=some o→Md o=true∨b<(gck G w.heap.size).B→w2.heap[b]?=some o:=fun b o hb hd=>by
      have hbm:b∉ms:=fun hm=>by
       rw[(m3 b hm).1] at hb; cases hb;rcases hd with hd|hd
       ·cases hd
       ·exact absurd hd (Nat.not_lt_zero _)
      rw[q5 b hbm]; exact hb
     have KG:lH (gck G w.heap.size) ν' S'.h w' (gck G w.heap.size).G w2:=lH.nds q2 q3 q4 (by omega) hk2
     have sim2:Sim ν' S' {a' with defers:=[]} w2:=⟨⟨⟨[],rfl,f7,fun _ h=>(by cases h)⟩,fun l hl=>(by cases hl),dQ _,by rw[q1]; exact m5⟩,hS'.len,fun i=>VR.step (g:=gck G w.heap.size) (D:=[]) (Q:=none) (M:=w.heap.size) KG (hS'.tmps i),
      HR.step (g:=gck G w.heap.size) (D:=[]) (Q:=none) (M:=w.heap.size) KG (fun b hb=>by rw[q1]; exact hS'.heap.ghlt b hb) (fun b hb hg=>by obtain⟨id,h1,h2⟩:=hb; exact hS'.heap.ghne id b h1 h2 hg) hS'.heap⟩
     obtain⟨u,r1,r2⟩:=NS sim2 hv;exact⟨u,r1,u,rfl,XV sim2.heap [tI] r2 hr,fun b hb=>(q5 b fun hm=>by have m7:w.heap.size≤b:=(m3 b hm).2; omega).trans (hE'.keep b hb fun⟨_,h,_⟩=>by cases h).1,by rw[q1]; exact hE'.size,q2.trans hE'.os,q3.trans hE'.tape,q4.trans hE'.output⟩
    ·cases hr
  |exit id=>cases hk
  |goto l=>cases hk
  |panic ch=>cases hk
  |outgrown=>cases hk
 have outT:∀{ν₁:Nat→Value} {h₁:List Blk} {w₁:World},Ev 0 (fun _=>undef) [] w ν₁ h₁ w₁→∀ν' S' a' w' e,e≠.normal→Sim ν' S' a' w'→Ev 0 ν₁ h₁ w₁ ν' S'.h w'→ckK e S'=some r0→bodyPostM Fence.wide 2 Tryz.prog Tryz.f72 (AH G y w) e a' w' :=
  fun hE ν' S' a' w' e hne hS' hE' hk=>out ν' S' a' w' e hne hS' (hE.trans hE' (cF _)) hk
 refine peel rfl hEnv hD rfl rfl (fun z _=>kh h0 rfl) law hS (fun ν1 S1 a1 w1 s1 e1 k1=>?_) out;refine peel rfl hEnv hD rfl rfl (fun z _=>kh h0 rfl) k1 s1 (fun ν2 S2 a2 w2 s2 e2 k2=>?_) (outT e1);have t2:=e1.trans e2 (cF _);refine peel rfl hEnv hD rfl rfl (fun z _=>kh h0 rfl) k2 s2 (fun ν3 S3 a3 w3 s3 e3 k3=>?_) (outT t2);have t3:=t2.trans e3 (cF _);refine peel rfl hEnv hD rfl rfl (fun z _=>kh h0 rfl) k3 s3 (fun ν4 S4 a4 w4 s4 e4 k4=>?_) (outT t3);have t4:=t3.trans e4 (cF _);refine peel rfl hEnv hD rfl rfl (fun z _=>kh h0 rfl) k4 s4 (fun ν5 S5 a5 w5 s5 e5 k5=>?_) (outT t4);have t5:=t4.trans e5 (cF _);refine wpIn_seq (wpIn_seq (wpIn_wide.2 (wpIn_wide.1 (wpIn_mono (tE hEnv hD rfl ckA5 0 S5 _ ν5 a5 w5 (fun z _=>kh h0 rfl) k5 s5 (dQ _)) fun e' a6 w6 ha=>?_))));obtain⟨ν,S,s6,e6,_,_,k6⟩:=ha;have t6:=t5.trans e6 (cF _)
 have other:∀e,e≠.normal→ckK e S=some r0→Exit.then (Code.wpIn Fence.wide 2 Tryz.prog O3 (bodyPostM Fence.wide 2 Tryz.prog Tryz.f72 (AH G y w))) (bodyPostM Fence.wide 2 Tryz.prog Tryz.f72 (AH G y w)) e a6 w6:=by
  intro e hne hk;have:=out ν S a6 w6 e hne s6 t6 hk
  cases e<;>first|exact(hne rfl).elim|exact this
 cases e' with
 |exit id=>exact other _ (by simp) k6
 |goto l=>exact other _ (by simp) k6
 |ret=>exact other _ (by simp) k6
 |panic ch=>exact other _ (by simp) k6
 |outgrown=>exact other _ (by simp) k6
 |normal =>
 clear other;rw[aag] at k6
 split at k6<;>try (cases k6; done)
 rename_i h78
 have h78':78≤S.t.length:=by simpa using h78
 cases k6;obtain⟨hlens,s,hs,hq⟩:=ag9 hM;simp only[Prod.mk.injEq,List.cons.injEq,and_true] at hq;obtain⟨⟨q1,q2,q48⟩,qh⟩:=hq
 have hF2:SG (nB x s) some (ckS x)=some y:=by
  simp only at hF';rw[hs] at hF';exact hF'
 -- what the errors are
 obtain⟨L,hL,hLy⟩:∃L,nB x s=some L∧(match L.find? (fun e=>e != 0) with|some e=>some e|none=>ckS x)=some y:=by
  unfold SG at hF2
  cases hl:nB x s with
  |none=>rw[hl] at hF2; cases hF2
  |some L=>rw[hl] at hF2; exact⟨L,rfl,hF2⟩
 obtain⟨l1,l2,l3,l4,m1,m2,m3,m4,rfl⟩:∃l1 l2 l3 l4,Jb (fun u=>ľ u.1 u.2 s) (x.2.2.1:List (Int×Int))=some l1∧Jb (fun i=>Κ x s i) (wn (x.2.2.2.1:List (Val η)).length)=some l2 ∧
  Jb (fun i=>ň x s i) (wn (x.2.2.2.2.1:List (Val ã)).length)=some l3∧Jb (fun u=>ľ u.1 u.2 s) (x.2.2.2.2.2:List (Int×Int))=some l4∧L=l1++(l2++(l3++l4)):=by
  unfold nB at hL
  cases m1:Jb (fun u=>ľ u.1 u.2 s) (x.2.2.1:List (Int×Int)) with
  |none=>rw[m1] at hL; cases hL
  |some l1 =>
  rw[m1] at hL
  cases m2:Jb (fun i=>Κ x s i) (wn (x.2.2.2.1:List (Val η)).length) with
  |none=>simp only[Ã,m2] at hL; cases hL
  |some l2 =>
  cases m3:Jb (fun i=>ň x s i) (wn (x.2.2.2.2.1:List (Val ã)).length) with
  |none=>simp only[Ã,m2,m3] at hL; cases hL
  |some l3 =>
  cases m4:Jb (fun u=>ľ u.1 u.2 s) (x.2.2.2.2.2:List (Int×Int)) with
  |none=>simp only[Ã,m2,m3,m4] at hL; cases hL
  |some l4 =>
  simp only[Ã,m2,m3,m4] at hL;cases hL;exact⟨l1,l2,l3,l4,rfl,rfl,rfl,rfl,rfl⟩
 -- the blocks
 obtain⟨T,Hh⟩:=S;dsimp only at q1 q2 q48 qh h78';subst qh;have p1:=s6.tmps 1;have p2:=s6.tmps 2;have p48:=s6.tmps 48;dsimp only at p1 p2 p48;rw[q1] at p1;rw[q2] at p2;rw[q48] at p48;obtain⟨rb,te1,n1,hrb⟩:=UA (id:=1) (n:=0) s6.heap rfl;have hB2:BR ν (ckH x s 0) w6 2 (.cells (flat È x)):=s6.heap.blk 2;have hB3:BR ν (ckH x s 0) w6 3 (.cells [.mp tI Õ s]):=s6.heap.blk 3;have hB4:BR ν (ckH x s 0) w6 4 (.cells [.fn (.func 204) [] [.box 3 0]]):=s6.heap.blk 4;obtain⟨bb,cb,te,n2,hbb,hb2⟩:=hB2;obtain⟨sb,cs3,te3,n3,hsb,hb3⟩:=hB3;obtain⟨tb,cs4,te2,n4,htb,hb4⟩:=hB4;obtain⟨mv,z3,hm3⟩:=hb3.one;obtain⟨fv,z4,hm4⟩:=hb4.one;have hmv:CR w6 noG (.map tI Õ) s [mv]:=CR.mono (fun _ hf=>hf.elim) (show CR w6 (Av ν (ckH x s 0)) (.map tI Õ) s [mv] from hm3.1)
 have hc3:cs3=#[mv]:=by rw[←dJ,z3]
 have hfv:fv=.func (.func 204) #[] #[.pointer (some ⟨sb,0,none⟩)]:=by
  obtain⟨fs,cs,h1,h2,h3⟩:=hm4.1
  have e1:fs=#[]:=by rw[←dJ]; exact h2.nil_left
  obtain⟨u,e2,h4⟩:=h3.one;have e3:u=.pointer (some ⟨sb,0,none⟩):=F8 (w:=w6) (id:=3) (off:=0) h4 n3
  have e4:cs=#[.pointer (some ⟨sb,0,none⟩)]:=by rw[←dJ,e2,e3]
  rw[h1,e1,e4]
 have hc4:cs4=#[fv]:=by rw[←dJ,z4]
 rw[hc3] at hsb;rw[hc4,hfv] at htb
 have hg:a6.tmps.getD 48 undef=.func (.func 207) #[] #[.pointer (some ⟨bb,0,none⟩),.pointer (some ⟨tb,0,none⟩),.pointer (some ⟨sb,0,none⟩)]:=by
  obtain⟨fs,cs,h1,h2,h3⟩:=p48
  have e1:fs=#[]:=by rw[←dJ]; exact h2.nil_left
  have hl:=h3.length
  obtain⟨u1,u2,u3,e2⟩:∃u1 u2 u3,cs.toList=[u1,u2,u3]:=by
   rcases hcs:cs.toList with _|⟨u1,_|⟨u2,_|⟨u3,_|⟨u4,t⟩⟩⟩⟩<;>rw[hcs] at hl<;>simp at hl
   exact⟨u1,u2,u3,rfl⟩
  rw[e2] at h3;have e3:u1=.pointer (some ⟨bb,0,none⟩):=F8 (w:=w6) (id:=2) (off:=0) h3.1 n2;have e4:u2=.pointer (some ⟨tb,0,none⟩):=F8 (w:=w6) (id:=4) (off:=0) h3.2.1 n4;have e5:u3=.pointer (some ⟨sb,0,none⟩):=F8 (w:=w6) (id:=3) (off:=0) h3.2.2.1 n3;rw[h1,e1];congr 1;rw[←dJ,e2,e3,e4,e5]
 have hseq:=aeh m1 m2 m3 m4 hlens hbb (ahf hb2) htb hsb hmv;have h2:=F8 p2 n1;have hsz:78≤a6.tmps.size:=cW h78' s6.len
 have hkeep:∀b,b<w.heap.size→w6.heap[b]?=w.heap[b]?∧¬BQ ν (ckH x s 0) b:=fun b hb=>t6.keep b hb fun⟨_,h,_⟩=>by cases h
 obtain⟨⟨ms,m1',m2',m3'⟩,_⟩:=s6.defers;have hdef:a6.defers=ms.map mk1:=m1'.trans (df _);show ckRF.wpIn Fence.wide 2 Tryz.prog (Exit.then (O3.wpIn Fence.wide 2 Tryz.prog (bodyPostM Fence.wide 2 Tryz.prog Tryz.f72 (AH G y w))) (bodyPostM Fence.wide 2 Tryz.prog Tryz.f72 (AH G y w))) a6 w6;rw[ag8];refine wpIn_block (agt hseq hg h2 hsz hrb (fun D W hall hbel hDl hDo=>?_) (fun D W z hz hput hDl hDo=>?_))
 ·have hck:ckS x=some y:=by
   have:(l1++(l2++(l3++l4))).find? (fun e=>e != 0)=none:=d9.2 fun z hz=>by rw[hall z hz]; simp
   rw[this] at hLy;exact hLy
  have hDn:D∉ms:=fun hm=>by have:=Ċ (m3' D hm).1; omega
  exact ag7 (s:=s) (ms:=D::ms) hck s6.heap hbel (by show mark D::a6.defers=_; rw[hdef]; rfl) (eX.2 ⟨hDn,m2'⟩) (fun k hk=>by
   rcases cM.1 hk with rfl|hk
   ·exact⟨hDo,cW t6.size hDl⟩
   ·exact⟨(hbel.block k (Ċ (m3' k hk).1)).trans (m3' k hk).1,(m3' k hk).2⟩) hsz p1 p2 hkeep t6.size t6.os t6.tape t6.output
 ·have hzy:z=y:=by
   rw[hz] at hLy;simpa using hLy
  subst hzy;obtain⟨te5,hcell⟩:=hput.cell;have hlb:=Ċ hrb;have hlive:BQ ν (ckH x s 0) rb:=⟨1,rfl,by rw[n1]; rfl⟩
  have hDn:D∉ms:=fun hm=>by have:=Ċ (m3' D hm).1; omega
  exact YP (a:={a6 with defers:=mark D::a6.defers}) (w:=W) (ms:=D::ms) (by show mark D::a6.defers=_; rw[hdef]; rfl) (eX.2 ⟨hDn,m2'⟩) (fun k hk=>by
   rcases cM.1 hk with rfl|hk
   ·exact⟨hDo,cW t6.size hDl⟩
   ·exact⟨(hput.block k (Ċ (m3' k hk).1) (fun e=>by have h9:=(m3' k hk).1; rw[e,hrb] at h9; cases h9)).trans (m3' k hk).1,(m3' k hk).2⟩) h2 hcell
   (fun b hb=>(hput.block b (by have:=t6.size; omega) (fun e=>(hkeep b hb).2 (e▸hlive))).trans (hkeep b hb).1) (by have:=t6.size; have:=hput.size; omega) (hput.os.trans t6.os) (hput.tape.trans t6.tape) (hput.output.trans t6.output)
def tQ:jv Tryz.prog 72 o8:=fun G x y hF w vals hG hAL=>aah G x y hF w vals hG hAL
end Go.Proofs.ZzM
end

noncomputable section
namespace Go.Proofs
open Go.RowKit
attribute [local go_sem] Oper.semAt_some
def Y6 (w:World) (o o':Obj):((w.alloc o).alloc o').heap[w.heap.size+1]?=some o':=by
 simp only[World.alloc];rw[show w.heap.size+1=(w.heap.push o).size from(Array.size_push _).symm];exact Array.getElem?_push_size
def adI (w:World) (o o':Obj):((w.alloc o).alloc o').heap[w.heap.size]?=some o:=by
 simp only[World.alloc];rw[Array.getElem?_push_lt (by rw[Array.size_push]; omega),Array.getElem_push_eq]
def Vc (w:World) (o o':Obj) (b:Nat) (hb:b<w.heap.size):((w.alloc o).alloc o').heap[b]?=w.heap[b]?:=by
 simp only[World.alloc];rw[Array.getElem?_push_lt (by simp; omega),Array.getElem_push_lt hb,Array.getElem?_eq_getElem hb]
def af3 {W:World} {b:Nat} {x0 x1 x2 x3 x4:Value} {t:TypeId} (h:W.heap[b]?=some (.cells #[x0,x1,x2,x3,x4] t (0,0))) :
 W.cell? ⟨b,0,none⟩=some x0∧W.cell? ⟨b,1,none⟩=some x1∧W.cell? ⟨b,2,none⟩=some x2∧W.cell? ⟨b,3,none⟩=some x3∧W.cell? ⟨b,4,none⟩=some x4∧∀j,W.frozen? ⟨b,j,none⟩=false:=by
 refine⟨?_,?_,?_,?_,?_,fun j=>?_⟩<;>simp only[World.cell?,World.frozen?,h]<;>rfl
def set5 {W:World} {b:Nat} {c0 c1 c2 c3 c4:Value} {x0 x1 x2 x3 x4:Value} {t:TypeId} (h:W.heap[b]?=some (.cells #[x0,x1,x2,x3,x4] t (0,0))) :
 (((((W.setCell ⟨b,0,none⟩ c0).setCell ⟨b,1,none⟩ c1).setCell ⟨b,2,none⟩ c2).setCell ⟨b,3,none⟩ c3).setCell ⟨b,4,none⟩ c4)=W.setRow b #[c0,c1,c2,c3,c4]:=by
 rw[setCell_eq_setRow W b 0 _ t (0,0) c0 h,setCell_eq_setRow _ b 1 _ t (0,0) c1 (setRow_heap _ _ _ _ t _ h),setRow_setRow,setCell_eq_setRow _ b 2 _ t (0,0) c2 (setRow_heap _ _ _ _ t _ h),setRow_setRow,
  setCell_eq_setRow _ b 3 _ t (0,0) c3 (setRow_heap _ _ _ _ t _ h),setRow_setRow,setCell_eq_setRow _ b 4 _ t (0,0) c4 (setRow_heap _ _ _ _ t _ h),setRow_setRow]
 rfl
def Zs {T:Array Value} {b:Nat} {c0 c1 c2 c3 c4:Int} {e:TypeId} {W:World} (h2:T.getD 2 undef=.pointer (some ⟨b,0,none⟩)) (hc:W.heap[b]?=some (.cells #[.int .i64 c0,.int .i64 c1,.int .i64 c2,.int .i64 c3,.int .i64 c4] e (0,0))):(results Tryz.f220 T).run Tryz.prog W=.ok (.agg #[.int .i64 c0,.int .i64 c1,.int .i64 c2,.int .i64 c3,.int .i64 c4]) W:=by
 letI:Go.Am.Ghost:=Go.Am.Gh fun _=>False
 have hl:(loadVar 250 ⟨b,0,none⟩).run Tryz.prog W=.ok (.agg #[.int .i64 c0,.int .i64 c1,.int .i64 c2,.int .i64 c3,.int .i64 c4]) W:=by
  have:=Go.Am.run_loadVar (P:=Tryz.prog) (w:=W) (t:=250) (agg:=true) (n:=5) (by kernel_rfl) (us:=[.int .i64 c0,.int .i64 c1,.int .i64 c2,.int .i64 c3,.int .i64 c4]) rfl (fun h=>by cases h) (a:=⟨b,0,none⟩) (fun j v hj=>by
   have:=Go.Am.CellsAt.of_cells hc j v (by simpa using hj)
   have ha:(⟨b,0,none⟩:Addr).add j=⟨b,j,none⟩:=by unfold Addr.add; split<;>simp_all
   rw[ha]; simpa using this)
  exact this
 have hr:Tryz.f220.results=#[.cell 2 250]:=by kernel_rfl
 unfold results;rw[hr,Array.mapM_eq_mapM_toList];simp only[Sem.run_bind,Sem.run_map,List.mapM_cons,List.mapM_nil,h2,asAddr,Sem.run_pure,Result.andThen_ok,hl];rfl
set_option maxRecDepth 100000 in
set_option maxHeartbeats 1000000 in
def aem (v:Value) (w:World) (c0 c1 c2 c3 c4:Int) (n:Int)
 (hcopy : ∀ W, (∀ b, b < w.heap.size → W.heap[b]? = w.heap[b]?) → W.heap[w.heap.size + 1]? = some (.cells #[.int .i64 0, .int .i64 0, .int .i64 0, .int .i64 0, .int .i64 0] 250 (0, 0)) → (Builtin.copy_ #[51, 51] 3 #[.slice (some ⟨w.heap.size + 1, 0, none⟩) 5 5, v]).run Tryz.prog W = .ok (.int .i64 n) (W.setRow (w.heap.size + 1) #[.int .i64 c0, .int .i64 c1, .int .i64 c2, .int .i64 c3, .int .i64 c4])) :
  CallsIn Fence.wide 0 Tryz.prog 220 #[v] w fun e W'=>e=.returned (.agg #[.int .i64 c0,.int .i64 c1,.int .i64 c2,.int .i64 c3,.int .i64 c4])∧(∀b,b<w.heap.size→W'.heap[b]?=w.heap[b]?)∧w.heap.size≤W'.heap.size∧W'.os=w.os∧W'.tape=w.tape∧W'.output=w.output:=by
 refine callsIn_of_wp Tryz.func220 rfl trivial ?_ rfl;simp only[Tryz.ntmps220,eR,cS,dX,Nat.reduceAdd,Nat.reduceSub,Array.replicate_succ,Array.replicate_zero,List.push_toArray,gw,eO,dI]
 gi_wp2
 rw[hcopy _ (Vc _ _ _) (Y6 _ _ _)];generalize hW:World.setRow _ _ _=W1
 have g1:W1.heap[w.heap.size+1]?=some (.cells #[.int .i64 c0,.int .i64 c1,.int .i64 c2,.int .i64 c3,.int .i64 c4] 250 (0,0)):=by
  rw[←hW]; exact setRow_heap _ _ _ _ 250 _ (Y6 _ _ _)
 have g2:W1.heap[w.heap.size]?=some (.cells #[.int .i64 0,.int .i64 0,.int .i64 0,.int .i64 0,.int .i64 0] 250 (0,0)):=by
  rw[←hW,setRow_other _ _ _ _ (by omega)]; exact adI _ _ _
 have g3:∀b,b<w.heap.size→W1.heap[b]?=w.heap[b]?:=fun b hb=>by
  rw[←hW,setRow_other _ _ _ _ (by omega)]; exact Vc _ _ _ b hb
 have g4:W1.os=w.os∧W1.tape=w.tape∧W1.output=w.output∧W1.heap.size=w.heap.size+2:=by
  rw[←hW]; refine⟨rfl,rfl,rfl,?_⟩;rw[size_setRow]; simp only[World.alloc,Array.size_push]
 clear hW hcopy;obtain⟨l0,l1,l2,l3,l4,_⟩:=af3 g1;obtain⟨z0,z1,z2,z3,z4,zf⟩:=af3 g2
 gi_wp2
 rw[set5 g2];refine bodyPost_ret (Zs rfl (setRow_heap _ _ _ _ 250 _ g2)) rfl ?_;exact⟨rfl,fun b hb=>(setRow_other _ _ _ _ (by omega)).trans (g3 b hb),by rw[size_setRow]; omega,g4.1,g4.2.1,g4.2.2.1⟩
end Go.Proofs
namespace Go.Proofs.ZzM
open Go Go.Am Go.Proofs
def agr (xs:List Int):(#[Value.int .i64 0,.int .i64 0,.int .i64 0,.int .i64 0,.int .i64 0].toList.take 0++(xs.take 5).map (Value.int .i64 ·)++#[Value.int .i64 0,.int .i64 0,.int .i64 0,.int .i64 0,.int .i64 0].toList.drop (0+((xs.take 5).map (Value.int .i64 ·)).length)).toArray =
 #[.int .i64 (xs.getD 0 0),.int .i64 (xs.getD 1 0),.int .i64 (xs.getD 2 0),.int .i64 (xs.getD 3 0),.int .i64 (xs.getD 4 0)]:=by
 rcases xs with _|⟨a,_|⟨b,_|⟨c,_|⟨d,_|⟨e,r⟩⟩⟩⟩⟩<;>rfl
def adf:jv Tryz.prog 220 SP:=by
 intro G x y hF w vals hG hAL;obtain⟨v,rfl,us,hus,hv⟩:=hAL;change List Int at x;obtain⟨base,cap,rfl,hcap,hcase⟩:=hus;have hv:v=.slice base (x:List Int).length cap:=hv;subst hv;have hy:y=((x:List Int).getD 0 0,(x:List Int).getD 1 0,(x:List Int).getD 2 0,(x:List Int).getD 3 0,(x:List Int).getD 4 0):=(Option.some.inj hF).symm;refine⟨⟨Tryz.f220,_,Tryz.func220,rfl⟩,?_⟩
 have hcopy:∀W:World,(∀b,b<w.heap.size→W.heap[b]?=w.heap[b]?)→W.heap[w.heap.size+1]?=some (.cells #[.int .i64 0,.int .i64 0,.int .i64 0,.int .i64 0,.int .i64 0] 250 (0,0)) →
  (Builtin.copy_ #[51,51] 3 #[.slice (some ⟨w.heap.size+1,0,none⟩) 5 5,.slice base (x:List Int).length cap]).run Tryz.prog W=.ok (.int .i64 ((((x:List Int).take 5).map (Value.int .i64 ·)).length:Nat)) (W.setRow (w.heap.size+1) #[.int .i64 ((x:List Int).getD 0 0),.int .i64 ((x:List Int).getD 1 0),.int .i64 ((x:List Int).getD 2 0),.int .i64 ((x:List Int).getD 3 0),.int .i64 ((x:List Int).getD 4 0)]):=by
  intro W hlow hcell;rcases hcase with h0|⟨b,off,rfl,hGb,hb,hcs⟩
  ·have h0:x=([]:List Int):=h0;subst h0;rw[run_copy_none W 51 51 3 3 _ _ 5 5 _ _ (by kernel_rfl) (by kernel_rfl) (by simp)];exact congrArg _ (setRow_self W _ _ 250 (0,0) hcell).symm
  ·have:=run_copy_row Tryz.prog W 51 51 3 3 (w.heap.size+1) 0 5 5 ⟨b,off,none⟩ (x:List Int).length cap _ 250 (((x:List Int).take 5).map (Value.int .i64 ·)) (by kernel_rfl) (by kernel_rfl) hcell (by simp[Nat.min_comm]) (fun j u hj=>by
    rw[eD] at hj
    cases hx:((x:List Int).take 5)[j]? with
    |none=>rw[hx] at hj; cases hj
    |some n =>
     rw[hx] at hj;cases hj
     have hx2:(x:List Int)[j]?=some n:=by
      rw[dN] at hx
      split at hx
      ·exact hx
      ·cases hx
     obtain⟨us,q1,q2⟩:=hcs j n hx2;have q1:us=[.int .i64 n]:=q1;subst q1;have q3:=q2 0 _ rfl
     have ha:(⟨b,off,none⟩:Addr).add j=⟨b,off+j,none⟩:=by unfold Addr.add; split<;>simp_all
     rw[ha,World.cell?_of_block (w:=w) (by exact hlow b hb)]
     simpa[Ty.size] using q3) (by simp; omega) (fun u hu=>by
    obtain⟨n,_,rfl⟩:=dj.1 hu
    rfl)
   rw[agr] at this;exact this
 refine(aem _ w _ _ _ _ _ _ hcopy).mono fun e w' h=>?_;obtain⟨rfl,h1,h2,h3,h4,h5⟩:=h;refine⟨_,rfl,?_,h1,h2,h3,h4,h5⟩;subst hy;exact⟨[.int .i64 _,.int .i64 _,.int .i64 _,.int .i64 _,.int .i64 _],⟨[_],_,rfl,rfl,[_],_,rfl,rfl,[_],_,rfl,rfl,[_],_,rfl,rfl,rfl⟩,rfl⟩
end Go.Proofs.ZzM
end

noncomputable section
set_option maxRecDepth 100000
namespace Go.Proofs.ZzM
open Go Go.Am
def aak:ZP 15 NZ:=zt (qp _) Å rfl (Á G9 (Á G8 Å)) fun x=>Mg x some
def adt:ZP 269 S8:=zt (BA _) (Á tQ (Á BK (Á Em Å))) rfl (Á KD Å) fun x=>QW x some
def afp:ZP 226 Yd:=zt (OA _) (Á YV (Á adt Å)) rfl Å fun x=>Up x some
def adh:ZP 156 SS:=zt (j7 _) (Á afp Å) rfl (Á JB (Á JA (Á Jz (Á Jy (Á Jw Å))))) fun x=>PV x some
def iz:ZP 80 ι:=zt (uA _) (Á tQ (Á adh Å)) rfl (Á JP (Á JQ Å)) fun x=>Qd x some
def ja:ZP 135 Ű:=zt (Ŝ _) Å rfl (Á kQ Å) fun x=>mg x some
def U4:ZP 147 Gt:=zt (Aw _) (Á ja Å) rfl Å fun x=>HM x some
def afn:ZP 247 Yb:=zt (yz _) (Á mz Å) rfl (Á Nh (Á Ng Å)) fun x=>Ub x some
def HT:ZP 261 vF:=zt (qT _) Å rfl Å fun x=>zr x some
def yf:ZP 264 sh:=zt (Bm _) (Á El Å) rfl (Á Ka Å) fun x=>Qs x some
def LG:ZP 312 AR:=zt (Dc _) (Á YT (Á ado Å)) rfl Å fun x=>Kd x some
def ahd:ZP 296 aby:=zt (TZ _) (Á yf (Á LG Å)) rfl Å fun x=>Wy x some
def RF:ZP 262 Cf:=zt (xH _) (Á ahd Å) rfl Å fun x=>Fy x some
def Xk:ZP 320 VO:=zt (TX _) Å rfl Å fun x=>Wv x some
def AF:ZP 313 zK:=zt (vL _) (Á yf (Á Xk Å)) rfl Å fun x=>Df x some
def adq:ZP 316 abz:=zt (T1 _) (Á yf (Á LG Å)) rfl Å fun x=>WD x some
def adp:jv Tryz.prog 297 S0:=abp (Bo _) (T0 _) (fun {_}=>zx (Á El (Á AF (Á adq (Á Xk Å)))) (Bo _) rfl rfl rfl rfl rfl (ŏ rfl) (jY rfl) (g8 rfl)) (fun {_}=>libN (Á El (Á AF (Á adq (Á Xk Å)))) _) rfl hmix (tab:=uM _) rfl Å (us:=GG) rfl (Á (by kernel_rfl) Å) (lV fun x=>Qz x some)
def RE:ZP 263 Ce:=zt (xG _) (Á adp Å) rfl Å fun x=>Fw x some
def aas:ZP 215 N7:=zt (GK _) (Á BK (Á Ir (Á HT (Á RF (Á RE Å))))) rfl Å fun x=>Nr x some
def ads:ZP 216 S7:=zt (KB _) Å rfl Å fun x=>QR x some
def U3:ZP 265 IZ:=zt (Kg _) Å rfl Å fun x=>Qw x some
def afk:ZP 217 X8:=zt (Oy _) (Á yf (Á U3 Å)) rfl Å fun x=>T4 x some
def adr:ZP 218 S6:=zt (Kl _) (Á yf (Á U3 Å)) rfl Å fun x=>QB x some
def afl:ZP 248 X9:=zt (Oz _) (Á aas (Á ads (Á afk (Á adr Å)))) rfl Å fun x=>T6 x some
def afm:ZP 132 Ya:=zt (tq _) (Á LJ (Á U4 (Á Ir (Á YU (Á afn (Á afl Å)))))) rfl (Á Nd (Á Nf (Á Nc Å))) fun x=>T9 x some
def yY:ZP 66 sj:=zt (GM _) (Á tQ (Á afm Å)) rfl Å fun x=>Nx x some
def RB:ZP 105 IW:=zt (Ji _) (Á tO Å) rfl (Á PL Å) fun x=>VX x some
def LD:ZP 183 wC:=zt (lZ _) (Á RB Å) rfl (Á wV Å) fun x=>A6 x some
def oH:jv Tryz.prog 104 kz:=Po (ű _) (fun {_}=>zx (Á RB (Á LD Å)) (ű _) rfl rfl rfl rfl rfl (ŏ rfl) (jY rfl) (g8 rfl)) hmix (tab:=sm _) rfl (Á A4 (Á A3 (Á A2 (Á A0 Å)))) (lV fun x=>ER x some)
def YS:ZP 196 Pu:=zt (Om _) Å rfl Å fun x=>TN x some
def Ek:ZP 126 wE:=zt (Bl _) (Á YS Å) rfl (Á J8 Å) fun x=>Qq x some
def ye:ZP 127 qi:=zt (Ν _) Å rfl (Á C4 (Á C3 (Á C1 (Á C2 (Á C0 Å))))) fun x=>HB x some
def NG:ZP 155 zI:=zt (vJ _) (Á Ek (Á ye Å)) rfl Å fun x=>C8 x some
def yc:ZP 79 qg:=zt (zW _) (Á yY (Á oH (Á NG Å))) rfl Å fun x=>Hm x some
def aam:ZP 116 N1:=zt (qr _) Å rfl (Á Hd (Á He Å)) fun x=>Ml x some
def LH:ZP 234 wF:=zt (tp _) Å rfl Å fun x=>Bq x some
def tP:ZP 180 lX:=zt (pB _) (Á LH Å) rfl Å fun x=>xF x some
def O6:ZP 179 EI:=zt (Gy _) (Á aam (Á tP Å)) rfl Å fun x=>Mr x some
def oK:XOk Tryz.prog 273 (.row ā):=Pk (r:=ā) (õ _) (fun {_}=>zx (Á O6 Å) (õ _) rfl rfl rfl rfl rfl (ŏ rfl) (jY rfl) (g8 rfl)) hmix (tab:=Τ _) rfl (Á ku (Á kv Å)) (fun xs x m=>lD xs x m some)
def yd:XOk Tryz.prog 300 (.row Į):=Pk (r:=Į) (ý _) (fun {_}=>zx Å (ý _) rfl rfl rfl rfl rfl (ŏ rfl) (jY rfl) (g8 rfl)) hmix (tab:=jG _) rfl (Á pr (Á pq (Á pu (Á pp Å)))) (fun xs x m=>rL xs x m some)
def oJ {rec:(Val (.slice (.slice (.slice tI))))→Int→Int→Int→(Val Â)→Option ((Val (.slice (.slice (.slice tI))))×(Val Â))} (hrec:XOk Tryz.prog 274 (.row ⟨(.slice (.slice tI)),[tI,tI,tI],179,Â,fun(xs:(Val (.slice (.slice (.slice tI))))) (x:Val œ) (m:Val Â)=>rec xs x.1 x.2.1 x.2.2 m⟩)):XOk Tryz.prog 274 (.row ⟨(.slice (.slice tI)),[tI,tI,tI],179,Â,fun(xs:(Val (.slice (.slice (.slice tI))))) (x:Val œ) (m:Val Â)=>Ġ rec xs x.1 x.2.1 x.2.2 m some⟩):=Pk (r:=⟨(.slice (.slice tI)),[tI,tI,tI],179,Â,fun(xs:(Val (.slice (.slice (.slice tI))))) (x:Val œ) (m:Val Â)=>Ġ rec xs x.1 x.2.1 x.2.2 m some⟩) (Æ rec _) (fun {_}=>zx (Á O6 Å) (Æ rec _) rfl rfl rfl rfl rfl (ŏ rfl) (Rs (Á hrec (Á yd Å)) rfl) (g8 rfl)) hmix (tab:=iR rec _) rfl (Á nS (Á nR (Á nQ (Á nP (Á nO Å))))) (fun xs x m=>pl _ xs x m some)
def i9:∀n:Nat,XOk Tryz.prog 274 (.row ⟨(.slice (.slice tI)),[tI,tI,tI],179,Â,fun(xs:(Val (.slice (.slice (.slice tI))))) (x:Val œ) (m:Val Â)=>ğ n xs x.1 x.2.1 x.2.2 m⟩)
 |0=>afz.mk (by intro _ _ _ _ _ _ h; cases h)
 |n+1=>oJ (i9 n)
def vz:XOk Tryz.prog 274 (.row kD):=i9 100
def nH:XOk Tryz.prog 233 (.row Ĝ):=Pk (r:=Ĝ) (ď _) (fun {_}=>zx Å (ď _) rfl rfl rfl rfl rfl (ŏ rfl) (Rs (Á oK (Á vz Å)) rfl) (g8 rfl)) hmix (tab:=jF _) rfl (Á po (Á pm (Á pn Å))) (fun xs x m=>rK xs x m some)
def YQ:jv Tryz.prog 81 Pr:=IL (ο _) (fun {_}=>zx (Á yc Å) (ο _) rfl rfl rfl rfl rfl (ŏ rfl) (Rs (Á nH Å) rfl) (g8 rfl)) hmix (tab:=GB _) rfl (Á MH (Á MG Å)) (rtab:=JD _) rfl (Á (MF Lx) Å) (Á ME Å) (lV fun x=>Tw x some)
def ahc:ZP 19 abx:=zt (TJ _) (Á iz (Á YQ Å)) rfl Å fun x=>Wg x some
def Eh:jv Tryz.prog 96 yq:=IL (jb _) (fun {_}=>zx Å (jb _) rfl rfl rfl rfl rfl (ŏ rfl) (Rs (Á nH Å) rfl) (g8 rfl)) hmix (tab:=Gx _) rfl Å (rtab:=Jk _) rfl (Á (Mp Lx) Å) (Á Mo Å) (lV fun x=>Tq x some)
def oI:ZP 82 kB:=zt (pf _) (Á yc (Á Eh Å)) rfl (Á Be Å) fun x=>EU x some
def UZ:ZP 20 IX:=zt (JN _) (Á iz (Á oI Å)) rfl Å fun x=>P7 x some
def Ej:ZP 35 ud:=zt (pz _) Å rfl (Á Bi Å) fun x=>Fe x some
def U0:ZP 26 Gs:=zt (rM _) (Á Ej Å) rfl (Á CX Å) fun x=>Hy x some
def LF:ZP 88 Cb:=zt (Bb _) Å rfl (Á Jo Å) fun x=>PS x some
def aat:ZP 91 N8:=zt (GN _) (Á Ir (Á O7 Å)) rfl Å fun x=>NA x some
def RD:ZP 28 Cc:=zt (kL _) (Á iz (Á oI (Á LF (Á aat (Á Š Å))))) rfl (Á Bg (Á Bf Å)) fun x=>EZ x some
def RC:ZP 87 H5:=zt (yv _) (Á Š Å) rfl (Á Mu (Á Ms Å)) fun x=>Ts x some
def YR:ZP 29 Ps:=zt (yw _) (Á iz (Á oI (Á RC (Á lr Å)))) rfl (Á MR (Á MQ Å)) fun x=>TH x some
def aap:ZP 98 N4:=zt (xf _) Å rfl (Á Ho Å) fun x=>ML x some
def GY:ZP 30 wD:=zt (Ļ _) (Á yc (Á iz (Á RC (Á Eh (Á aap (Á tP Å)))))) rfl (Á CQ (Á CS (Á CP (Á CO (Á CM (Á CL (Á CJ (Á CN Å)))))))) fun x=>Ht x some
def afi:ZP 40 X6:=zt (Ol _) (Á iz (Á Eh Å)) rfl Å fun x=>TD x some
def adu:ZP 68 S9:=zt (KJ _) (Á tQ (Á ja (Á LJ Å))) rfl Å fun x=>Q0 x some
def afo:ZP 69 Yc:=zt (FJ _) (Á tQ Å) rfl (Á Ny Å) fun x=>Um x some
def adl:ZP 133 SX:=zt (Bk _) (Á Ek (Á ye (Á YS Å))) rfl (Á JY Å) fun x=>Qk x some
def aar:ZP 134 N6:=zt (iW _) Å rfl (Á HH (Á HG (Á HF (Á HD (Á HE Å))))) fun x=>MX x some
def adm:ZP 185 SY:=zt (uL _) (Á adl (Á aar Å)) rfl (Á J1 (Á J0 Å)) fun x=>Qm x some
def aan:ZP 106 N2:=zt (Gz _) (Á yY (Á adu (Á afo (Á adm Å)))) rfl Å fun x=>Mw x some
def aaq:ZP 42 N5:=zt (qK _) (Á iz (Á YQ (Á LF (Á oH (Á RB (Á aan Å)))))) rfl (Á Hw (Á Hv Å)) fun x=>MP x some
def adg:jv Tryz.prog 154 SQ:=IL (Λ _) (fun {_}=>zx (Á adf Å) (Λ _) rfl rfl rfl rfl rfl (ŏ rfl) (jY rfl) (g8 rfl)) hmix (tab:=CB _) rfl (Á Ju Å) (rtab:=GA _) rfl (Á (Jt adb) Å) (Á Js Å) (lV fun x=>PT x some)
def adi:ZP 78 SU:=zt (JI _) (Á iz (Á adg Å)) rfl Å fun x=>P0 x some
def ahb:ZP 49 abw:=zt (TB _) (Á adi (Á LF (Á RB Å))) rfl Å fun x=>Wa x some
def adk:ZP 128 SW:=zt (Fl _) Å rfl (Á Wp (Á Wn (Á Wm (Á Wo Å)))) fun x=>abW x some
def adn:ZP 64 SZ:=zt (j9 _) (Á Ek (Á ye (Á adk Å))) rfl (Á J7 (Á J3 (Á J4 (Á J5 (Á J6 Å))))) fun x=>Qo x some
def adj:ZP 59 SV:=zt (Bh _) (Á adn (Á yY (Á iz (Á Eh (Á oH Å))))) rfl (Á JL Å) fun x=>P5 x some
def Xj:ZP 188 IY:=zt (uH _) Å rfl (Á Fk Å) fun x=>JV x some
def afj:ZP 189 X7:=zt (Ff _) Å rfl (Á MU Å) fun x=>TL x some
def NH:ZP 122 zJ:=zt (vK _) (Á Ek (Á Xj (Á afj Å))) rfl Å fun x=>Db x some
def NF:ZP 60 zH:=zt (nN _) (Á yY (Á iz (Á Eh (Á oH (Á NH Å))))) rfl (Á zn Å) fun x=>CW x some
def UY:ZP 77 Gr:=zt (zL _) Å rfl Å fun x=>Hc x some
def Xi:ZP 17 IV:=zt (Cp _) (Á ahc (Á UZ (Á U0 (Á RD (Á YR (Á GY (Á Ej (Á afi (Á aaq (Á ahb (Á adj (Á NF (Á UY Å))))))))))))) rfl Å fun x=>Jf x some
def Ei:ZP 27 t8:=zt (xh _) (Á iz (Á oI (Á RC Å))) rfl Å fun x=>E6 x some
def Xn:ZP 74 I1:=zt (la _) (Á tQ (Á Š Å)) rfl (Á FH (Á FG (Á FF Å))) fun x=>KI x some
def aao:ZP 113 N3:=zt (GC _) (Á Xn Å) rfl Å fun x=>MJ x some
def afh:ZP 47 X5:=zt (E4 _) (Á iz (Á aao Å)) rfl (Á MM Å) fun x=>TA x some
def aal:ZP 58 N0:=zt (wR _) (Á Ei Å) rfl (Á Ha Å) fun x=>Mj x some
def c_w7_SwapFewer:jv Tryz.prog 10 mC:=Po (nM _) (fun {_}=>zx (Á aak (Á Xi (Á UZ (Á Ei (Á YR (Á GY (Á afh (Á aal Å)))))))) (nM _) rfl rfl rfl rfl rfl (acl (js:=sl) rfl) (jY rfl) (g8 rfl)) hmix (tab:=qq _) rfl Å (lV fun x=>Cq x some)
end Go.Proofs.ZzM
end
