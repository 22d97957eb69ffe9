/- lemmas -/
import Derived.Test.YtdmegkgjpgcfgaaGreatAmD
import Derived.Test.YtdmegkgjpgcfgaaGreatAmE
import Derived.Ground.NamesProg
import Derived.Ground.Names2Prog
import Derived.KernelRfl
import Derived.Test.YtdmegkgjpgcfgaaGreatMdMA
import Derived.Test.YtdmegkgjpgcfgaaGreatMdKC
import Derived.Test.YtdmegkgjpgcfgaaGreatMdPA
import Derived.RangeFuncBox
import Derived.Lib.SliceRun
import Derived.RangeFuncLeaves
import Derived.WalkKit
import Derived.OwnWalkIn
import Derived.TacticsInMore
import Derived.LoopNIn
import Derived.LoopIn
import Derived.Test.YtdmegkgjpgcfgaaGreatProg
import Derived.RangeFuncFrom
import Derived.RangeFuncRecord
import Derived.Laws.CopyRow
import Derived.Laws.IdiomCopy
import Derived.Test.YtdmegkgjpgcfgaaGreatAmA
import Derived.Test.YtdmegkgjpgcfgaaGreatMdKB
import Derived.Test.YtdmegkgjpgcfgaaGreatMdKA
set_option linter.all false
set_option linter.unusedSectionVars false
set_option linter.unusedVariables false
set_option linter.unusedSimpArgs false
noncomputable section
namespace Go.Proofs
open Go.Shelf
def Tryz.laysSort_ren:Go.Shelf.Ren:=⟨fun|189=>184|125=>236|257=>235|128=>284|129=>285|294=>275|295=>276|296=>277|297=>278|298=>279|299=>280|216=>281|300=>282|301=>283|328=>301|329=>302|330=>303|331=>304|332=>305|215=>234|343=>318|n=>n,fun|28=>51|3=>3|46=>148|0=>0|51=>307|53=>309|4=>4|183=>300|182=>299|131=>256|5=>5|9=>9|218=>328|222=>332|228=>342|229=>343|n=>n,fun|n=>n⟩
def Tryz.laysSort:Go.Proofs.Lays.n189 Tryz.prog Tryz.laysSort_ren:={
 mixed:=by kernel_rfl
 f125:=Tryz.func236.trans (congrArg some (by kernel_rfl))
 f128:=Tryz.func284.trans (congrArg some (by kernel_rfl))
 f129:=Tryz.func285.trans (congrArg some (by kernel_rfl))
 f189:=Tryz.func184.trans (congrArg some (by kernel_rfl))
 f215:=Tryz.func234.trans (congrArg some (by kernel_rfl))
 f216:=Tryz.func281.trans (congrArg some (by kernel_rfl))
 f257:=Tryz.func235.trans (congrArg some (by kernel_rfl))
 f294:=Tryz.func275.trans (congrArg some (by kernel_rfl))
 f295:=Tryz.func276.trans (congrArg some (by kernel_rfl))
 f296:=Tryz.func277.trans (congrArg some (by kernel_rfl))
 f297:=Tryz.func278.trans (congrArg some (by kernel_rfl))
 f298:=Tryz.func279.trans (congrArg some (by kernel_rfl))
 f299:=Tryz.func280.trans (congrArg some (by kernel_rfl))
 f300:=Tryz.func282.trans (congrArg some (by kernel_rfl))
 f301:=Tryz.func283.trans (congrArg some (by kernel_rfl))
 f328:=Tryz.func301.trans (congrArg some (by kernel_rfl))
 f329:=Tryz.func302.trans (congrArg some (by kernel_rfl))
 f330:=Tryz.func303.trans (congrArg some (by kernel_rfl))
 f331:=Tryz.func304.trans (congrArg some (by kernel_rfl))
 f332:=Tryz.func305.trans (congrArg some (by kernel_rfl))
 f343:=Tryz.func318.trans (congrArg some (by kernel_rfl))
 t0:=Tryz.underlying0
 a0:=Tryz.isAgg0
 z0:=Tryz.sizeOf0
 v0:=Tryz.zeroValue0
 t3:=Tryz.underlying3
 a3:=Tryz.isAgg3
 z3:=Tryz.sizeOf3
 v3:=Tryz.zeroValue3
 t4:=Tryz.underlying4
 a4:=Tryz.isAgg4
 z4:=Tryz.sizeOf4
 v4:=Tryz.zeroValue4
 t5:=Tryz.underlying5
 a5:=Tryz.isAgg5
 z5:=Tryz.sizeOf5
 v5:=Tryz.zeroValue5
 t9:=Tryz.underlying9
 a9:=Tryz.isAgg9
 z9:=Tryz.sizeOf9
 v9:=Tryz.zeroValue9
 t28:=Tryz.underlying51
 a28:=Tryz.isAgg51
 z28:=Tryz.sizeOf51
 v28:=Tryz.zeroValue51
 t46:=Tryz.underlying148
 a46:=Tryz.isAgg148
 z46:=Tryz.sizeOf148
 v46:=Tryz.zeroValue148
 t51:=Tryz.underlying307
 a51:=Tryz.isAgg307
 z51:=Tryz.sizeOf307
 v51:=Tryz.zeroValue307
 t53:=Tryz.underlying309
 a53:=Tryz.isAgg309
 z53:=Tryz.sizeOf309
 v53:=Tryz.zeroValue309
 t131:=Tryz.underlying256
 a131:=Tryz.isAgg256
 z131:=Tryz.sizeOf256
 v131:=Tryz.zeroValue256
 t182:=Tryz.underlying299
 a182:=Tryz.isAgg299
 z182:=Tryz.sizeOf299
 v182:=Tryz.zeroValue299
 t183:=Tryz.underlying300
 a183:=Tryz.isAgg300
 z183:=Tryz.sizeOf300
 v183:=Tryz.zeroValue300
 t218:=Tryz.underlying328
 a218:=Tryz.isAgg328
 z218:=Tryz.sizeOf328
 v218:=Tryz.zeroValue328
 t222:=Tryz.underlying332
 a222:=Tryz.isAgg332
 z222:=Tryz.sizeOf332
 v222:=Tryz.zeroValue332
 t228:=Tryz.underlying342
 a228:=Tryz.isAgg342
 z228:=Tryz.sizeOf342
 v228:=Tryz.zeroValue342
 t229:=Tryz.underlying343
 a229:=Tryz.isAgg343
 z229:=Tryz.sizeOf343
 v229:=Tryz.zeroValue343}
def Tryz.laysCompact_ren:Go.Shelf.Ren:=⟨fun|20=>249|n=>n,fun|22=>51|3=>3|4=>4|0=>0|n=>n,fun|n=>n⟩
def Tryz.laysCompact:Go.Proofs.Lays2.n20 Tryz.prog Tryz.laysCompact_ren:={
 mixed:=by kernel_rfl
 f20:=Tryz.func249.trans (congrArg some (by kernel_rfl))
 t0:=Tryz.underlying0
 a0:=Tryz.isAgg0
 z0:=Tryz.sizeOf0
 v0:=Tryz.zeroValue0
 t3:=Tryz.underlying3
 a3:=Tryz.isAgg3
 z3:=Tryz.sizeOf3
 v3:=Tryz.zeroValue3
 t4:=Tryz.underlying4
 a4:=Tryz.isAgg4
 z4:=Tryz.sizeOf4
 v4:=Tryz.zeroValue4
 t22:=Tryz.underlying51
 a22:=Tryz.isAgg51
 z22:=Tryz.sizeOf51
 v22:=Tryz.zeroValue51
 i3:=by kernel_rfl}
end Go.Proofs
namespace Go.Proofs.ZzM
open Go Go.Am
def hmix:Tryz.prog.follows .mixedOrders=true:=by kernel_rfl
def plain_ : (Tryz.prog.funcs.toList.all fun fn => !(fn.name == "runtime.NumGoroutine")) = true := by kernel_rfl
def plain (f : Nat) (fn : Func) (h : Tryz.prog.funcs[f]? = some fn) : (fn.name == "runtime.NumGoroutine") = false := by
 have:=di.1 plain_ fn (cO (i:=f) (by simpa using h));simpa using this
def ai3:Tryz.laysSort_ren.f 189=184:=by kernel_rfl
def abT:Tryz.laysCompact_ren.f 20=249:=by kernel_rfl
section
variable [Ghost] {ρ:Type}
def sortOk (f:Nat) (hf:WN f=true) (h:List Blk) (x:AV) (K:AV→List Blk→Option ρ) (q:ρ) (e:QP h x K=some q) (ν:Nat→Value) (w:World) (u:Value) (H:HR ν h w) (hx:VR ν h w x u):FM Tryz.prog f ν h w [u] K q:=by
 have h1:f=184:=by
  unfold WN at hf
  split at hf
  ·rfl
  ·cases hf
 subst h1;have:=aiT Tryz.laysSort e H hx ⟨_,rfl⟩
 rwa [ai3] at this
def afo (f:Nat) (hf:yS f=true) (h:List Blk) (x:AV) (K:AV→List Blk→Option ρ) (q:ρ) (e:pw h x K=some q) (ν:Nat→Value) (w:World) (u:Value) (H:HR ν h w) (hx:VR ν h w x u):FM Tryz.prog f ν h w [u] K q:=by
 have h1:f=249:=by
  unfold yS at hf
  split at hf
  ·rfl
  ·cases hf
 subst h1;have:=acD Tryz.laysCompact e H hx ⟨_,rfl⟩
 rwa [abT] at this
def ajD:HD Tryz.prog MI:=by
 intro g hg fz S nid x v S' e ν w u H hx hn hd;unfold MI at hg
 split at hg
 ·exact sI Tryz.func114 (T:=31) (by kernel_rfl) (by kernel_rfl) e H hx hn hd
 ·exact sI Tryz.func115 (T:=51) (by kernel_rfl) (by kernel_rfl) e H hx hn hd
 ·exact sI Tryz.func140 (T:=103) (by kernel_rfl) (by kernel_rfl) e H hx hn hd
 ·exact sI Tryz.func170 (T:=27) (by kernel_rfl) (by kernel_rfl) e H hx hn hd
 ·exact sI Tryz.func182 (T:=24) (by kernel_rfl) (by kernel_rfl) e H hx hn hd
 ·exact sI Tryz.func250 (T:=25) (by kernel_rfl) (by kernel_rfl) e H hx hn hd
 ·exact sI Tryz.func251 (T:=26) (by kernel_rfl) (by kernel_rfl) e H hx hn hd
 ·exact sI Tryz.func252 (T:=28) (by kernel_rfl) (by kernel_rfl) e H hx hn hd
 ·cases hg
def CG {pt:List (Nat×ã)} (h:∀e∈pt,ki Tryz.prog e.1 e.2) (E:Env ρ) (hP:E.P=Tryz.prog) (h1:E.pure=acv pt) (h2:E.sort=WN) (h3:E.compact=yS) (h4:E.clone=MI) (hj:abz E) (hx:∀f X,E.ext f=some X→acY E.P f X) (hy:kh E):FH E:=by
 constructor
 ·intro f p hf;rw[h1] at hf;rw[hP];exact h (f,p) (Qw hf)
 ·intro f hf;rw[h2] at hf;rw[hP];exact sortOk f hf
 ·intro f hf;rw[h3] at hf;rw[hP];exact afo f hf
 ·rw[hP]; exact plain
 ·rw[hP,h4]; exact ajD
 ·exact hj
 ·exact hy
 ·exact hx
def libN {pt:List (Nat×ã)} (h:∀e∈pt,ki Tryz.prog e.1 e.2) (tab:List (à ρ)):FH (å pt tab):=CG h _ rfl rfl rfl rfl rfl (Ŕ rfl) (lU rfl) (i5 rfl)
end
abbrev ZP (f:Nat) (p:ã):Prop:=ki Tryz.prog f p
def zt {f:Nat} {p:ã} {pt:List (Nat×ã)} {tab:List (à (Val (tyL p.rs)))} (E:Env (Val (tyL p.rs))) (hc:∀e∈pt,ki Tryz.prog e.1 e.2) (hE:E=å pt tab) (hok:∀x∈tab,x.Ok E) (law:∀x:Val (tyL p.ts),topK E f (Zn p.ts x) (fun h v=>Ä (ai2 p.rs h v) some)=p.F x):ki Tryz.prog f p:=by
 subst hE;exact aal (å pt tab) (fun {_}=>libN hc _) hmix (tab:=tab) rfl hok (pH law)
end Go.Proofs.ZzM
end

noncomputable section
set_option maxRecDepth 100000
namespace Go.Proofs.ZzM
open Go Go.Am
def lX:ZP 93 i8:=zt (π _) Å rfl (Á un (Á uk Å)) fun x=>xi x some
def Pk {n:Nat} (hr:kj Tryz.prog ⟨272,(.slice tI),(.slice tI),XF n⟩):kj Tryz.prog ⟨272,(.slice tI),(.slice tI),XF (n+1)⟩:=Tk ⟨272,(.slice tI),(.slice tI),XF (n+1)⟩ (fun al=>Ă al (XF n) _) rfl (fun _=>rfl) (fun _=>rfl) (fun _ {_} hy=>CG (Á lX Å) _ rfl rfl rfl rfl rfl (Ŕ rfl) (lU rfl) hy) hmix (fun al=>EO (E:=Ă al (XF n) _) hmix (tab:=wN al (XF n) _) rfl (Á Dy Å) (rtab:=xX al (XF n) _) rfl (Á (Dx hr) Å) (Á Dw Å)) (fun m xs h=>(IL m (XF (n+1))).trans (ad1 h))
def Fx:∀n:Nat,kj Tryz.prog ⟨272,(.slice tI),(.slice tI),XF n⟩
 |0=>⟨rfl,fun _ _ m xs h=>(Nat.not_lt_zero _ (aaj (n:=0) (l:=m) (xs:=xs) h).1).elim⟩
 |n+1=>Pk (Fx n)
def afA:kj Tryz.prog MF:=(Fx 10).mono fun _ _ h=>abY h
def Jo {n:Nat} (hr:kj Tryz.prog ⟨231,(.slice ŋ),(.slice (.slice tI)),XG n⟩):kj Tryz.prog ⟨231,(.slice ŋ),(.slice (.slice tI)),XG (n+1)⟩:=Tk ⟨231,(.slice ŋ),(.slice (.slice tI)),XG (n+1)⟩ (fun al=>è al (XG n) _) rfl (fun _=>rfl) (fun _=>rfl) (fun _ {_} hy=>CG Å _ rfl rfl rfl rfl rfl (Ŕ rfl) (lU rfl) hy) hmix (fun al=>EO (E:=è al (XG n) _) hmix (tab:=rM al (XG n) _) rfl Å (rtab:=tG al (XG n) _) rfl (Á (Al hr) (Á (Ar afA) Å)) (Á Ak (Á Aq Å))) (fun m xs h=>(DJ m (XG (n+1))).trans (Zw h))
def zd:∀n:Nat,kj Tryz.prog ⟨231,(.slice ŋ),(.slice (.slice tI)),XG n⟩
 |0=>⟨rfl,fun _ _ m xs h=>(Nat.not_lt_zero _ (aak (n:=0) (l:=m) (xs:=xs) h).1).elim⟩
 |n+1=>Jo (zd n)
def Nj:kj Tryz.prog qy:=(zd 10).mono fun _ _ h=>Xa h
def afz:kj Tryz.prog ER:=Tk ER (fun al=>Ċ al (fun _=>none) _) rfl (fun _=>rfl) (fun _=>rfl) (fun _ {_} hy=>CG Å _ rfl rfl rfl rfl rfl (Ŕ rfl) (lU rfl) hy) hmix (fun _=>JI hmix rfl (Á qR Å) rfl) (fun m xs h=>(ug m zJ).trans (adf h))
def uW:ZP 173 mA:=zt (kH _) Å rfl (Á vD Å) fun x=>yq x some
def Ť:ZP 92 Ň:=zt (mh _) (Á uW Å) rfl Å fun x=>uj x some
def abi:ZP 201 Q8:=zt (zH _) (Á Ť Å) rfl (Á O6 (Á O5 Å)) fun x=>Wp x some
def FC:ZP 136 xI:=zt (vS _) (Á abi Å) rfl (Á Ma (Á Mb Å)) fun x=>SG x some
def Ab:ZP 141 tz:=zt (Ia _) Å rfl Å fun x=>O2 x some
def kX:ZP 212 jC:=zt (H9 _) Å rfl Å fun x=>OM x some
def FE:ZP 205 xL:=zt (Mi _) (Á kX Å) rfl Å fun x=>SN x some
def abg:ZP 291 Q6:=zt (P8 _) Å rfl Å fun x=>VT x some
def afM:ZP 292 X8:=zt (LS _) Å rfl (Á Sk Å) fun x=>YI x some
def FB:ZP 253 Di:=zt (LW _) (Á abg (Á afM Å)) rfl Å fun x=>Sr x some
def ZD:ZP 203 Kq:=zt (EF _) (Á Ab (Á FE (Á kX (Á FB Å)))) rfl Å fun x=>Mh x some
def Nv:ZP 142 xM:=zt (mR _) (Á ZD Å) rfl (Á yP Å) fun x=>CA x some
def CP:ZP 143 vn:=zt (vP _) Å rfl (Á GK Å) fun x=>L7 x some
def tk:ZP 206 nf:=zt (wT _) Å rfl Å fun x=>Em x some
def ZC:ZP 204 Ya:=zt (En _) (Á FE (Á tk Å)) rfl Å fun x=>L9 x some
def TS:ZP 208 Q9:=zt (lL _) (Á Ab (Á tk (Á kX Å))) rfl (Á Cy (Á Cx Å)) fun x=>GY x some
def FD:ZP 148 zw:=zt (zG _) (Á Ť Å) rfl (Á OX (Á OW Å)) fun x=>Wj x some
def QG:ZP 172 F6:=zt (yO _) (Á kX Å) rfl (Á Jk Å) fun x=>OZ x some
def abj:ZP 259 Ra:=zt (GZ _) (Á kX Å) rfl (Á O7 Å) fun x=>Wr x some
def Jq:ZP 209 IA:=zt (Ş _) (Á lX (Á Ab (Á FD (Á QG (Á FE (Á tk (Á kX (Á abj Å)))))))) rfl (Á xo (Á xm (Á xn (Á xl Å)))) fun x=>AB x some
end Go.Proofs.ZzM
end

noncomputable section
namespace Go.Proofs
open Go.RowKit
attribute [local go_sem] Oper.semAt_some
def upE (f:Nat→Int) (k:Nat):List Int:=(List.range k).map f
def qT (f:Nat→Int) (k:Nat):upE f (k+1)=upE f k++[f k]:=by simp[upE,fT]
def zp (f:Nat→Int) (k:Nat):(upE f k).length=k:=by simp[upE]
def Jt (f:Nat→Int) {j k:Nat} (h:j≤k):upE f j <+: upE f k:=by
 have:k=j+(k-j):=by omega
 rw[this,upE,upE,List.range_add,fj];exact dN _ _
set_option maxRecDepth 100000 in
set_option maxHeartbeats 1000000 in
def agY (te:TypeId) (n:Nat) (hn:1≤n) (l n₀ bb tb sb:Nat) (flo fhi ga mv:Value) (hbb:bb<n₀) (htb:tb<n₀) (hsb:sb<n₀)
 (ub uo ul uc kb ko kl kc:Nat) (ubase kbase lbase cbase:Option Addr) (ll lc cl cc:Nat) (hub:0<ul→ubase=some ⟨ub,uo,none⟩∧ub<n₀) (hkb:0<kl→kbase=some ⟨kb,ko,none⟩∧kb<n₀)
 (U K:Nat→Int×Int) (eU eL eC eK:Nat→Int)
 (hul:ul≤1000) (hll:ll≤1000) (hcl:cl≤1000) (hkl:kl≤1000)
 (W:World) (hb0:W.heap[bb]?=some (.cells #[flo,fhi,ga,.slice ubase ul uc,.slice lbase ll lc,.slice cbase cl cc,.slice kbase kl kc] te (0,0)))
 (ht:W.cell? ⟨tb,0,none⟩=some (.func (.func 204) #[] #[.pointer (some ⟨sb,0,none⟩)])) (hs:W.cell? ⟨sb,0,none⟩=some mv)
 (hU:∀j,j<ul→W.cell? ⟨ub,uo+j*2,none⟩=some (.int .i64 (U j).1)∧W.cell? ⟨ub,uo+j*2+1,none⟩=some (.int .i64 (U j).2))
 (hK:∀j,j<kl→W.cell? ⟨kb,ko+j*2,none⟩=some (.int .i64 (K j).1)∧W.cell? ⟨kb,ko+j*2+1,none⟩=some (.int .i64 (K j).2))
 (cU:∀j,j<ul→∀W',Below n₀ W W'→CallsIn Fence.wide (n-1) Tryz.prog 204 #[.int .i64 (U j).1,.int .i64 (U j).2,.pointer (some ⟨sb,0,none⟩)] W' fun e W''=>e=.returned (.int .i64 (eU j))∧W'.grownBy W'' none)
 (cK:∀j,j<kl→∀W',Below n₀ W W'→CallsIn Fence.wide (n-1) Tryz.prog 204 #[.int .i64 (K j).1,.int .i64 (K j).2,.pointer (some ⟨sb,0,none⟩)] W' fun e W''=>e=.returned (.int .i64 (eK j))∧W'.grownBy W'' none)
 (cL:∀j,j<ll→∀W',Below n₀ W W'→CallsIn Fence.wide (n-1) Tryz.prog 208 #[.agg #[flo,fhi,ga,.slice ubase ul uc,.slice lbase ll lc,.slice cbase cl cc,.slice kbase kl kc],mv,.int .i64 j] W' fun e W''=>e=.returned (.int .i64 (eL j))∧W'.grownBy W'' none)
 (cC:∀j,j<cl→∀W',Below n₀ W W'→CallsIn Fence.wide (n-1) Tryz.prog 209 #[.agg #[flo,fhi,ga,.slice ubase ul uc,.slice lbase ll lc,.slice cbase cl cc,.slice kbase kl kc],mv,.int .i64 j] W' fun e W''=>e=.returned (.int .i64 (eC j))∧W'.grownBy W'' none)
 (J Jx:List Int→World→Prop) (hJ:∀pre W W',J pre W→W.grownBy W' none→J pre W') (hJx:∀pre W W',Jx pre W→W.grownBy W' none→Jx pre W')
 (hY:∀pre x W,J pre W→pre.length<ul+(ll+(cl+kl))→YieldAt Fence.wide (n-1) Tryz.prog l #[.int .i64 x] W fun e W' =>
  (e=.returned (.bool true)∧J (pre++[x]) W'∧Below n₀ W W')∨(e=.returned (.bool false)∧Jx (pre++[x]) W'))
 (h0 : J [] W) (hn₀ : n₀ ≤ W.heap.size) :
  CallsIn Fence.wide n Tryz.prog 207 #[.func (.yield l) #[] #[],.pointer (some ⟨bb,0,none⟩),.pointer (some ⟨tb,0,none⟩),.pointer (some ⟨sb,0,none⟩)] W fun e W'=>(∃v,e=.returned v) ∧
   ((∃xs,xs=upE eU ul++(upE eL ll++(upE eC cl++upE eK kl))∧J xs W')∨(∃pre,(pre <+: upE eU ul++(upE eL ll++(upE eC cl++upE eK kl)))∧Jx pre W')):=by
 have grown_alloc:∀(X:World) (o:Obj),X.grownBy (X.alloc o) none:=fun X o=>World.grownBy_alloc X o none
 have bel:∀{X Y:World},Below n₀ W X→X.grownBy Y none→Below n₀ W Y:=fun {X Y} h g =>
  ⟨g.os.trans h.os,g.tape.trans h.tape,g.output.trans h.output,cY h.size g.size,fun k hk=>(g.block k (dc (dc hk hn₀) h.size) (by simp)).trans (h.block k hk)⟩
 have hc:∀{X:World},Below n₀ W X→X.heap[bb]?=some (.cells #[flo,fhi,ga,.slice ubase ul uc,.slice lbase ll lc,.slice cbase cl cc,.slice kbase kl kc] te (0,0)):=fun h=>(h.block bb hbb).trans hb0;refine callsIn_of_wp Tryz.func207 rfl trivial ?_ rfl;simp only[Tryz.ntmps207,eY,cW,dZ,Nat.reduceAdd,Nat.reduceSub,Array.replicate_succ,Array.replicate_zero,List.push_toArray,gF,dS,ft]
 have hb3:W.cell? ⟨bb,3,none⟩=some (.slice ubase ul uc):=by simp[World.cell?,hb0]
 gi_wp2
 gi_loopw [14] (fun i wr=>∃k:Nat,k≤ul∧i=.int .i64 k∧J (upE eU k) wr∧Below n₀ W wr)
  (fun i _=>ul-(intOf i).toNat)
 case atStart=>exact⟨0,dQ _,rfl,h0,Below.refl _ _⟩
 case round =>
  obtain⟨k,hk,rfl,hJs,hnx⟩:=hrel
  by_cases hlt:k<ul
  ·obtain⟨rfl,hlu⟩:=hub (by omega);have hu1:=(hnx.cell (p:=⟨ub,uo+k*2,none⟩) hlu).trans (hU k hlt).1;have hu2:=(hnx.cell (p:=⟨ub,uo+k*2+1,none⟩) hlu).trans (hU k hlt).2;have ht':=(hnx.cell (p:=⟨tb,0,none⟩) htb).trans ht;have hta:∀o,(wr.alloc o).cell? ⟨tb,0,none⟩=some (.func (.func 204) #[] #[.pointer (some ⟨sb,0,none⟩)]):=fun o=>Lib.cell?_alloc_some _ ht'
   gi_wp2
   refine⟨trivial,(cU k hlt _ (bel hnx (grown_alloc _ _))).mono ?_⟩;rintro e W2 ⟨rfl,hg2⟩;obtain⟨fn,tmps,assign,body,hy,hR⟩:=hY _ (eU k) W2 (hJ _ _ _ (hJ _ _ _ hJs (grown_alloc _ _)) hg2) (by rw[zp]; omega);have hb2:=bel (bel hnx (grown_alloc _ _)) hg2
   gi_wp2
   refine hR.mono ?_;rintro e W3 (⟨rfl,hJ3,hk3⟩|⟨rfl,hJx3⟩)
   ·gi_wp2
    go_roundw
    case rel=>exact⟨k+1,by omega,by simp,by rw[qT]; exact hJ3,hb2.trans hk3⟩
    case measure=>simp[intOf]; omega
   ·gi_wp2
    refine bodyPost_ret (results_none rfl _ _ _) rfl ?_;refine⟨⟨_,rfl⟩,.inr ⟨_,?_,hJx3⟩⟩;rw[←qT];exact(Jt eU (by omega)).trans (dN _ _)
  ·obtain rfl:ul=k:=by omega
   have hb4:wr.cell? ⟨bb,4,none⟩=some (.slice lbase ll lc):=by simp[World.cell?,hc hnx]
   gi_wp2
   gi_loopw [31] (fun i wr=>∃k:Nat,k≤ll∧i=.int .i64 k∧J (upE eU ul++upE eL k) wr∧Below n₀ W wr)
    (fun i _=>ll-(intOf i).toNat)
   case atStart=>exact⟨0,dQ _,rfl,by simpa[upE] using hJs,hnx⟩
   case round =>
    clear hJs hnx;obtain⟨k,hk,rfl,hJs,hnx⟩:=hrel
    by_cases hlt:k<ll
    ·have q0:wr.cell? ⟨bb,0,none⟩=some flo:=by simp[World.cell?,hc hnx]
     have q1:wr.cell? ⟨bb,1,none⟩=some fhi:=by simp[World.cell?,hc hnx]
     have q2:wr.cell? ⟨bb,2,none⟩=some ga:=by simp[World.cell?,hc hnx]
     have q3:wr.cell? ⟨bb,3,none⟩=some (.slice ubase ul uc):=by simp[World.cell?,hc hnx]
     have q4:wr.cell? ⟨bb,4,none⟩=some (.slice lbase ll lc):=by simp[World.cell?,hc hnx]
     have q5:wr.cell? ⟨bb,5,none⟩=some (.slice cbase cl cc):=by simp[World.cell?,hc hnx]
     have q6:wr.cell? ⟨bb,6,none⟩=some (.slice kbase kl kc):=by simp[World.cell?,hc hnx]
     have hs':=(hnx.cell (p:=⟨sb,0,none⟩) hsb).trans hs
     gi_wp2
     refine⟨trivial,(cL k hlt _ hnx).mono ?_⟩;rintro e W2 ⟨rfl,hg2⟩;obtain⟨fn,tmps,assign,body,hy,hR⟩:=hY _ (eL k) W2 (hJ _ _ _ hJs hg2) (by simp only[cJ,zp]; omega);have hb2:=bel hnx hg2
     gi_wp2
     refine hR.mono ?_;rintro e W3 (⟨rfl,hJ3,hk3⟩|⟨rfl,hJx3⟩)
     ·gi_wp2
      go_roundw
      case rel=>exact⟨k+1,by omega,by simp,by rw[qT,←cQ]; exact hJ3,hb2.trans hk3⟩
      case measure=>simp[intOf]; omega
     ·gi_wp2
      refine bodyPost_ret (results_none rfl _ _ _) rfl ?_;refine⟨⟨_,rfl⟩,.inr ⟨_,?_,hJx3⟩⟩;rw[cQ,←qT];exact(eR _).2 ((Jt eL (by omega)).trans (dN _ _))
    ·obtain rfl:ll=k:=by omega
     have hb5:wr.cell? ⟨bb,5,none⟩=some (.slice cbase cl cc):=by simp[World.cell?,hc hnx]
     gi_wp2
     gi_loopw [45] (fun i wr=>∃k:Nat,k≤cl∧i=.int .i64 k∧J (upE eU ul++upE eL ll++upE eC k) wr∧Below n₀ W wr)
      (fun i _=>cl-(intOf i).toNat)
     case atStart=>exact⟨0,dQ _,rfl,by simpa[upE] using hJs,hnx⟩
     case round =>
      clear hJs hnx;obtain⟨k,hk,rfl,hJs,hnx⟩:=hrel
      by_cases hlt:k<cl
      ·have q0:wr.cell? ⟨bb,0,none⟩=some flo:=by simp[World.cell?,hc hnx]
       have q1:wr.cell? ⟨bb,1,none⟩=some fhi:=by simp[World.cell?,hc hnx]
       have q2:wr.cell? ⟨bb,2,none⟩=some ga:=by simp[World.cell?,hc hnx]
       have q3:wr.cell? ⟨bb,3,none⟩=some (.slice ubase ul uc):=by simp[World.cell?,hc hnx]
       have q4:wr.cell? ⟨bb,4,none⟩=some (.slice lbase ll lc):=by simp[World.cell?,hc hnx]
       have q5:wr.cell? ⟨bb,5,none⟩=some (.slice cbase cl cc):=by simp[World.cell?,hc hnx]
       have q6:wr.cell? ⟨bb,6,none⟩=some (.slice kbase kl kc):=by simp[World.cell?,hc hnx]
       have hs':=(hnx.cell (p:=⟨sb,0,none⟩) hsb).trans hs
       gi_wp2
       refine⟨trivial,(cC k hlt _ hnx).mono ?_⟩;rintro e W2 ⟨rfl,hg2⟩;obtain⟨fn,tmps,assign,body,hy,hR⟩:=hY _ (eC k) W2 (hJ _ _ _ hJs hg2) (by simp only[cJ,zp]; omega);have hb2:=bel hnx hg2
       gi_wp2
       refine hR.mono ?_;rintro e W3 (⟨rfl,hJ3,hk3⟩|⟨rfl,hJx3⟩)
       ·gi_wp2
        go_roundw
        case rel=>exact⟨k+1,by omega,by simp,by rw[qT,←cQ]; exact hJ3,hb2.trans hk3⟩
        case measure=>simp[intOf]; omega
       ·gi_wp2
        refine bodyPost_ret (results_none rfl _ _ _) rfl ?_;refine⟨⟨_,rfl⟩,.inr ⟨_,?_,hJx3⟩⟩;rw[cQ,←qT]
        exact by rw[cQ]; exact(eR _).2 ((eR _).2 ((Jt eC (by omega)).trans (dN _ _)))
      ·obtain rfl:cl=k:=by omega
       have hb6:wr.cell? ⟨bb,6,none⟩=some (.slice kbase kl kc):=by simp[World.cell?,hc hnx]
       gi_wp2
       gi_loopw [59] (fun i wr=>∃k:Nat,k≤kl∧i=.int .i64 k∧J ((upE eU ul++upE eL ll++upE eC cl)++upE eK k) wr∧Below n₀ W wr)
        (fun i _=>kl-(intOf i).toNat)
       case atStart=>exact⟨0,dQ _,rfl,by simpa[upE] using hJs,hnx⟩
       case round =>
        clear hJs hnx;obtain⟨k,hk,rfl,hJs,hnx⟩:=hrel
        by_cases hlt:k<kl
        ·obtain⟨rfl,hlk⟩:=hkb (by omega);have hu1:=(hnx.cell (p:=⟨kb,ko+k*2,none⟩) hlk).trans (hK k hlt).1;have hu2:=(hnx.cell (p:=⟨kb,ko+k*2+1,none⟩) hlk).trans (hK k hlt).2;have ht':=(hnx.cell (p:=⟨tb,0,none⟩) htb).trans ht;have hta:∀o,(wr.alloc o).cell? ⟨tb,0,none⟩=some (.func (.func 204) #[] #[.pointer (some ⟨sb,0,none⟩)]):=fun o=>Lib.cell?_alloc_some _ ht'
         gi_wp2
         refine⟨trivial,(cK k hlt _ (bel hnx (grown_alloc _ _))).mono ?_⟩;rintro e W2 ⟨rfl,hg2⟩;obtain⟨fn,tmps,assign,body,hy,hR⟩:=hY _ (eK k) W2 (hJ _ _ _ (hJ _ _ _ hJs (grown_alloc _ _)) hg2) (by simp only[cJ,zp]; omega);have hb2:=bel (bel hnx (grown_alloc _ _)) hg2
         gi_wp2
         refine hR.mono ?_;rintro e W3 (⟨rfl,hJ3,hk3⟩|⟨rfl,hJx3⟩)
         ·gi_wp2
          go_roundw
          case rel=>exact⟨k+1,by omega,by simp,by rw[qT,←cQ]; exact hJ3,hb2.trans hk3⟩
          case measure=>simp[intOf]; omega
         ·gi_wp2
          refine bodyPost_ret (results_none rfl _ _ _) rfl ?_;refine⟨⟨_,rfl⟩,.inr ⟨_,?_,hJx3⟩⟩;rw[cQ,←qT,cQ,cQ];exact(eR _).2 ((eR _).2 ((eR _).2 (Jt eK (by omega))))
        ·obtain rfl:kl=k:=by omega
         gi_wp2
         go_end0
         exact⟨⟨_,rfl⟩,.inl ⟨_,rfl,by simpa[cQ] using hJs⟩⟩
end Go.Proofs
end

noncomputable section
set_option maxRecDepth 100000
namespace Go.Proofs.ZzM
open Go Go.Am Go.RowKit
def aah (p:String):Code:=.region 10 #[{dst:=some 5,op:=.assign (.tmp 49),type:=38,pos:=p,after:=#[],guard:=none}] false
def ah9 (q r:String):Code:=.block 1 (.seq (.region 11 #[{dst:=some 50,op:=.move (.tmp 5),type:=38,pos:=q,after:=#[],guard:=none},{dst:=some 51,op:=.binOp .neq 38 (.tmp 50) (.const (.int .i64 0)) 38,type:=4,pos:=q,after:=#[{on:=0,ground:=.data}],guard:=none}] false)
 (.cond (.tmp 51) (.seq (.region 12 #[{dst:=some 52,op:=.move (.tmp 5),type:=38,pos:=r,after:=#[],guard:=none},{dst:=none,op:=.store 38 (.tmp 2) (.tmp 52),type:=0,pos:=r,after:=#[{on:=0,ground:=.data},{on:=0,ground:=.phase}],guard:=none}] false) .ret) .skip))
section
variable {P:Program} {F:Fence} {n:Nat}
def Dl {ops:Array Oper} {i d:Nat} {o:Oper} {u:Value} {w w':World} {a:Act} {next:Act→World→Prop} {Q:Exit→Act→World→Prop} (hF:∀f,F.fn f) (ho:ops[i]?=some o) (hg:o.guard=none) (hd:o.dst=some d) (hdf:∀c,o.op≠.defer c)
 (hrun:(execOp a.eval o).run P w=.ok (.value u) w') (k:next (a.put (some d) u) w'):wpOpIn F n P ops Q i next a w:=by
 unfold wpOpIn;rw[ho]
 have hw:Region.wanted o (yielded ops a.tmps)=true:=by simp[Region.wanted,hg]
 simp only[hw,if_true];refine⟨fun _ _=>hF _,?_⟩;rw[Oper.semAt_eq _ _ _ hdf,hrun];rw[←hd] at k;exact k
def ab0 {ops:Array Oper} {i:Nat} {o:Oper} {w w':World} {a:Act} {next:Act→World→Prop} {Q:Exit→Act→World→Prop} (hF:∀f,F.fn f) (ho:ops[i]?=some o) (hg:o.guard=none) (hd:o.dst=none) (hdf:∀c,o.op≠.defer c)
 (hrun:(execOp a.eval o).run P w=.ok .skip w') (k:next a w'):wpOpIn F n P ops Q i next a w:=by
 unfold wpOpIn;rw[ho]
 have hw:Region.wanted o (yielded ops a.tmps)=true:=by simp[Region.wanted,hg]
 simp only[hw,if_true];refine⟨fun _ _=>hF _,?_⟩;rw[Oper.semAt_eq _ _ _ hdf,hrun];show next (a.put o.dst undef) w';rw[hd];exact k
end
def jH (T:Array Value) (i j:Nat) (v:Value):(T.setIfInBounds i v).getD j undef=if i=j∧i<T.size then v else T.getD j undef:=by
 simp only[dW,fR]
 by_cases h:i=j
 ·subst h
  by_cases h2:i<T.size
  ·simp[h2]
  ·simp[h2]
 ·simp[h]
def mark (D:Nat):Deferred:={target:=.collected D,args:=#[]}
structure Put1 (n₀ rb:Nat) (x:Int) (w W:World):Prop where
 os:W.os=w.os
 tape:W.tape=w.tape
 output:W.output=w.output
 size:w.heap.size≤W.heap.size
 block:∀k,k<n₀→k≠rb→W.heap[k]?=w.heap[k]?
 cell:∃e,W.heap[rb]?=some (.cells #[.int .i64 x] e (0,0))
set_option maxHeartbeats 4000000 in
def ai0 {a:Act} {w:World} {Q:Exit→Act→World→Prop} {lb:Array Value} {L:List Int} {rb:Nat} {e0:TypeId} {v0:Value} {p q r:String}
 (hseq:SeqStopsK Fence.wide 1 Tryz.prog 207 lb (fun x:Int=>#[.int .i64 x]) (Below w.heap.size) (fun xs=>xs=L) (fun pre=>pre <+: L) L.length w)
 (hg:a.tmps.getD 48 undef=.func (.func 207) #[] lb) (h2:a.tmps.getD 2 undef=.pointer (some ⟨rb,0,none⟩)) (hsz:78≤a.tmps.size)
 (hrb:w.heap[rb]?=some (.cells #[v0] e0 (0,0)))
 (hdone:∀D W,(∀x∈L,x=0)→Below w.heap.size w W→w.heap.size≤D→W.heap[D]?=some (.deferred (some []))→Q .normal {a with defers:=mark D::a.defers} W)
 (hstop:∀D W x,L.find? (fun e=>e != 0)=some x→Put1 w.heap.size rb x w W→w.heap.size≤D→W.heap[D]?=some (.deferred (some []))→Q .ret {a with defers:=mark D::a.defers} W) :
 (Code.rangeFunc (.tmp 48) #[49] (aah p) (ah9 q r)).wpIn Fence.wide 2 Tryz.prog Q a w:=by
 have hT:∀f,Fence.wide.fn f:=fun _=>trivial;have hrl:=ď hrb
 refine wpIn_rangeFunc_ownF (α:=Int) (encs:=fun x=>#[.int .i64 x]) (Kp:=Below w.heap.size) (S:=fun xs=>xs=L) (Sp:=fun pre=>pre <+: L) (N:=L.length) (w0:=w) rfl (by omega) hg trivial (fun args w=>?eg) hseq
  (fun h k=>h.trans k) (fun W l o o' hl ho hc hw=>belowK_b (cG _) W l o o' hl ho hc hw) (Below.refl _ _) (fun _=>rfl)
  (fun pre W=>(∀x∈pre,x=0)∧Below w.heap.size w W)
  (fun c pre W=>c=.ret∧∃pre' x,pre=pre'++[x]∧(∀x∈pre',x=0)∧x≠0∧Put1 w.heap.size rb x w W)
  ?hI ?hIx ⟨by simp,Below.refl _ _⟩ (fun x=>{tmps:=(a.tmps.setIfInBounds 49 (.int .i64 x)).setIfInBounds 5 (.int .i64 x),defers:=[]}) ?hassign ?hbody ?hdone ?hstop
 case eg=>simp[callFunc,Sem.run_bind,run_program,Result.andThen_ok,Tryz.func207,plain 207 _ Tryz.func207,show Tryz.f207.body.isNone=false from rfl]; rfl
 case hI =>
  intro s W W' row ⟨h1,h2⟩ hgr hr;exact⟨h1,hgr.os.trans h2.os,hgr.tape.trans h2.tape,hgr.output.trans h2.output,cY h2.size hgr.size,fun k hk=>(hgr.block k (dc hk h2.size) (fun e=>by have:=(hr k e.symm).1; omega)).trans (h2.block k hk)⟩
 case hIx =>
  intro c s W W' row ⟨h1,pre',x,h3,h4,h5,h6⟩ hgr hr;have hb:∀k,k<w.heap.size→W'.heap[k]?=W.heap[k]?:=fun k hk=>hgr.block k (dc hk h6.size) (fun e=>by have:=(hr k e.symm).1; omega)
  exact⟨h1,pre',x,h3,h4,h5,hgr.os.trans h6.os,hgr.tape.trans h6.tape,hgr.output.trans h6.output,cY h6.size hgr.size,fun k hk hne=>(hb k hk).trans (h6.block k hk hne),by
   obtain⟨e,he⟩:=h6.cell
   exact⟨e,(hb rb hrl).trans he⟩⟩
 case hassign =>
  intro l x W K hK
  have hf:((#[49]:Array Tmp).zip #[Value.int .i64 x]).foldl (fun t (p,v)=>t.setIfInBounds p v) a.tmps=a.tmps.setIfInBounds 49 (.int .i64 x):=by simp
  rw[hf];refine wpIn_region ?_;rw[show ∀o:Oper,List.range (#[o]:Array Oper).size=[0] from fun _=>rfl,wpOpsIn_cons];refine Dl (d:=5) (u:=.int .i64 x) (w':=W) hT rfl rfl rfl (by simp) ?_ hK;show Result.ok (Next.value ((a.tmps.setIfInBounds 49 (.int .i64 x)).getD 49 undef)) W=_;rw[jH,if_pos ⟨rfl,by omega⟩]
 case hbody =>
  intro l pre x W ⟨h1,hbel⟩ hpre;refine wpIn_block (wpIn_seq (wpIn_region ?_));rw[show ∀o p:Oper,List.range (#[o,p]:Array Oper).size=[0,1] from fun _ _=>rfl,wpOpsIn_cons]
  refine Dl (d:=50) (u:=.int .i64 x) (w':=W) hT rfl rfl rfl (by simp) (by
   show Result.ok (Next.value (((a.tmps.setIfInBounds 49 (.int .i64 x)).setIfInBounds 5 (.int .i64 x)).getD 5 undef)) W=_
   rw[jH,if_pos ⟨rfl,by simp; omega⟩]) ?_
  rw[wpOpsIn_cons]
  refine Dl (d:=51) (u:=.bool (x != 0)) (w':=W) hT rfl rfl rfl (by simp) (by
   show((do let u ←(do eqGuard .neq 38 (.tmp 50) (.const (.int .i64 0)) ((((a.tmps.setIfInBounds 49 (.int .i64 x)).setIfInBounds 5 (.int .i64 x)).setIfInBounds 50 (.int .i64 x)).getD 50 undef) (.int .i64 0); binOp .neq 38 ((((a.tmps.setIfInBounds 49 (.int .i64 x)).setIfInBounds 5 (.int .i64 x)).setIfInBounds 50 (.int .i64 x)).getD 50 undef) (.int .i64 0)); pure (.value u)):Sem Next).run Tryz.prog W=_;rw[jH,if_pos ⟨rfl,by simp; omega⟩]
   simp[eqGuard,binOp,Op.intCmp]) ?_
  show Code.wpIn (Fence.wide.inRound l) (2-1-1) Tryz.prog (Code.cond (.tmp 51) _ .skip) _ {tmps:=((((a.tmps.setIfInBounds 49 (.int .i64 x)).setIfInBounds 5 (.int .i64 x)).setIfInBounds 50 (.int .i64 x)).setIfInBounds 51 (.bool (x != 0))),defers:=[]} W;obtain⟨T,hTd⟩:∃T,T=((((a.tmps.setIfInBounds 49 (.int .i64 x)).setIfInBounds 5 (.int .i64 x)).setIfInBounds 50 (.int .i64 x)).setIfInBounds 51 (.bool (x != 0))):=⟨_,rfl⟩;rw[←hTd]
  have t51:T.getD 51 undef=.bool (x != 0):=by rw[hTd,jH,if_pos ⟨rfl,by simp; omega⟩]
  have t5:T.getD 5 undef=.int .i64 x:=by rw[hTd,jH,if_neg (by simp),jH,if_neg (by simp),jH,if_pos ⟨rfl,by simp; omega⟩]
  have t2:T.getD 2 undef=.pointer (some ⟨rb,0,none⟩):=by rw[hTd,jH,if_neg (by simp),jH,if_neg (by simp),jH,if_neg (by simp),jH,if_neg (by simp),h2]
  have tsz:78≤T.size:=by rw[hTd]; simpa using hsz
  clear hTd
  by_cases hx:x=0
  ·have e51:Act.eval {tmps:=T,defers:=[]} (.tmp 51)=.bool false:=t51.trans (by simp[hx]);refine wpIn_cond_false e51 (wpIn_skip ?_);simp only[Exit.inBlock,ownPostK];exact⟨KeepsOthers.refl _,Below.refl _ _,fun y hy=>(cM.1 hy).elim (h1 y) (fun h=>by rw[cP] at h; rw[h,hx]),hbel⟩
  ·have e51:Act.eval {tmps:=T,defers:=[]} (.tmp 51)=.bool true:=t51.trans (by simp[hx]);refine wpIn_cond_true e51 (wpIn_seq (wpIn_region ?_));rw[show ∀o p:Oper,List.range (#[o,p]:Array Oper).size=[0,1] from fun _ _=>rfl,wpOpsIn_cons]
   have e5:(execOp (Act.eval {tmps:=T,defers:=[]}) {dst:=some 52,op:=.move (.tmp 5),type:=38,pos:=r,after:=#[],guard:=none}).run Tryz.prog W=.ok (.value (.int .i64 x)) W:=by
    show Result.ok (Next.value (T.getD 5 undef)) W=_;rw[t5]
   refine Dl (d:=52) (u:=.int .i64 x) (w':=W) hT rfl rfl rfl (by simp) e5 ?_;rw[wpOpsIn_cons];have hW:W.heap[rb]?=some (.cells #[v0] e0 (0,0)):=(hbel.block rb hrl).trans hrb
   letI:Ghost:=(Gk (fun _=>False) [] (none))
   have hst:=qV (P:=Tryz.prog) (w:=W) (t:=38) (u:=.int .i64 x) (n:=1) (b:=rb) (o:=0) (by kernel_rfl) rfl hW (by simp) (by simp[Value.cells,Value.oneCell'])
   have hst':(storeVar 38 ⟨rb,0,none⟩ (.int .i64 x)).run Tryz.prog W=.ok () (W.setRow rb #[.int .i64 x]):=by simpa[Value.cells] using hst
   have t52:(T.setIfInBounds 52 (.int .i64 x)).getD 52 undef=.int .i64 x:=by rw[jH,if_pos ⟨rfl,by omega⟩]
   have t2':(T.setIfInBounds 52 (.int .i64 x)).getD 2 undef=.pointer (some ⟨rb,0,none⟩):=by rw[jH,if_neg (by simp),t2]
   have e6:(execOp (Act.eval {tmps:=T.setIfInBounds 52 (.int .i64 x),defers:=[]}) {dst:=none,op:=.store 38 (.tmp 2) (.tmp 52),type:=0,pos:=r,after:=#[{on:=0,ground:=.data},{on:=0,ground:=.phase}],guard:=none}).run Tryz.prog W=.ok .skip (W.setRow rb #[.int .i64 x]):=by
    show((do Instr.storeAt 38 ((T.setIfInBounds 52 (.int .i64 x)).getD 2 undef) ((T.setIfInBounds 52 (.int .i64 x)).getD 52 undef); pure .skip):Sem Next).run Tryz.prog W=_;rw[t52,t2'];simp[Instr.storeAt,Instr.sureAddr,hst']
   refine ab0 (w':=W.setRow rb #[.int .i64 x]) hT rfl rfl rfl (by simp) e6 ?_;refine wpIn_ret ?_;simp only[Exit.inBlock,ownPostK];refine⟨⟨by simp,fun k o hk ho=>?_⟩,trivial,pre,x,rfl,h1,hx,hbel.os,hbel.tape,hbel.output,by simpa using hbel.size,fun k hk hne=>(setRow_other _ _ _ _ hne).trans (hbel.block k hk),⟨_,setRow_heap _ _ _ _ _ _ hW⟩⟩
   by_cases hk2:k=rb
   ·subst hk2; rw[hW] at hk; cases hk; simp[Obj.isCells] at ho
   ·rw[setRow_other _ _ _ _ hk2]; exact hk
 case hdone =>
  intro D xs W hD hS ⟨h1,hbel⟩ hDo;subst hS;exact hdone D W h1 hbel hD hDo
 case hstop =>
  intro D c pre W hD hS ⟨hc,pre',x,h3,h4,h5,h6⟩ hDo;subst hc;refine wpIn_ret (hstop D W x ?_ h6 hD hDo);obtain⟨t,rfl⟩:=hS;rw[h3,cQ,List.find?_append]
  have:List.find? (fun e=>e != 0) pre'=none:=ej.2 fun y hy=>by simp[h4 y hy]
  rw[this];simp[h5]
end Go.Proofs.ZzM
end

noncomputable section
set_option maxRecDepth 100000
namespace Go.Proofs.ZzM
open Go Go.Am Go.RowKit
def fstC:Code→Code
 |.seq a _=>a
 |c=>c
def sndC:Code→Code
 |.seq _ b=>b
 |c=>c
def ad9:Nat→Code→Code
 |0,c=>fstC c
 |n+1,c=>ad9 n (sndC c)
def ahx:Nat→Code→Code
 |0,c=>c
 |n+1,c=>ahx n (sndC c)
def ckB:Code:=Tryz.f72.body.getD .skip
def ckA5:Code:=fstC (ahx 5 ckB |> fstC)
def ckRF:Code:=sndC (ahx 5 ckB |> fstC)
def QD:Code:=sndC (ahx 5 ckB)
def ckPre:Code:=.seq (ad9 0 ckB) (.seq (ad9 1 ckB) (.seq (ad9 2 ckB) (.seq (ad9 3 ckB) (.seq (ad9 4 ckB) ckA5))))
def aiu:Tryz.f72.body=some (.seq (ad9 0 ckB) (.seq (ad9 1 ckB) (.seq (ad9 2 ckB) (.seq (ad9 3 ckB) (.seq (ad9 4 ckB) (.seq (.seq ckA5 ckRF) QD)))))):=by kernel_rfl
def ck_pt:List (Nat×ã):=[(136,xI),(143,vn),(141,tz),(142,xM)]
def ckE (ρ:Type):Env ρ:=å ck_pt []
abbrev ckR:Type:=Int ⊕ (List AV×List Blk)
def afx (S:St):Option Int:=match tr Tryz.prog Tryz.f72 S with
 |some v=>ai2 [tI] S.h v
 |none=>none
def ckK (e:Exit) (S:St):Option ckR:=match e with
 |.ret=>match afx S with
  |some n=>some (.inl n)
  |none=>none
 |.normal=>match decide (78≤S.t.length) with
  |true=>some (.inr ([lk S.t 1,lk S.t 2,lk S.t 48],S.h))
  |false=>none
 |_=>none
def ckH (x:Val É) (s:Val (.map tI Ö)) (n:Int):List Blk :=
 [.cells (flat É x),.cells [.int .i64 n],.cells (flat É x),.cells [.mp tI Ö s],.cells [.fn (.func 204) [] [.box 3 0]]]
def ckM (x:Val É):Option ckR :=
 Ä (Λ x.1 (0:Int) (1000000:Int)) fun r1=>ifb (!r1) (some (.inl 1)) (ifb (igt (Û x.2.1) (12:Int)) (some (.inl 2)) (ifb (igt (Û x.2.2.1) (40:Int)) (some (.inl 2)) (ifb (igt (Û x.2.2.2.1) (12:Int)) (some (.inl 2)) (ifb (igt (Û x.2.2.2.2.1) (40:Int)) (some (.inl 2)) (ifb (igt (Û x.2.2.2.2.2) (10:Int)) (some (.inl 2))
  (Ä (Α x) fun r2=>ifb (ine r2 (0:Int)) (some (.inl r2)) (Ä (Ń x) fun r3=>some (.inr ([.box 0 0,.box 1 0,.fn (.func 207) [] [.box 2 0,.box 4 0,.box 3 0]],ckH x r3 0)))))))))
def ck_pre (x:Val É):goC (ckE ckR) (ŵ (ckE ckR) 10) 72 [] 0 0 ckPre {t:=Zn [É] x++List.replicate 77 .any,h:=[]} ckK=ckM x:=by kernel_rfl
def ahG (ρ:Type):Env ρ:={ckE ρ with inl:=fun _=>false}
def ckS (x:Val É):Option Int :=
 Ä (ox x) fun r5=>ifb (igt (Û r5) (59:Int)) (some (2:Int)) (ck ((2:Int)*(Û x.2.1)) fun n6=>ck ((Û r5)-(Û x.2.1)) fun n7=>ck ((2:Int)*n7) fun n8=>ck (n6+n8) fun n9=>ck ((2:Int)*(Û x.2.2.2.2.1)) fun n10=>ck (n9+n10) fun n11=>ifb (igt n11 (300:Int)) (some (2:Int)) (some (0:Int)))
def ckK2 (e:Exit) (S:St):Option Int:=match e with
 |.ret=>match lk S.t 2 with
  |.box 1 0=>match lkB S.h 1 with
   |.cells [.int .i64 n]=>some n
   |_=>none
  |_=>none
 |_=>none
def ck_suf (x:Val É) (s:Val (.map tI Ö)):goC (ahG Int) (ŵ (ahG Int) 10) 72 [] 0 0 QD {t:=[.any,.box 0 0,.box 1 0]++List.replicate 75 .any,h:=ckH x s 0} ckK2=ckS x:=by kernel_rfl
def ahF (x:Val É):ĕ x=match ckM x with
 |none=>none
 |some (.inl n)=>some n
 |some (.inr _)=>Ä (Ń x) fun s=>UG (ot x s) some (ckS x):=by
 unfold ĕ My ckM ckS
 cases Λ x.1 (0:Int) (1000000:Int) with
 |none=>rfl
 |some r1 =>
 cases r1 with
 |false=>rfl
 |true =>
 simp only[Ä,ifb,dB]
 cases igt (Û x.2.1) (12:Int) with
 |true=>rfl
 |false =>
 cases igt (Û x.2.2.1) (40:Int) with
 |true=>rfl
 |false =>
 cases igt (Û x.2.2.2.1) (12:Int) with
 |true=>rfl
 |false =>
 cases igt (Û x.2.2.2.2.1) (40:Int) with
 |true=>rfl
 |false =>
 cases igt (Û x.2.2.2.2.2) (10:Int) with
 |true=>rfl
 |false =>
 cases Α x with
 |none=>rfl
 |some r2 =>
 simp only
 cases ine r2 (0:Int) with
 |true=>rfl
 |false =>
 cases Ń x with
 |none=>rfl
 |some r3=>rfl
def ajG {x:Val É} {q:List AV×List Blk} (h:ckM x=some (.inr q)):((x.2.2.1:List (Val Ã)).length≤1000∧(x.2.2.2.1:List (Val iy)).length≤1000∧(x.2.2.2.2.1:List (Val Ù)).length≤1000∧(x.2.2.2.2.2:List (Val Ã)).length≤1000) ∧
 ∃s,Ń x=some s∧q=([.box 0 0,.box 1 0,.fn (.func 207) [] [.box 2 0,.box 4 0,.box 3 0]],ckH x s 0):=by
 unfold ckM at h
 cases h0:Λ x.1 (0:Int) (1000000:Int) with
 |none=>rw[h0] at h; cases h
 |some r1 =>
 rw[h0] at h
 cases r1 with
 |false=>cases h
 |true =>
 simp only[Ä,ifb,dB] at h
 cases h1:igt (Û x.2.1) (12:Int) with
 |true=>rw[h1] at h; cases h
 |false =>
 rw[h1] at h
 cases h2:igt (Û x.2.2.1) (40:Int) with
 |true=>rw[h2] at h; cases h
 |false =>
 rw[h2] at h
 cases h3:igt (Û x.2.2.2.1) (12:Int) with
 |true=>rw[h3] at h; cases h
 |false =>
 rw[h3] at h
 cases h4:igt (Û x.2.2.2.2.1) (40:Int) with
 |true=>rw[h4] at h; cases h
 |false =>
 rw[h4] at h
 cases h5:igt (Û x.2.2.2.2.2) (10:Int) with
 |true=>rw[h5] at h; cases h
 |false =>
 rw[h5] at h
 cases h6:Α x with
 |none=>rw[h6] at h; cases h
 |some r2 =>
 rw[h6] at h;simp only at h
 cases h7:ine r2 (0:Int) with
 |true=>rw[h7] at h; cases h
 |false =>
 rw[h7] at h
 cases h8:Ń x with
 |none=>rw[h8] at h; cases h
 |some r3 =>
 rw[h8] at h
 have lt:∀{α:Type} (l:List α) (n:Nat),igt (Û l) (n:Int)=false→l.length≤n:=by
  intro α l n h;unfold Û at h;rw[Kw] at h;simp only[igt,gt_iff_lt,decide_eq_false_iff_not] at h;omega
 simp only[Option.some.injEq,Sum.inr.injEq] at h;exact⟨⟨by have:=lt x.2.2.1 40 h2; omega,by have:=lt x.2.2.2.1 12 h3; omega,by have:=lt x.2.2.2.2.1 40 h4; omega,by have:=lt x.2.2.2.2.2 10 h5; omega⟩,r3,rfl,h.symm⟩
def Dq {α β:Type} {f:α→Option β}:∀{l:List α} {m:List β},KD f l=some m→m.length=l.length∧∀(i:Nat) (a:α),l[i]?=some a→∃b,m[i]?=some b∧f a=some b
 |[],m,h=>by cases h; exact⟨rfl,fun i a ha=>by simp at ha⟩
 |a::l,m,h=>by
  unfold KD at h
  cases ha:f a with
  |none=>rw[ha] at h; cases h
  |some b =>
   rw[ha] at h
   cases hl:KD f l with
   |none=>rw[hl] at h; cases h
   |some m' =>
    rw[hl] at h;cases h;obtain⟨h1,h2⟩:=Dq hl;refine⟨by simp[h1],fun i c hc=>?_⟩
    cases i with
    |zero=>simp at hc; subst hc; exact⟨b,by simp,ha⟩
    |succ i=>simpa using h2 i c (by simpa using hc)
def Ju (l:List Int):upE (fun j=>l[j]?.getD 0) l.length=l:=by
 unfold upE;refine List.ext_getElem (by simp) fun i h1 h2=>?_;simp at h1;simp[h1]
def CR.below {n₀:Nat} {w W:World} {av:Nat→Prop} (hb:Below n₀ w W) (hn:w.heap.size≤n₀) {t:Ty} {x:Val t} {vs:List Value} (h:CR w av t x vs):CR W av t x vs :=
 h.keep fun b hlt ha=>⟨hb.block b (dc hlt hn),ha⟩
def J2 {w:World} {av:Nat→Prop} {xs:List (Int×Int)} {v:Value} (h:CR w av (.slice Ã) xs [v]):∃base cap b off,v=.slice base xs.length cap∧(0<xs.length→base=some ⟨b,off,none⟩∧b<w.heap.size) ∧
 ∀j,j<xs.length→w.cell? ⟨b,off+j*2,none⟩=some (.int .i64 (xs[j]?.getD (0,0)).1)∧w.cell? ⟨b,off+j*2+1,none⟩=some (.int .i64 (xs[j]?.getD (0,0)).2):=by
 obtain⟨base,cap,e,hc,hx⟩:=h;cases e;rcases hx with hx|⟨b,off,hb,hav,hlt,hx⟩
 ·refine⟨base,cap,0,0,rfl,fun h=>?_,fun j hj=>?_⟩
  ·rw[show xs=[] from hx] at h; simp at h
  ·rw[show xs=[] from hx] at hj; simp at hj
 ·refine⟨base,cap,b,off,rfl,fun _=>⟨hb,hlt⟩,fun j hj=>?_⟩;obtain⟨us,h1,h2⟩:=hx j xs[j] (cF hj);obtain⟨u1,u2,e1,h3,h4⟩:=h1;have e3:u1=[.int .i64 xs[j].1]:=h3;have e4:u2=[.int .i64 xs[j].2]:=h4;subst e3 e4 e1;have s:(Ã).size=2:=rfl;rw[s] at h2;have c1:=h2 0 _ rfl;have c2:=h2 1 _ rfl;rw[cF hj];exact⟨by simpa using c1,by simpa[Nat.add_assoc] using c2⟩
end Go.Proofs.ZzM
end

noncomputable section
set_option maxRecDepth 100000
namespace Go.Proofs.ZzM
open Go Go.Am Go.RowKit
section
variable {w W W':World}
abbrev noG:Nat→Prop:=fun _=>False
def Tl (w:World) (n:Int):kY w noG tI n (.int .i64 n):=⟨[.int .i64 n],rfl,rfl⟩
def aje {sb:Nat} {mv:Value} {e:TypeId} {s:Val (.map tI Ö)} (h:w.heap[sb]?=some (.cells #[mv] e (0,0))) (hm:CR w noG (.map tI Ö) s [mv]):kY w noG (.ptr (.map tI Ö)) s (.pointer (some ⟨sb,0,none⟩)):=by
 letI:Ghost:=(Gk (fun _=>False) [] (none))
 exact⟨[.pointer (some ⟨sb,0,none⟩)],⟨sb,0,[mv],rfl,id,ď h,hm,CellsAt.of_cells h⟩,rfl⟩
def ai1 {y:Int} {u:Value} (h:RR w noG [tI] y u):u=.int .i64 y:=by
 obtain⟨us,h1,rfl⟩:=h;have:us=[.int .i64 y]:=h1;rw[this]; rfl
def ahm (h1:∀b,b<W.heap.size→W'.heap[b]?=W.heap[b]?) (h2:W.heap.size≤W'.heap.size) (h3:W'.os=W.os) (h4:W'.tape=W.tape) (h5:W'.output=W.output):W.grownBy W' none :=
 ⟨h3,h4,h5,h2,fun b hb _=>h1 b hb⟩
def TL {f:Nat} {p:ã} (hp:ki Tryz.prog f p) (hrs:p.rs=[tI]) {x:Val (tyL p.ts)} {y:Int} (hF:p.F x=some (hrs▸(show Val (tyL [tI]) from y))) {vals:List Value} (ha:AL W noG p.ts x vals) :
 CallsIn Fence.wide 0 Tryz.prog f vals.toArray W fun e W''=>e=.returned (.int .i64 y)∧W.grownBy W'' none:=by
 obtain⟨ts,rs,F⟩:=p;dsimp only at hrs hF ha x;subst hrs;refine(hp noG x y hF W vals (fun _ h=>h.elim) ha).2.mono fun e w' ⟨u,h0,h1,h2,h3,h4,h5,h6⟩=>⟨?_,ahm h2 h3 h4 h5 h6⟩;rw[h0,ai1 h1]
def Ue {s:Val (.map tI Ö)} {a b y:Int} (hF:ń a b s=some y) {sb:Nat} {mv:Value} {e:TypeId} (h:W.heap[sb]?=some (.cells #[mv] e (0,0))) (hm:CR W noG (.map tI Ö) s [mv]) :
 CallsIn Fence.wide 0 Tryz.prog 204 #[.int .i64 a,.int .i64 b,.pointer (some ⟨sb,0,none⟩)] W fun e W''=>e=.returned (.int .i64 y)∧W.grownBy W'' none :=
 TL ZC rfl (x:=(a,b,s)) (y:=y) hF (vals:=[.int .i64 a,.int .i64 b,.pointer (some ⟨sb,0,none⟩)]) ⟨_,_,rfl,Tl _ _,_,_,rfl,Tl _ _,_,rfl,aje h hm⟩
def aek {mv:Value} {s:Val (.map tI Ö)} (hm:CR W noG (.map tI Ö) s [mv]):kY W noG (.map tI Ö) s mv:=⟨[mv],hm,rfl⟩
def abn {x:Val É} {cs:Array Value} (hb:CR W noG É x cs.toList):kY W noG É x (.agg cs):=⟨cs.toList,hb,by show Value.agg cs=Value.agg cs.toList.toArray; rw[Array.toArray_toList]⟩
def aex {x:Val É} {s:Val (.map tI Ö)} {i y:Int} (hF:Φ x s i=some y) {mv:Value} {cs:Array Value} (hb:CR W noG É x cs.toList) (hm:CR W noG (.map tI Ö) s [mv]) :
 CallsIn Fence.wide 0 Tryz.prog 208 #[.agg cs,mv,.int .i64 i] W fun e W''=>e=.returned (.int .i64 y)∧W.grownBy W'' none :=
 TL TS rfl (x:=(x,s,i)) (y:=y) hF (vals:=[.agg cs,mv,.int .i64 i]) ⟨_,_,rfl,abn hb,_,_,rfl,aek hm,_,rfl,Tl _ _⟩
def W9 {x:Val É} {s:Val (.map tI Ö)} {i y:Int} (hF:ŏ x s i=some y) {mv:Value} {cs:Array Value} (hb:CR W noG É x cs.toList) (hm:CR W noG (.map tI Ö) s [mv]) :
 CallsIn Fence.wide 0 Tryz.prog 209 #[.agg cs,mv,.int .i64 i] W fun e W''=>e=.returned (.int .i64 y)∧W.grownBy W'' none :=
 TL Jq rfl (x:=(x,s,i)) (y:=y) hF (vals:=[.agg cs,mv,.int .i64 i]) ⟨_,_,rfl,abn hb,_,_,rfl,aek hm,_,rfl,Tl _ _⟩
end
def pS {w:World} {av:Nat→Prop} {t:Ty} {xs:List (Val t)} {vs:List Value} (h:CR w av (.slice t) xs vs):∃base cap,vs=[.slice base xs.length cap]:=by
 obtain⟨base,cap,e,_⟩:=h;exact⟨base,cap,e⟩
def agQ {x:Val É} {s:Val (.map tI Ö)} {l1 l2 l3 l4:List Int} (h1:KD (fun u=>ń u.1 u.2 s) (x.2.2.1:List (Int×Int))=some l1) (h2:KD (fun i=>Φ x s i) (xu (x.2.2.2.1:List (Val iy)).length)=some l2)
 (h3:KD (fun i=>ŏ x s i) (xu (x.2.2.2.2.1:List (Val Ù)).length)=some l3) (h4:KD (fun u=>ń u.1 u.2 s) (x.2.2.2.2.2:List (Int×Int))=some l4)
 (hlen:(x.2.2.1:List (Val Ã)).length≤1000∧(x.2.2.2.1:List (Val iy)).length≤1000∧(x.2.2.2.2.1:List (Val Ù)).length≤1000∧(x.2.2.2.2.2:List (Val Ã)).length≤1000)
 {w:World} {bb tb sb:Nat} {te te2 te3:TypeId} {cb:Array Value} {mv:Value} (hbb:w.heap[bb]?=some (.cells cb te (0,0))) (hbk:CR w noG É x cb.toList) (htb:w.heap[tb]?=some (.cells #[.func (.func 204) #[] #[.pointer (some ⟨sb,0,none⟩)]] te2 (0,0)))
 (hsb:w.heap[sb]?=some (.cells #[mv] te3 (0,0))) (hmv:CR w noG (.map tI Ö) s [mv]) :
 SeqStopsK Fence.wide 1 Tryz.prog 207 #[.pointer (some ⟨bb,0,none⟩),.pointer (some ⟨tb,0,none⟩),.pointer (some ⟨sb,0,none⟩)] (fun x:Int=>#[.int .i64 x]) (Below w.heap.size) (fun xs=>xs=l1++(l2++(l3++l4))) (fun pre=>pre <+: (l1++(l2++(l3++l4)))) (l1++(l2++(l3++l4))).length w:=by
 intro l J Jx W hbel hJ hJx hY h0;obtain⟨fl,r0,e0,hfl,hr0⟩:=id hbk;obtain⟨ga,r1,e1,hga,hr1⟩:=hr0;obtain⟨us,r2,e2,hus,hr2⟩:=hr1;obtain⟨lo,r3,e3,hlo,hr3⟩:=hr2;obtain⟨co,ko,e4,hco,hko⟩:=hr3;obtain⟨f1,f2,e5,hf1,hf2⟩:=hfl;have e6:f1=[.int .i64 x.1.1]:=hf1;have e7:f2=[.int .i64 x.1.2]:=hf2;obtain⟨gab,gac,e8⟩:=pS hga;obtain⟨lob,loc,e9⟩:=pS hlo;obtain⟨cob,coc,e10⟩:=pS hco;obtain⟨usb0,usc0,e11⟩:=pS hus;obtain⟨kob0,koc0,e12⟩:=pS hko;rw[e11] at hus;rw[e12] at hko;obtain⟨usb,usc,ub,uo,e13,hub,hU⟩:=J2 hus;obtain⟨kob,koc,kb,kof,e14,hkb,hK⟩:=J2 hko;rw[e13] at e11;rw[e14] at e12
 have hcb:cb=#[.int .i64 x.1.1,.int .i64 x.1.2,.slice gab (x.2.1:List (Val Ö)).length gac,.slice usb (x.2.2.1:List (Val Ã)).length usc,.slice lob (x.2.2.2.1:List (Val iy)).length loc,.slice cob (x.2.2.2.2.1:List (Val Ù)).length coc,.slice kob (x.2.2.2.2.2:List (Val Ã)).length koc]:=by
  rw[←dJ,e0,e1,e2,e3,e4,e5,e6,e7,e8,e9,e10,e11,e12];rfl
 obtain⟨g1,q1⟩:=Dq h1;obtain⟨g2,q2⟩:=Dq h2;obtain⟨g3,q3⟩:=Dq h3;obtain⟨g4,q4⟩:=Dq h4
 have gl2:l2.length=(x.2.2.2.1:List (Val iy)).length:=by rw[g2]; simp[xu]
 have gl3:l3.length=(x.2.2.2.2.1:List (Val Ù)).length:=by rw[g3]; simp[xu]
 have up1:upE (fun j=>l1[j]?.getD 0) (x.2.2.1:List (Val Ã)).length=l1:=by rw[←g1]; exact Ju l1
 have up2:upE (fun j=>l2[j]?.getD 0) (x.2.2.2.1:List (Val iy)).length=l2:=by rw[←gl2]; exact Ju l2
 have up3:upE (fun j=>l3[j]?.getD 0) (x.2.2.2.2.1:List (Val Ù)).length=l3:=by rw[←gl3]; exact Ju l3
 have up4:upE (fun j=>l4[j]?.getD 0) (x.2.2.2.2.2:List (Val Ã)).length=l4:=by rw[←g4]; exact Ju l4
 have at1:∀{xs:List (Int×Int)} {ls:List Int},(∀(i:Nat) (a:Int×Int),xs[i]?=some a→∃b,ls[i]?=some b∧ń a.1 a.2 s=some b)→∀j,j<xs.length→ń (xs[j]?.getD (0,0)).1 (xs[j]?.getD (0,0)).2 s=some (ls[j]?.getD 0):=by
  intro xs ls hq j hj;obtain⟨b,hb,hf⟩:=hq j xs[j] (cF hj);rw[cF hj,hb];exact hf
 have at2:∀{n:Nat} {ls:List Int} {f:Int→Option Int},(∀(i:Nat) (a:Int),(xu n)[i]?=some a→∃b,ls[i]?=some b∧f a=some b)→∀j,j<n→f (j:Int)=some (ls[j]?.getD 0):=by
  intro n ls f hq j hj;obtain⟨b,hb,hf⟩:=hq j j (by simp[xu,hj]);rw[hb]; exact hf
 have hbel':∀{W':World},Below w.heap.size W W'→Below w.heap.size w W':=fun h=>hbel.trans h;have hcell:∀{W':World} {p:Addr} {v:Value},Below w.heap.size w W'→w.cell? p=some v→p.block<w.heap.size→W'.cell? p=some v:=fun {W'} {p} {v} h hc hp=>(h.cell (p:=p) hp).trans hc;have lb:=ď hbb;have lt:=ď htb;have ls:=ď hsb
 have:=agY te 1 (by omega) l w.heap.size bb tb sb (.int .i64 x.1.1) (.int .i64 x.1.2) (.slice gab (x.2.1:List (Val Ö)).length gac) mv lb lt ls
  ub uo (x.2.2.1:List (Val Ã)).length usc kb kof (x.2.2.2.2.2:List (Val Ã)).length koc usb kob lob cob (x.2.2.2.1:List (Val iy)).length loc (x.2.2.2.2.1:List (Val Ù)).length coc hub hkb
  (fun j=>(x.2.2.1:List (Int×Int))[j]?.getD (0,0)) (fun j=>(x.2.2.2.2.2:List (Int×Int))[j]?.getD (0,0)) (fun j=>l1[j]?.getD 0) (fun j=>l2[j]?.getD 0) (fun j=>l3[j]?.getD 0) (fun j=>l4[j]?.getD 0)
  hlen.1 hlen.2.1 hlen.2.2.1 hlen.2.2.2 W ((hbel.block bb lb).trans (by rw[hbb,hcb])) (hcell hbel (by simp[World.cell?,htb]) lt) (hcell hbel (by simp[World.cell?,hsb]) ls)
  (fun j hj=>⟨hcell hbel (hU j hj).1 (hub (by omega)).2,hcell hbel (hU j hj).2 (hub (by omega)).2⟩) (fun j hj=>⟨hcell hbel (hK j hj).1 (hkb (by omega)).2,hcell hbel (hK j hj).2 (hkb (by omega)).2⟩)
  (fun j hj W' hW=>Ue (at1 q1 j hj) (((hbel' hW).block sb ls).trans hsb) (CR.below (hbel' hW) (cG _) hmv))
  (fun j hj W' hW=>Ue (at1 q4 j hj) (((hbel' hW).block sb ls).trans hsb) (CR.below (hbel' hW) (cG _) hmv))
  (fun j hj W' hW=>aex (at2 q2 j hj) (by have:=CR.below (hbel' hW) (cG _) hbk; rwa [hcb] at this) (CR.below (hbel' hW) (cG _) hmv))
  (fun j hj W' hW=>W9 (at2 q3 j hj) (by have:=CR.below (hbel' hW) (cG _) hbk; rwa [hcb] at this) (CR.below (hbel' hW) (cG _) hmv))
  J Jx (fun pre W1 W2 hj hg=>hJ pre W1 W2 none hj hg (fun r e=>by cases e)) (fun pre W1 W2 hj hg=>hJx pre W1 W2 none hj hg (fun r e=>by cases e))
  (fun pre y W1 hj hl=>hY pre y W1 hj (by simp only[cJ]; omega)) h0 hbel.size
 rw[up1,up2,up3,up4] at this;exact this
end Go.Proofs.ZzM
end

noncomputable section
set_option maxRecDepth 100000
namespace Go.Proofs.ZzM
open Go Go.Am Go.RowKit
section
variable [Ghost] {ρ:Type} {ν:Nat→Value} {w:World}
def peel (hq:Ghost.Q=none) {E:Env ρ} {call:List Nat→Bool→Nat→List AV→List Blk→(AV→List Blk→Option ρ)→Option ρ} {L:Nat} (hE:md E L call) (hD:vf E L call) (hj:E.joins=fun _ _ _ _=>none) {fid:Nat} {path:List Nat} (hp:path.length+2=L) {x y c:Code} {bid n:Nat} {S:St} {K:Exit→St→Option ρ} {r:ρ} {a:Act} {Q:Exit→Act→World→Prop}
 (hL:∀z∈Ý bid x,sL E path fid z.1 z.2) (e:goC E call fid path 0 bid (.seq x y) S K=some r) (H:Sim ν S a w)
 (hn:∀ν' S' a' w',Sim ν' S' a' w'→Ev 0 ν S.h w ν' S'.h w'→goC E call fid path 0 bid y S' K=some r→c.wpIn Fence.wide n E.P Q a' w')
 (hx:∀ν' S' a' w' e,e≠.normal→Sim ν' S' a' w'→Ev 0 ν S.h w ν' S'.h w'→K e S'=some r→Q e a' w'):(Code.seq x c).wpIn Fence.wide n E.P Q a w:=by
 simp only[goC,hj] at e;have hgo:=uL hE hD hp x bid S _ ν a w hL e H (dQ _);rw[aa6 hq] at hgo;refine wpIn_seq (wpIn_wide.2 (wpIn_wide.1 (wpIn_mono hgo fun e' a' w' ha=>?_)));obtain⟨ν',S',h1,h2,h3,h4,h5⟩:=ha
 cases e' with
 |normal=>exact hn ν' S' a' w' h1 h2 h5
 |exit id=>exact hx ν' S' a' w' _ (by simp) h1 h2 h5
 |goto l=>exact hx ν' S' a' w' _ (by simp) h1 h2 h5
 |ret=>exact hx ν' S' a' w' _ (by simp) h1 h2 h5
 |panic ch=>exact hx ν' S' a' w' _ (by simp) h1 h2 h5
 |outgrown=>exact hx ν' S' a' w' _ (by simp) h1 h2 h5
end
def adK {T:Array Value} {rb:Nat} {n:Int} {e:TypeId} {W:World} (h2:T.getD 2 undef=.pointer (some ⟨rb,0,none⟩)) (hc:W.heap[rb]?=some (.cells #[.int .i64 n] e (0,0))):(results Tryz.f72 T).run Tryz.prog W=.ok (.int .i64 n) W:=by
 letI:Ghost:=(Gk (fun _=>False) [] (none))
 have hl:(loadVar 38 ⟨rb,0,none⟩).run Tryz.prog W=.ok (.int .i64 n) W:=by
  have:=run_loadVar (P:=Tryz.prog) (w:=W) (t:=38) (agg:=false) (n:=1) (by kernel_rfl) (us:=[.int .i64 n]) rfl (fun _=>rfl) (a:=⟨rb,0,none⟩) (fun j v hj=>by
   have:=CellsAt.of_cells hc j v (by simpa using hj)
   cases j with
   |zero=>simpa[Addr.add] using this
   |succ j=>simp at hj)
  exact this
 have hr:Tryz.f72.results=#[.cell 2 38]:=by kernel_rfl
 unfold results;rw[hr,Array.mapM_eq_mapM_toList];simp only[Sem.run_bind,Sem.run_map,List.mapM_cons,List.mapM_nil,h2,asAddr,Sem.run_pure,Result.andThen_ok,hl];rfl
@[reducible] def gck (G:Nat→Prop) (M:Nat):Ghost:=(Gh G).re G [] none M
def ajL [Ghost] {ν:Nat→Value} {h:List Blk} {w:World} {x:Val É} {us:List Value} (hv:ý (VRc ν h w) (flat É x) us):CR w noG É x us:=by
 have h1:Ú É (flat É x)=some x:=rfl;have h2:ý (VRs w (Av ν h)) (flat É x) us:=hv.mono fun c u hu=>hu.1.data;exact CR.mono (fun _ hf=>hf.elim) (ğ h1 h2)
def BF (G:Nat→Prop) (y:Int) (w:World) (e:Ending) (w':World):Prop :=
 ∃u,e=.returned u∧RR w' G [tI] y u∧(∀b,b<w.heap.size→w'.heap[b]?=w.heap[b]?)∧w.heap.size≤w'.heap.size∧w'.os=w.os∧w'.tape=w.tape∧w'.output=w.output
def abb {G:Nat→Prop} {y:Int} {w0 w:World} {a:Act} {ms:List Nat} {rb:Nat} {e:TypeId} (hd:a.defers=ms.map mk1) (hn:ms.Nodup) (hD:∀k∈ms,w.heap[k]?=some (.deferred (some []))∧w0.heap.size≤k) (h2:a.tmps.getD 2 undef=.pointer (some ⟨rb,0,none⟩)) (hc:w.heap[rb]?=some (.cells #[.int .i64 y] e (0,0)))
 (hb:∀b,b<w0.heap.size→w.heap[b]?=w0.heap[b]?) (hsz:w0.heap.size≤w.heap.size) (h3:w.os=w0.os) (h4:w.tape=w0.tape) (h5:w.output=w0.output):LeavesInM Fence.wide 2 Tryz.prog Tryz.f72 a.tmps (BF G y w0) a.defers .returning w:=by
 rw[hd]
 have hne:rb∉ms:=fun h=>by rw[(hD rb h).1] at hc; cases hc
 refine sm ms w hn (fun k hk=>(hD k hk).1) fun w2 q1 q2 q3 q4 q5=>?_;exact⟨.int .i64 y,adK h2 ((q5 rb hne).trans hc),.int .i64 y,rfl,⟨[.int .i64 y],rfl,rfl⟩,fun b hlt=>(q5 b fun hm=>by have:=(hD b hm).2; omega).trans (hb b hlt),by rw[q1]; exact hsz,q2.trans h3,q3.trans h4,q4.trans h5⟩
def ajH (S:St):ckK .ret S=(afx S).map .inl:=by
 unfold ckK
 cases afx S<;>rfl
def acH (S:St):ckK .normal S=if decide (78≤S.t.length)=true then some (.inr ([lk S.t 1,lk S.t 2,lk S.t 48],S.h)) else none:=by
 unfold ckK
 cases decide (78≤S.t.length)<;>rfl
def kO [Ghost] {ρ:Type} {E:Env ρ} (h0:E.loops=kD []) (h1:E.ranges=fun _ _ _ _ _ _ _=>none) {path:List Nat} {fid bid:Nat} {b:LI}:sL E path fid bid b:=by
 cases b with
 |lp b=>exact fun m S K r ν a w e=>by rw[h0] at e; cases e
 |rf g ps x y=>exact fun m S K r ν a w e=>by rw[h1] at e; cases e
def ait {ρ:Type} (E:Env ρ) (hP:E.P.follows .mixedOrders=true) (hlib:∀[Ghost],kh E→FH E) (h0:E.loops=kD []) (h1:E.ranges=fun _ _ _ _ _ _ _=>none) (hy:E.yld=none) [Ghost]:md E 2 (ŵ E 10) :=
 qE hlib (fun L call hE=>m8 hP L call hE) (fun n hn hE _ _ path f fn c _ _ _ z _=>kO h0 h1) 10 (cG _) (i5 hy)
def ai6:Code→String
 | .region _ ops _ => ((ops[0]?).map fun o => o.pos).getD ""
 | _ => ""
def rfA:Code→Code
 |.block _ (.rangeFunc _ _ a _)=>a
 |_=>.skip
def rfB:Code→Code
 |.block _ (.rangeFunc _ _ _ (.block _ (.seq a _)))=>a
 |_=>.skip
def rfC:Code→Code
 |.block _ (.rangeFunc _ _ _ (.block _ (.seq _ (.cond _ (.seq a _) _))))=>a
 |_=>.skip
def ajF:ckRF=Code.block 0 (Code.rangeFunc (.tmp 48) #[49] (aah (ai6 (rfA ckRF))) (ah9 (ai6 (rfB ckRF)) (ai6 (rfC ckRF)))):=by kernel_rfl
def ais:∀e∈ck_pt,ki Tryz.prog e.1 e.2:=Á FC (Á CP (Á Ab (Á Nv Å)))
def afy {e:Exit} {S:St} {n:Int} (h:ckK2 e S=some n):e=.ret∧lk S.t 2=.box 1 0∧lkB S.h 1=.cells [.int .i64 n]:=by
 unfold ckK2 at h
 split at h
 ·split at h
  ·rename_i h2
   split at h
   ·rename_i h3;cases h;exact⟨rfl,h2,h3⟩
   ·cases h
  ·cases h
 ·cases h
def WO [Ghost] {ν:Nat→Value} {h:List Blk} {w:World} {n:Int} {id:Nat} (H:HR ν h w) (hl:lkB h id=.cells [.int .i64 n]):∃b e,ν id=.pointer (some ⟨b,0,none⟩)∧w.heap[b]?=some (.cells #[.int .i64 n] e (0,0)):=by
 have hB:=H.blk id;rw[hl] at hB;obtain⟨b,c,e,h1,h2,h3⟩:=hB;obtain⟨u,h4,h5⟩:=h3.one;have h6:u=.int .i64 n:=h5.1;refine⟨b,e,h1,?_⟩;rw[h2]
 have:c=#[.int .i64 n]:=by rw[←dJ,h4,h6]
 rw[this]
def Hw [Ghost] {ν:Nat→Value} {h:List Blk} {w:World} {id off:Nat} {v:Value} {b:Nat} (hv:VR ν h w (.box id off) v) (hb:ν id=.pointer (some ⟨b,0,none⟩)):v=.pointer (some ⟨b,off,none⟩):=by
 obtain⟨cs,b',h1,h2,h3⟩:=hv;rw[hb] at h2;cases h2;exact h3
def ajE {G:Nat→Prop} {x:Val É} {s:Val (.map tI Ö)} {y:Int} (hS:ckS x=some y) {ν:Nat→Value} {w0 w6 W:World} {a:Act} (H:@HR (gck G w0.heap.size) ν (ckH x s 0) w6) (hb:Below w6.heap.size w6 W) {ms:List Nat} (hd:a.defers=ms.map mk1) (hn:ms.Nodup) (hms:∀k∈ms,W.heap[k]?=some (.deferred (some []))∧w0.heap.size≤k) (hlen:78≤a.tmps.size)
 (t1:@VR (gck G w0.heap.size) ν (ckH x s 0) w6 (.box 0 0) (a.tmps.getD 1 undef)) (t2:@VR (gck G w0.heap.size) ν (ckH x s 0) w6 (.box 1 0) (a.tmps.getD 2 undef))
 (h0:∀b,b<w0.heap.size→w6.heap[b]?=w0.heap[b]?∧¬CW ν (ckH x s 0) b) (hsz:w0.heap.size≤w6.heap.size) (h3:w6.os=w0.os) (h4:w6.tape=w0.tape) (h5:w6.output=w0.output) :
 QD.wpIn Fence.wide 2 Tryz.prog (bodyPostM Fence.wide 2 Tryz.prog Tryz.f72 (BF G y w0)) a W:=by
 have hlive:∀b,CW ν (ckH x s 0) b→b<w6.heap.size:=fun b hl=>@HR.ltA (gck G w0.heap.size) _ _ _ H b (.inl hl)
 have t1':∃b,ν 0=.pointer (some ⟨b,0,none⟩)∧a.tmps.getD 1 undef=.pointer (some ⟨b,0,none⟩):=by
  obtain⟨cs,b,_,h2,h3⟩:=t1;exact⟨b,h2,h3⟩
 have t2':∃b,ν 1=.pointer (some ⟨b,0,none⟩)∧a.tmps.getD 2 undef=.pointer (some ⟨b,0,none⟩):=by
  obtain⟨cs,b,_,h2,h3⟩:=t2;exact⟨b,h2,h3⟩
 letI:Ghost:=gck G w0.heap.size
 have H1:HR ν (ckH x s 0) w6:=H;have H2:HR ν (ckH x s 0) W:=(H1.grow (fun b hlt=>hb.block b hlt) hb.size hb.os hb.tape hb.output 0).2;have hdraw:∀L call,md (ahG Int) L call→vf (ahG Int) L call:=m8 hmix;have hl0:(ahG Int).loops=kD []:=rfl;have hEnv:md (ahG Int) 2 (ŵ (ahG Int) 10):=ait (ahG Int) hmix (fun {_} _=>CG ais (ahG Int) rfl rfl rfl rfl rfl (Ŕ rfl) (lU rfl) (i5 rfl)) rfl rfl rfl;have law:=ck_suf x s;rw[hS] at law
 have sim:Sim ν {t:=[.any,.box 0 0,.box 1 0]++List.replicate 75 .any,h:=ckH x s 0} a W:=by
  refine⟨⟨⟨ms,hd.trans (dh _).symm,hn,hms⟩,fun l hl=>(by cases hl),dQ _,cY hsz hb.size⟩,by simpa using hlen,fun i=>?_,H2⟩;simp only[Qh];rcases i with _|_|_|i
  ·trivial
  ·obtain⟨b,g1,g2⟩:=t1';exact⟨_,b,rfl,g1,g2⟩
  ·obtain⟨b,g1,g2⟩:=t2';exact⟨_,b,rfl,g1,g2⟩
  ·trivial
 refine wpIn_wide.2 (wpIn_wide.1 (wpIn_mono (uL hEnv (hdraw _ _ hEnv) rfl QD 0 _ _ ν a W (fun z _=>kO hl0 rfl) law sim (dQ _)) fun e a' w' ha=>?_));obtain⟨ν',S',g1,g2,_,_,g5⟩:=ha;obtain⟨rfl,k2,k3⟩:=afy g5;obtain⟨rb,te,r1,r2⟩:=WO g1.heap k3;have r3:=g1.tmps 2;rw[k2] at r3;have r4:=Hw r3 r1;obtain⟨⟨ms2,m1,m2,m3⟩,_⟩:=g1.defers;refine abb (w:=w') (a:=a') (G:=G) (y:=y) (w0:=w0) (rb:=rb) (m1.trans (dh _)) m2 m3 r4 r2 (fun b hlt=>?_) (by have:=g2.size; have:=hb.size; omega) (g2.os.trans (hb.os.trans h3)) (g2.tape.trans (hb.tape.trans h4)) (g2.output.trans (hb.output.trans h5));have h01:=h0 b hlt
 have hlt6:b<w6.heap.size:=by omega
 have hltW:b<W.heap.size:=by have:=hb.size; omega
 exact(g2.keep b hltW h01.2).1.trans ((hb.block b hlt6).trans h01.1)
set_option maxHeartbeats 2000000 in
def acI (G:Nat→Prop) (x:Val É) (y:Int) (hF':ĕ x=some y) (w:World) (vals:List Value) (hG:∀b,G b→b<w.heap.size) (hAL:AL w G [É] x vals) :
 (∃fn c,Tryz.prog.funcs[72]?=some fn∧fn.body=some c)∧CallsIn Fence.wide 0 Tryz.prog 72 vals.toArray w (BF G y w):=by
 rw[ahF] at hF'
 letI:Ghost:=gck G w.heap.size
 have hpt:=ais;have hdraw:∀L call,md (ckE ckR) L call→vf (ckE ckR) L call:=m8 hmix;have h0:(ckE ckR).loops=kD []:=rfl;have hEnv:md (ckE ckR) 2 (ŵ (ckE ckR) 10):=ait (ckE ckR) hmix (fun {_} _=>CG hpt (ckE ckR) rfl rfl rfl rfl rfl (Ŕ rfl) (lU rfl) (i5 rfl)) rfl rfl rfl;have hD:=hdraw _ _ hEnv;have H:HR (fun _=>undef) [] w:=⟨fun _=>trivial,fun _ _ _ h=>(by cases h),hG,fun _ _ h=>(by cases h)⟩;have hav:∀b,Av (fun _=>undef) [] b→G b:=fun b hb=>hb.elim (fun⟨_,h,_⟩=>by cases h) id;have hargs:ý (VR (fun _=>undef) [] w) (Zn [É] x) vals:=AL.VR (hAL.mono hav);refine⟨⟨Tryz.f72,_,Tryz.func72,aiu⟩,?_⟩
 have hlen:vals.length=1:=by
  have:=hargs.length;simpa[Zn,ae8] using this.symm
 cases hM:ckM x with
 |none=>rw[hM] at hF'; cases hF'
 |some r0 =>
 rw[hM] at hF';have law:=ck_pre x;rw[hM] at law;refine callsIn_wide.2 (callsIn_wide.1 (callsIn_of_wp_marks (n:=2) Tryz.func72 aiu trivial ?_ (R:=BF G y w)))
 have hS:Sim (fun _=>undef) {t:=Zn [É] x++List.replicate 77 .any,h:=[]} {tmps:=vals.toArray++Array.replicate (Tryz.f72.ntmps-vals.toArray.size) undef,defers:=[]} w:=by
  refine⟨⟨⟨[],rfl,gu,fun _ h=>(by cases h)⟩,fun l hl=>(by cases hl),dQ _,cG _⟩,?_,fun i=>?_,H⟩
  ·have:Tryz.f72.ntmps=78:=by kernel_rfl
   have hl2:(Zn [É] x).length=1:=rfl;simp[this,hlen,hl2]
  ·simp only[Qh];rcases dg i (Zn [É] x).length with hi|hi
   ·have:=ý.lk (R:=VR (fun _=>undef) [] w) (fun _=>trivial) i hargs
    have hv:i<vals.length:=by rw[←hargs.length]; exact hi
    have h2:(vals.toArray++Array.replicate (Tryz.f72.ntmps-vals.toArray.size) undef).getD i undef=vals.getD i undef:=by
     simp[dW,fB,hv]
    rw[h2]; exact this
   ·rw[ag9 _ _ hi]; trivial
 -- the ways out ahead of the loop
 have out:∀ν' S' a' w' e,e≠.normal→Sim ν' S' a' w'→Ev 0 (fun _=>undef) [] w ν' S'.h w'→ckK e S'=some r0→bodyPostM Fence.wide 2 Tryz.prog Tryz.f72 (BF G y w) e a' w':=by
  intro ν' S' a' w' e hne hS' hE' hk
  cases e with
  |normal=>exact(hne rfl).elim
  |ret =>
   rw[ajH] at hk
   cases hr:afx S' with
   |none=>rw[hr] at hk; cases hk
   |some n =>
    rw[hr,dL] at hk;cases hk
    have hyn:n=y:=by simpa using hF'
    subst hyn;unfold afx at hr
    split at hr
    ·rename_i v hv;show LeavesInM _ _ _ _ _ _ a'.defers _ _;obtain⟨⟨ms,m1,m2,m3⟩,_,m4,m5⟩:=hS'.defers;rw[show a'.defers=ms.map mk1 from m1.trans (dh _)];refine sm ms w' m2 (fun k hk=>(m3 k hk).1) fun w2 q1 q2 q3 q4 q5=>?_
     have hk2:∀(b:Nat) (o:Obj),w'.heap[b]?=some o→NR o=true∨b<(gck G w.heap.size).B→w2.heap[b]?=some o:=fun b o hb hd=>by
      have hbm:b∉ms:=fun hm=>by
       rw[(m3 b hm).1] at hb; cases hb;rcases hd with hd|hd
       ·cases hd
       ·exact absurd hd (Nat.not_lt_zero _)
      rw[q5 b hbm]; exact hb
     have KG:mc (gck G w.heap.size) ν' S'.h w' (gck G w.heap.size).G w2:=mc.nds q2 q3 q4 (by omega) hk2
     have sim2:Sim ν' S' {a' with defers:=[]} w2:=⟨⟨⟨[],rfl,gu,fun _ h=>(by cases h)⟩,fun l hl=>(by cases hl),dQ _,by rw[q1]; exact m5⟩,hS'.len,fun i=>VR.step (g:=gck G w.heap.size) (D:=[]) (Q:=none) (M:=w.heap.size) KG (hS'.tmps i),
      HR.step (g:=gck G w.heap.size) (D:=[]) (Q:=none) (M:=w.heap.size) KG (fun b hb=>by rw[q1]; exact hS'.heap.ghlt b hb) (fun b hb hg=>by obtain⟨id,h1,h2⟩:=hb; exact hS'.heap.ghne id b h1 h2 hg) hS'.heap⟩
     obtain⟨u,r1,r2⟩:=PB sim2 hv;exact⟨u,r1,u,rfl,aai sim2.heap [tI] r2 hr,fun b hb=>(q5 b fun hm=>by have m7:w.heap.size≤b:=(m3 b hm).2; omega).trans (hE'.keep b hb fun⟨_,h,_⟩=>by cases h).1,by rw[q1]; exact hE'.size,q2.trans hE'.os,q3.trans hE'.tape,q4.trans hE'.output⟩
    ·cases hr
  |exit id=>cases hk
  |goto l=>cases hk
  |panic ch=>cases hk
  |outgrown=>cases hk
 have outT:∀{ν₁:Nat→Value} {h₁:List Blk} {w₁:World},Ev 0 (fun _=>undef) [] w ν₁ h₁ w₁→∀ν' S' a' w' e,e≠.normal→Sim ν' S' a' w'→Ev 0 ν₁ h₁ w₁ ν' S'.h w'→ckK e S'=some r0→bodyPostM Fence.wide 2 Tryz.prog Tryz.f72 (BF G y w) e a' w' :=
  fun hE ν' S' a' w' e hne hS' hE' hk=>out ν' S' a' w' e hne hS' (hE.trans hE' (cG _)) hk
 refine peel rfl hEnv hD rfl rfl (fun z _=>kO h0 rfl) law hS (fun ν1 S1 a1 w1 s1 e1 k1=>?_) out;refine peel rfl hEnv hD rfl rfl (fun z _=>kO h0 rfl) k1 s1 (fun ν2 S2 a2 w2 s2 e2 k2=>?_) (outT e1);have t2:=e1.trans e2 (cG _);refine peel rfl hEnv hD rfl rfl (fun z _=>kO h0 rfl) k2 s2 (fun ν3 S3 a3 w3 s3 e3 k3=>?_) (outT t2);have t3:=t2.trans e3 (cG _);refine peel rfl hEnv hD rfl rfl (fun z _=>kO h0 rfl) k3 s3 (fun ν4 S4 a4 w4 s4 e4 k4=>?_) (outT t3);have t4:=t3.trans e4 (cG _);refine peel rfl hEnv hD rfl rfl (fun z _=>kO h0 rfl) k4 s4 (fun ν5 S5 a5 w5 s5 e5 k5=>?_) (outT t4);have t5:=t4.trans e5 (cG _);refine wpIn_seq (wpIn_seq (wpIn_wide.2 (wpIn_wide.1 (wpIn_mono (uL hEnv hD rfl ckA5 0 S5 _ ν5 a5 w5 (fun z _=>kO h0 rfl) k5 s5 (dQ _)) fun e' a6 w6 ha=>?_))));obtain⟨ν,S,s6,e6,_,_,k6⟩:=ha;have t6:=t5.trans e6 (cG _)
 have other:∀e,e≠.normal→ckK e S=some r0→Exit.then (Code.wpIn Fence.wide 2 Tryz.prog QD (bodyPostM Fence.wide 2 Tryz.prog Tryz.f72 (BF G y w))) (bodyPostM Fence.wide 2 Tryz.prog Tryz.f72 (BF G y w)) e a6 w6:=by
  intro e hne hk;have:=out ν S a6 w6 e hne s6 t6 hk
  cases e<;>first|exact(hne rfl).elim|exact this
 cases e' with
 |exit id=>exact other _ (by simp) k6
 |goto l=>exact other _ (by simp) k6
 |ret=>exact other _ (by simp) k6
 |panic ch=>exact other _ (by simp) k6
 |outgrown=>exact other _ (by simp) k6
 |normal =>
 clear other;rw[acH] at k6
 split at k6<;>try (cases k6; done)
 rename_i h78
 have h78':78≤S.t.length:=by simpa using h78
 cases k6;obtain⟨hlens,s,hs,hq⟩:=ajG hM;simp only[Prod.mk.injEq,List.cons.injEq,and_true] at hq;obtain⟨⟨q1,q2,q48⟩,qh⟩:=hq
 have hF2:UG (ot x s) some (ckS x)=some y:=by
  simp only at hF';rw[hs] at hF';exact hF'
 -- what the errors are
 obtain⟨L,hL,hLy⟩:∃L,ot x s=some L∧(match L.find? (fun e=>e != 0) with|some e=>some e|none=>ckS x)=some y:=by
  unfold UG at hF2
  cases hl:ot x s with
  |none=>rw[hl] at hF2; cases hF2
  |some L=>rw[hl] at hF2; exact⟨L,rfl,hF2⟩
 obtain⟨l1,l2,l3,l4,m1,m2,m3,m4,rfl⟩:∃l1 l2 l3 l4,KD (fun u=>ń u.1 u.2 s) (x.2.2.1:List (Int×Int))=some l1∧KD (fun i=>Φ x s i) (xu (x.2.2.2.1:List (Val iy)).length)=some l2 ∧
  KD (fun i=>ŏ x s i) (xu (x.2.2.2.2.1:List (Val Ù)).length)=some l3∧KD (fun u=>ń u.1 u.2 s) (x.2.2.2.2.2:List (Int×Int))=some l4∧L=l1++(l2++(l3++l4)):=by
  unfold ot at hL
  cases m1:KD (fun u=>ń u.1 u.2 s) (x.2.2.1:List (Int×Int)) with
  |none=>rw[m1] at hL; cases hL
  |some l1 =>
  rw[m1] at hL
  cases m2:KD (fun i=>Φ x s i) (xu (x.2.2.2.1:List (Val iy)).length) with
  |none=>simp only[Ä,m2] at hL; cases hL
  |some l2 =>
  cases m3:KD (fun i=>ŏ x s i) (xu (x.2.2.2.2.1:List (Val Ù)).length) with
  |none=>simp only[Ä,m2,m3] at hL; cases hL
  |some l3 =>
  cases m4:KD (fun u=>ń u.1 u.2 s) (x.2.2.2.2.2:List (Int×Int)) with
  |none=>simp only[Ä,m2,m3,m4] at hL; cases hL
  |some l4 =>
  simp only[Ä,m2,m3,m4] at hL;cases hL;exact⟨l1,l2,l3,l4,rfl,rfl,rfl,rfl,rfl⟩
 -- the blocks
 obtain⟨T,Hh⟩:=S;dsimp only at q1 q2 q48 qh h78';subst qh;have p1:=s6.tmps 1;have p2:=s6.tmps 2;have p48:=s6.tmps 48;dsimp only at p1 p2 p48;rw[q1] at p1;rw[q2] at p2;rw[q48] at p48;obtain⟨rb,te1,n1,hrb⟩:=WO (id:=1) (n:=0) s6.heap rfl;have hB2:BR ν (ckH x s 0) w6 2 (.cells (flat É x)):=s6.heap.blk 2;have hB3:BR ν (ckH x s 0) w6 3 (.cells [.mp tI Ö s]):=s6.heap.blk 3;have hB4:BR ν (ckH x s 0) w6 4 (.cells [.fn (.func 204) [] [.box 3 0]]):=s6.heap.blk 4;obtain⟨bb,cb,te,n2,hbb,hb2⟩:=hB2;obtain⟨sb,cs3,te3,n3,hsb,hb3⟩:=hB3;obtain⟨tb,cs4,te2,n4,htb,hb4⟩:=hB4;obtain⟨mv,z3,hm3⟩:=hb3.one;obtain⟨fv,z4,hm4⟩:=hb4.one;have hmv:CR w6 noG (.map tI Ö) s [mv]:=CR.mono (fun _ hf=>hf.elim) (show CR w6 (Av ν (ckH x s 0)) (.map tI Ö) s [mv] from hm3.1)
 have hc3:cs3=#[mv]:=by rw[←dJ,z3]
 have hfv:fv=.func (.func 204) #[] #[.pointer (some ⟨sb,0,none⟩)]:=by
  obtain⟨fs,cs,h1,h2,h3⟩:=hm4.1
  have e1:fs=#[]:=by rw[←dJ]; exact h2.nil_left
  obtain⟨u,e2,h4⟩:=h3.one;have e3:u=.pointer (some ⟨sb,0,none⟩):=Hw (w:=w6) (id:=3) (off:=0) h4 n3
  have e4:cs=#[.pointer (some ⟨sb,0,none⟩)]:=by rw[←dJ,e2,e3]
  rw[h1,e1,e4]
 have hc4:cs4=#[fv]:=by rw[←dJ,z4]
 rw[hc3] at hsb;rw[hc4,hfv] at htb
 have hg:a6.tmps.getD 48 undef=.func (.func 207) #[] #[.pointer (some ⟨bb,0,none⟩),.pointer (some ⟨tb,0,none⟩),.pointer (some ⟨sb,0,none⟩)]:=by
  obtain⟨fs,cs,h1,h2,h3⟩:=p48
  have e1:fs=#[]:=by rw[←dJ]; exact h2.nil_left
  have hl:=h3.length
  obtain⟨u1,u2,u3,e2⟩:∃u1 u2 u3,cs.toList=[u1,u2,u3]:=by
   rcases hcs:cs.toList with _|⟨u1,_|⟨u2,_|⟨u3,_|⟨u4,t⟩⟩⟩⟩<;>rw[hcs] at hl<;>simp at hl
   exact⟨u1,u2,u3,rfl⟩
  rw[e2] at h3;have e3:u1=.pointer (some ⟨bb,0,none⟩):=Hw (w:=w6) (id:=2) (off:=0) h3.1 n2;have e4:u2=.pointer (some ⟨tb,0,none⟩):=Hw (w:=w6) (id:=4) (off:=0) h3.2.1 n4;have e5:u3=.pointer (some ⟨sb,0,none⟩):=Hw (w:=w6) (id:=3) (off:=0) h3.2.2.1 n3;rw[h1,e1];congr 1;rw[←dJ,e2,e3,e4,e5]
 have hseq:=agQ m1 m2 m3 m4 hlens hbb (ajL hb2) htb hsb hmv;have h2:=Hw p2 n1;have hsz:78≤a6.tmps.size:=cY h78' s6.len
 have hkeep:∀b,b<w.heap.size→w6.heap[b]?=w.heap[b]?∧¬CW ν (ckH x s 0) b:=fun b hb=>t6.keep b hb fun⟨_,h,_⟩=>by cases h
 obtain⟨⟨ms,m1',m2',m3'⟩,_⟩:=s6.defers;have hdef:a6.defers=ms.map mk1:=m1'.trans (dh _);show ckRF.wpIn Fence.wide 2 Tryz.prog (Exit.then (QD.wpIn Fence.wide 2 Tryz.prog (bodyPostM Fence.wide 2 Tryz.prog Tryz.f72 (BF G y w))) (bodyPostM Fence.wide 2 Tryz.prog Tryz.f72 (BF G y w))) a6 w6;rw[ajF];refine wpIn_block (ai0 hseq hg h2 hsz hrb (fun D W hall hbel hDl hDo=>?_) (fun D W z hz hput hDl hDo=>?_))
 ·have hck:ckS x=some y:=by
   have:(l1++(l2++(l3++l4))).find? (fun e=>e != 0)=none:=ej.2 fun z hz=>by rw[hall z hz]; simp
   rw[this] at hLy;exact hLy
  have hDn:D∉ms:=fun hm=>by have:=ď (m3' D hm).1; omega
  exact ajE (s:=s) (ms:=D::ms) hck s6.heap hbel (by show mark D::a6.defers=_; rw[hdef]; rfl) (eM.2 ⟨hDn,m2'⟩) (fun k hk=>by
   rcases cN.1 hk with rfl|hk
   ·exact⟨hDo,cY t6.size hDl⟩
   ·exact⟨(hbel.block k (ď (m3' k hk).1)).trans (m3' k hk).1,(m3' k hk).2⟩) hsz p1 p2 hkeep t6.size t6.os t6.tape t6.output
 ·have hzy:z=y:=by
   rw[hz] at hLy;simpa using hLy
  subst hzy;obtain⟨te5,hcell⟩:=hput.cell;have hlb:=ď hrb;have hlive:CW ν (ckH x s 0) rb:=⟨1,rfl,by rw[n1]; rfl⟩
  have hDn:D∉ms:=fun hm=>by have:=ď (m3' D hm).1; omega
  exact abb (a:={a6 with defers:=mark D::a6.defers}) (w:=W) (ms:=D::ms) (by show mark D::a6.defers=_; rw[hdef]; rfl) (eM.2 ⟨hDn,m2'⟩) (fun k hk=>by
   rcases cN.1 hk with rfl|hk
   ·exact⟨hDo,cY t6.size hDl⟩
   ·exact⟨(hput.block k (ď (m3' k hk).1) (fun e=>by have h9:=(m3' k hk).1; rw[e,hrb] at h9; cases h9)).trans (m3' k hk).1,(m3' k hk).2⟩) h2 hcell
   (fun b hb=>(hput.block b (by have:=t6.size; omega) (fun e=>(hkeep b hb).2 (e▸hlive))).trans (hkeep b hb).1) (by have:=t6.size; have:=hput.size; omega) (hput.os.trans t6.os) (hput.tape.trans t6.tape) (hput.output.trans t6.output)
def ke:ki Tryz.prog 72 jf:=fun G x y hF w vals hG hAL=>acI G x y hF w vals hG hAL
end Go.Proofs.ZzM
end

noncomputable section
namespace Go.Proofs
open Go.RowKit
attribute [local go_sem] Oper.semAt_some
def abu (w:World) (o o':Obj):((w.alloc o).alloc o').heap[w.heap.size+1]?=some o':=by
 simp only[World.alloc];rw[show w.heap.size+1=(w.heap.push o).size from(Array.size_push _).symm];exact Array.getElem?_push_size
def af9 (w:World) (o o':Obj):((w.alloc o).alloc o').heap[w.heap.size]?=some o:=by
 simp only[World.alloc];rw[Array.getElem?_push_lt (by rw[Array.size_push]; omega),Array.getElem_push_eq]
def Xu (w:World) (o o':Obj) (b:Nat) (hb:b<w.heap.size):((w.alloc o).alloc o').heap[b]?=w.heap[b]?:=by
 simp only[World.alloc];rw[Array.getElem?_push_lt (by simp; omega),Array.getElem_push_lt hb,Array.getElem?_eq_getElem hb]
def aiv {W:World} {b:Nat} {x0 x1 x2 x3 x4:Value} {t:TypeId} (h:W.heap[b]?=some (.cells #[x0,x1,x2,x3,x4] t (0,0))) :
 W.cell? ⟨b,0,none⟩=some x0∧W.cell? ⟨b,1,none⟩=some x1∧W.cell? ⟨b,2,none⟩=some x2∧W.cell? ⟨b,3,none⟩=some x3∧W.cell? ⟨b,4,none⟩=some x4∧∀j,W.frozen? ⟨b,j,none⟩=false:=by
 refine⟨?_,?_,?_,?_,?_,fun j=>?_⟩<;>simp only[World.cell?,World.frozen?,h]<;>rfl
def set5 {W:World} {b:Nat} {c0 c1 c2 c3 c4:Value} {x0 x1 x2 x3 x4:Value} {t:TypeId} (h:W.heap[b]?=some (.cells #[x0,x1,x2,x3,x4] t (0,0))) :
 (((((W.setCell ⟨b,0,none⟩ c0).setCell ⟨b,1,none⟩ c1).setCell ⟨b,2,none⟩ c2).setCell ⟨b,3,none⟩ c3).setCell ⟨b,4,none⟩ c4)=W.setRow b #[c0,c1,c2,c3,c4]:=by
 rw[setCell_eq_setRow W b 0 _ t (0,0) c0 h,setCell_eq_setRow _ b 1 _ t (0,0) c1 (setRow_heap _ _ _ _ t _ h),setRow_setRow,setCell_eq_setRow _ b 2 _ t (0,0) c2 (setRow_heap _ _ _ _ t _ h),setRow_setRow,
  setCell_eq_setRow _ b 3 _ t (0,0) c3 (setRow_heap _ _ _ _ t _ h),setRow_setRow,setCell_eq_setRow _ b 4 _ t (0,0) c4 (setRow_heap _ _ _ _ t _ h),setRow_setRow]
 rfl
def abR {T:Array Value} {b:Nat} {c0 c1 c2 c3 c4:Int} {e:TypeId} {W:World} (h2:T.getD 2 undef=.pointer (some ⟨b,0,none⟩)) (hc:W.heap[b]?=some (.cells #[.int .i64 c0,.int .i64 c1,.int .i64 c2,.int .i64 c3,.int .i64 c4] e (0,0))):(results Tryz.f220 T).run Tryz.prog W=.ok (.agg #[.int .i64 c0,.int .i64 c1,.int .i64 c2,.int .i64 c3,.int .i64 c4]) W:=by
 letI:Go.Am.Ghost:=Go.Am.Gh fun _=>False
 have hl:(loadVar 250 ⟨b,0,none⟩).run Tryz.prog W=.ok (.agg #[.int .i64 c0,.int .i64 c1,.int .i64 c2,.int .i64 c3,.int .i64 c4]) W:=by
  have:=Go.Am.run_loadVar (P:=Tryz.prog) (w:=W) (t:=250) (agg:=true) (n:=5) (by kernel_rfl) (us:=[.int .i64 c0,.int .i64 c1,.int .i64 c2,.int .i64 c3,.int .i64 c4]) rfl (fun h=>by cases h) (a:=⟨b,0,none⟩) (fun j v hj=>by
   have:=Go.Am.CellsAt.of_cells hc j v (by simpa using hj)
   have ha:(⟨b,0,none⟩:Addr).add j=⟨b,j,none⟩:=by unfold Addr.add; split<;>simp_all
   rw[ha]; simpa using this)
  exact this
 have hr:Tryz.f220.results=#[.cell 2 250]:=by kernel_rfl
 unfold results;rw[hr,Array.mapM_eq_mapM_toList];simp only[Sem.run_bind,Sem.run_map,List.mapM_cons,List.mapM_nil,h2,asAddr,Sem.run_pure,Result.andThen_ok,hl];rfl
set_option maxRecDepth 100000 in
set_option maxHeartbeats 1000000 in
def agV (v:Value) (w:World) (c0 c1 c2 c3 c4:Int) (n:Int)
 (hcopy : ∀ W, (∀ b, b < w.heap.size → W.heap[b]? = w.heap[b]?) → W.heap[w.heap.size + 1]? = some (.cells #[.int .i64 0, .int .i64 0, .int .i64 0, .int .i64 0, .int .i64 0] 250 (0, 0)) → (Builtin.copy_ #[51, 51] 3 #[.slice (some ⟨w.heap.size + 1, 0, none⟩) 5 5, v]).run Tryz.prog W = .ok (.int .i64 n) (W.setRow (w.heap.size + 1) #[.int .i64 c0, .int .i64 c1, .int .i64 c2, .int .i64 c3, .int .i64 c4])) :
  CallsIn Fence.wide 0 Tryz.prog 220 #[v] w fun e W'=>e=.returned (.agg #[.int .i64 c0,.int .i64 c1,.int .i64 c2,.int .i64 c3,.int .i64 c4])∧(∀b,b<w.heap.size→W'.heap[b]?=w.heap[b]?)∧w.heap.size≤W'.heap.size∧W'.os=w.os∧W'.tape=w.tape∧W'.output=w.output:=by
 refine callsIn_of_wp Tryz.func220 rfl trivial ?_ rfl;simp only[Tryz.ntmps220,eY,cW,dZ,Nat.reduceAdd,Nat.reduceSub,Array.replicate_succ,Array.replicate_zero,List.push_toArray,gF,ft,dS]
 gi_wp2
 rw[hcopy _ (Xu _ _ _) (abu _ _ _)];generalize hW:World.setRow _ _ _=W1
 have g1:W1.heap[w.heap.size+1]?=some (.cells #[.int .i64 c0,.int .i64 c1,.int .i64 c2,.int .i64 c3,.int .i64 c4] 250 (0,0)):=by
  rw[←hW]; exact setRow_heap _ _ _ _ 250 _ (abu _ _ _)
 have g2:W1.heap[w.heap.size]?=some (.cells #[.int .i64 0,.int .i64 0,.int .i64 0,.int .i64 0,.int .i64 0] 250 (0,0)):=by
  rw[←hW,setRow_other _ _ _ _ (by omega)]; exact af9 _ _ _
 have g3:∀b,b<w.heap.size→W1.heap[b]?=w.heap[b]?:=fun b hb=>by
  rw[←hW,setRow_other _ _ _ _ (by omega)]; exact Xu _ _ _ b hb
 have g4:W1.os=w.os∧W1.tape=w.tape∧W1.output=w.output∧W1.heap.size=w.heap.size+2:=by
  rw[←hW]; refine⟨rfl,rfl,rfl,?_⟩;rw[size_setRow]; simp only[World.alloc,Array.size_push]
 clear hW hcopy;obtain⟨l0,l1,l2,l3,l4,_⟩:=aiv g1;obtain⟨z0,z1,z2,z3,z4,zf⟩:=aiv g2
 gi_wp2
 rw[set5 g2];refine bodyPost_ret (abR rfl (setRow_heap _ _ _ _ 250 _ g2)) rfl ?_;exact⟨rfl,fun b hb=>(setRow_other _ _ _ _ (by omega)).trans (g3 b hb),by rw[size_setRow]; omega,g4.1,g4.2.1,g4.2.2.1⟩
end Go.Proofs
namespace Go.Proofs.ZzM
open Go Go.Am Go.Proofs
def aiZ (xs:List Int):(#[Value.int .i64 0,.int .i64 0,.int .i64 0,.int .i64 0,.int .i64 0].toList.take 0++(xs.take 5).map (Value.int .i64 ·)++#[Value.int .i64 0,.int .i64 0,.int .i64 0,.int .i64 0,.int .i64 0].toList.drop (0+((xs.take 5).map (Value.int .i64 ·)).length)).toArray =
 #[.int .i64 (xs.getD 0 0),.int .i64 (xs.getD 1 0),.int .i64 (xs.getD 2 0),.int .i64 (xs.getD 3 0),.int .i64 (xs.getD 4 0)]:=by
 rcases xs with _|⟨a,_|⟨b,_|⟨c,_|⟨d,_|⟨e,r⟩⟩⟩⟩⟩<;>rfl
def afC:ki Tryz.prog 220 UP:=by
 intro G x y hF w vals hG hAL;obtain⟨v,rfl,us,hus,hv⟩:=hAL;change List Int at x;obtain⟨base,cap,rfl,hcap,hcase⟩:=hus;have hv:v=.slice base (x:List Int).length cap:=hv;subst hv;have hy:y=((x:List Int).getD 0 0,(x:List Int).getD 1 0,(x:List Int).getD 2 0,(x:List Int).getD 3 0,(x:List Int).getD 4 0):=(Option.some.inj hF).symm;refine⟨⟨Tryz.f220,_,Tryz.func220,rfl⟩,?_⟩
 have hcopy:∀W:World,(∀b,b<w.heap.size→W.heap[b]?=w.heap[b]?)→W.heap[w.heap.size+1]?=some (.cells #[.int .i64 0,.int .i64 0,.int .i64 0,.int .i64 0,.int .i64 0] 250 (0,0)) →
  (Builtin.copy_ #[51,51] 3 #[.slice (some ⟨w.heap.size+1,0,none⟩) 5 5,.slice base (x:List Int).length cap]).run Tryz.prog W=.ok (.int .i64 ((((x:List Int).take 5).map (Value.int .i64 ·)).length:Nat)) (W.setRow (w.heap.size+1) #[.int .i64 ((x:List Int).getD 0 0),.int .i64 ((x:List Int).getD 1 0),.int .i64 ((x:List Int).getD 2 0),.int .i64 ((x:List Int).getD 3 0),.int .i64 ((x:List Int).getD 4 0)]):=by
  intro W hlow hcell;rcases hcase with h0|⟨b,off,rfl,hGb,hb,hcs⟩
  ·have h0:x=([]:List Int):=h0;subst h0;rw[run_copy_none W 51 51 3 3 _ _ 5 5 _ _ (by kernel_rfl) (by kernel_rfl) (by simp)];exact congrArg _ (setRow_self W _ _ 250 (0,0) hcell).symm
  ·have:=run_copy_row Tryz.prog W 51 51 3 3 (w.heap.size+1) 0 5 5 ⟨b,off,none⟩ (x:List Int).length cap _ 250 (((x:List Int).take 5).map (Value.int .i64 ·)) (by kernel_rfl) (by kernel_rfl) hcell (by simp[Nat.min_comm]) (fun j u hj=>by
    rw[eQ] at hj
    cases hx:((x:List Int).take 5)[j]? with
    |none=>rw[hx] at hj; cases hj
    |some n =>
     rw[hx] at hj;cases hj
     have hx2:(x:List Int)[j]?=some n:=by
      rw[dO] at hx
      split at hx
      ·exact hx
      ·cases hx
     obtain⟨us,q1,q2⟩:=hcs j n hx2;have q1:us=[.int .i64 n]:=q1;subst q1;have q3:=q2 0 _ rfl
     have ha:(⟨b,off,none⟩:Addr).add j=⟨b,off+j,none⟩:=by unfold Addr.add; split<;>simp_all
     rw[ha,World.cell?_of_block (w:=w) (by exact hlow b hb)]
     simpa[Ty.size] using q3) (by simp; omega) (fun u hu=>by
    obtain⟨n,_,rfl⟩:=df.1 hu
    rfl)
   rw[aiZ] at this;exact this
 refine(agV _ w _ _ _ _ _ _ hcopy).mono fun e w' h=>?_;obtain⟨rfl,h1,h2,h3,h4,h5⟩:=h;refine⟨_,rfl,?_,h1,h2,h3,h4,h5⟩;subst hy;exact⟨[.int .i64 _,.int .i64 _,.int .i64 _,.int .i64 _,.int .i64 _],⟨[_],_,rfl,rfl,[_],_,rfl,rfl,[_],_,rfl,rfl,[_],_,rfl,rfl,rfl⟩,rfl⟩
end Go.Proofs.ZzM
end

noncomputable section
set_option maxRecDepth 100000
namespace Go.Proofs.ZzM
open Go Go.Am
def acK:ZP 15 PI:=zt (ri _) Å rfl (Á IE (Á IC Å)) fun x=>NT x some
def afR:ZP 269 U3:=zt (CC _) (Á ke (Á CP (Á FE Å))) rfl (Á Mm Å) fun x=>SY x some
def ahR:ZP 226 aax:=zt (Qc _) (Á abj (Á afR Å)) rfl Å fun x=>WD x some
def afE:ZP 156 UR:=zt (kG _) (Á ahR Å) rfl (Á K8 (Á K7 (Á K6 (Á K5 (Á K4 Å))))) fun x=>RA x some
def kd:ZP 80 je:=zt (vB _) (Á ke (Á afE Å)) rfl (Á Lq (Á Lr Å)) fun x=>RQ x some
def jz:ZP 135 Ŷ:=zt (ş _) Å rfl (Á lE Å) fun x=>mN x some
def Ip:ZP 147 xJ:=zt (Bv _) (Á jz Å) rfl Å fun x=>Jj x some
def ahP:ZP 247 aav:=zt (zF _) (Á kX Å) rfl (Á OV (Á OU Å)) fun x=>Wh x some
def Jp:ZP 261 wM:=zt (sd _) Å rfl Å fun x=>Ay x some
def zj:ZP 264 tx:=zt (Co _) (Á FB Å) rfl (Á LO Å) fun x=>Si x some
def Nt:ZP 312 BN:=zt (Eh _) (Á abg (Á afM Å)) rfl Å fun x=>LR x some
def ajJ:ZP 296 adX:=zt (VY _) (Á zj (Á Nt Å)) rfl Å fun x=>YO x some
def TQ:ZP 262 Dk:=zt (yJ _) (Á ajJ Å) rfl Å fun x=>GQ x some
def ZB:ZP 320 X9:=zt (VW _) Å rfl Å fun x=>YL x some
def BC:ZP 313 AP:=zt (wR _) (Á zj (Á ZB Å)) rfl Å fun x=>Ej x some
def afO:ZP 316 adY:=zt (V4 _) (Á zj (Á Nt Å)) rfl Å fun x=>YR x some
def afN:ki Tryz.prog 297 UY:=adQ (Cq _) (VZ _) (fun {_}=>CG (Á FB (Á BC (Á afO (Á ZB Å)))) (Cq _) rfl rfl rfl rfl rfl (Ŕ rfl) (lU rfl) (i5 rfl)) (fun {_}=>libN (Á FB (Á BC (Á afO (Á ZB Å)))) _) rfl hmix (tab:=vO _) rfl Å (us:=H7) rfl (Á (by kernel_rfl) Å) (pH fun x=>Ss x some)
def TP:ZP 263 Dj:=zt (yI _) (Á afN Å) rfl Å fun x=>GO x some
def QH:ZP 215 F7:=zt (Ib _) (Á CP (Á FD (Á Jp (Á TQ (Á TP Å))))) rfl Å fun x=>O4 x some
def Xl:ZP 216 Kr:=zt (Mk _) Å rfl Å fun x=>SS x some
def Xj:ZP 265 Kn:=zt (LU _) Å rfl Å fun x=>Sn x some
def abh:ZP 217 Q7:=zt (P9 _) (Á zj (Á Xj Å)) rfl Å fun x=>V7 x some
def Xk:ZP 218 Ko:=zt (LZ _) (Á zj (Á Xj Å)) rfl Å fun x=>Sv x some
def ahO:ZP 248 aau:=zt (Qa _) (Á QH (Á Xl (Á abh (Á Xk Å)))) rfl Å fun x=>Wc x some
def TR:ZP 132 Jz:=zt (uE _) (Á FC (Á Ip (Á FD (Á abi (Á ahP (Á ahO Å)))))) rfl (Á OS (Á OT (Á OQ Å))) fun x=>Wf x some
def Ac:ZP 66 tB:=zt (Ic _) (Á ke (Á TR Å)) rfl Å fun x=>Pa x some
def TM:ZP 105 Kl:=zt (KN _) (Á uW Å) rfl (Á Rq Å) fun x=>Yk x some
def Nq:ZP 183 xG:=zt (mE _) (Á TM Å) rfl (Á xW Å) fun x=>B9 x some
def lW:ki Tryz.prog 104 jB:=aal (ŷ _) (fun {_}=>CG (Á TM (Á Nq Å)) (ŷ _) rfl rfl rfl rfl rfl (Ŕ rfl) (lU rfl) (i5 rfl)) hmix (tab:=tF _) rfl (Á B7 (Á B6 (Á B5 (Á B4 Å)))) (pH fun x=>Gi x some)
def abf:ZP 196 Q5:=zt (P0 _) Å rfl Å fun x=>VJ x some
def zi:ZP 126 tv:=zt (Cn _) (Á abf Å) rfl (Á LM Å) fun x=>Sg x some
def zh:ZP 127 qX:=zt (δ _) Å rfl (Á D6 (Á D5 (Á D3 (Á D4 (Á D2 Å))))) fun x=>I8 x some
def Po:ZP 155 AM:=zt (wP _) (Á zi (Á zh Å)) rfl Å fun x=>Ed x some
def sJ:ZP 79 nD:=zt (A7 _) (Á Ac (Á lW (Á Po Å))) rfl Å fun x=>IR x some
def acL:ZP 116 PJ:=zt (rz _) Å rfl (Á II (Á IJ Å)) fun x=>NX x some
def Nu:ZP 234 xH:=zt (uD _) Å rfl Å fun x=>Cs x some
def uX:ZP 180 mB:=zt (qu _) (Á Nu Å) rfl Å fun x=>yH x some
def QE:ZP 179 F4:=zt (HX _) (Á acL (Á uX Å)) rfl Å fun x=>N3 x some
def pB:XOk Tryz.prog 273 (.row Ą):=QU (r:=Ą) (õ _) (fun {_}=>CG (Á QE Å) (õ _) rfl rfl rfl rfl rfl (Ŕ rfl) (lU rfl) (i5 rfl)) hmix (tab:=ι _) rfl (Á la (Á lf Å)) (fun xs x m=>l6 xs x m some)
def ze:XOk Tryz.prog 300 (.row į):=QU (r:=į) (Ā _) (fun {_}=>CG Å (Ā _) rfl rfl rfl rfl rfl (Ŕ rfl) (lU rfl) (i5 rfl)) hmix (tab:=j7 _) rfl (Á qn (Á qm (Á qo (Á ql Å)))) (fun xs x m=>sR xs x m some)
def pA {rec:(Val (.slice (.slice (.slice tI))))→Int→Int→Int→(Val Â)→Option ((Val (.slice (.slice (.slice tI))))×(Val Â))} (hrec:XOk Tryz.prog 274 (.row ⟨(.slice (.slice tI)),[tI,tI,tI],179,Â,fun(xs:(Val (.slice (.slice (.slice tI))))) (x:Val ŗ) (m:Val Â)=>rec xs x.1 x.2.1 x.2.2 m⟩)):XOk Tryz.prog 274 (.row ⟨(.slice (.slice tI)),[tI,tI,tI],179,Â,fun(xs:(Val (.slice (.slice (.slice tI))))) (x:Val ŗ) (m:Val Â)=>Ĥ rec xs x.1 x.2.1 x.2.2 m some⟩):=QU (r:=⟨(.slice (.slice tI)),[tI,tI,tI],179,Â,fun(xs:(Val (.slice (.slice (.slice tI))))) (x:Val ŗ) (m:Val Â)=>Ĥ rec xs x.1 x.2.1 x.2.2 m some⟩) (Ç rec _) (fun {_}=>CG (Á QE Å) (Ç rec _) rfl rfl rfl rfl rfl (Ŕ rfl) (TB (Á hrec (Á ze Å)) rfl) (i5 rfl)) hmix (tab:=jl rec _) rfl (Á oH (Á oG (Á oF (Á oE (Á oD Å))))) (fun xs x m=>qg _ xs x m some)
def jy:∀n:Nat,XOk Tryz.prog 274 (.row ⟨(.slice (.slice tI)),[tI,tI,tI],179,Â,fun(xs:(Val (.slice (.slice (.slice tI))))) (x:Val ŗ) (m:Val Â)=>ģ n xs x.1 x.2.1 x.2.2 m⟩)
 |0=>ah2.mk (by intro _ _ _ _ _ _ h; cases h)
 |n+1=>pA (jy n)
def wG:XOk Tryz.prog 274 (.row lh):=jy 100
def oy:XOk Tryz.prog 233 (.row ġ):=QU (r:=ġ) (ē _) (fun {_}=>CG Å (ē _) rfl rfl rfl rfl rfl (Ŕ rfl) (TB (Á pB (Á wG Å)) rfl) (i5 rfl)) hmix (tab:=j6 _) rfl (Á qk (Á qi (Á qj Å))) (fun xs x m=>sQ xs x m some)
def abd:ki Tryz.prog 81 Q3:=Kd (ic _) (fun {_}=>CG (Á sJ Å) (ic _) rfl rfl rfl rfl rfl (Ŕ rfl) (TB (Á oy Å) rfl) (i5 rfl)) hmix (tab:=H4 _) rfl (Á Oi (Á Oh Å)) (rtab:=La _) rfl (Á (Og Nj) Å) (Á Oe Å) (pH fun x=>Vv x some)
def ajI:ZP 19 adW:=zt (VF _) (Á kd (Á abd Å)) rfl Å fun x=>Yx x some
def Fz:ki Tryz.prog 96 zu:=Kd (jE _) (fun {_}=>CG Å (jE _) rfl rfl rfl rfl rfl (Ŕ rfl) (TB (Á oy Å) rfl) (i5 rfl)) hmix (tab:=HW _) rfl Å (rtab:=KP _) rfl (Á (N1 Nj) Å) (Á N0 Å) (pH fun x=>Vp x some)
def wF:ZP 82 oZ:=zt (pZ _) (Á sJ (Á Fz Å)) rfl (Á Cg Å) fun x=>Gm x some
def afH:ZP 20 UT:=zt (Ll _) (Á kd (Á wF Å)) rfl Å fun x=>RK x some
def FA:ZP 35 vm:=zt (qr _) Å rfl (Á Ck Å) fun x=>Gy x some
def Xi:ZP 26 HS:=zt (sS _) (Á FA Å) rfl (Á DY Å) fun x=>I5 x some
def Nr:ZP 88 De:=zt (Ce _) Å rfl (Á KT Å) fun x=>Rx x some
def acP:ZP 91 PN:=zt (Ie _) (Á FD (Á QG Å)) rfl Å fun x=>Pd x some
def TN:ZP 28 Dg:=zt (lz _) (Á kd (Á wF (Á Nr (Á acP (Á Ť Å))))) rfl (Á Ci (Á Ch Å)) fun x=>Gr x some
def abc:ZP 87 Q2:=zt (zz _) (Á Ť Å) rfl (Á N5 (Á N4 Å)) fun x=>Vr x some
def ahL:ZP 29 aar:=zt (zA _) (Á kd (Á wF (Á abc (Á lX Å)))) rfl (Á Ot (Á Oq Å)) fun x=>VD x some
def acN:ZP 98 PL:=zt (yh _) Å rfl (Á IV Å) fun x=>Ol x some
def Xg:ZP 30 HP:=zt (ľ _) (Á sJ (Á kd (Á abc (Á Fz (Á acN (Á uX Å)))))) rfl (Á DR (Á DS (Á DQ (Á DP (Á DM (Á DL (Á DK (Á DN Å)))))))) fun x=>IZ x some
def abe:ZP 40 Q4:=zt (PZ _) (Á kd (Á Fz Å)) rfl Å fun x=>Vz x some
def Xm:ZP 68 Kt:=zt (Mv _) (Á ke (Á jz (Á FC Å))) rfl Å fun x=>Tb x some
def abk:ZP 69 Rb:=zt (G6 _) (Á ke Å) rfl (Á Pb Å) fun x=>Ww x some
def afJ:ZP 133 UV:=zt (Cm _) (Á zi (Á zh (Á abf Å))) rfl (Á LA Å) fun x=>RY x some
def acO:ZP 134 PM:=zt (jq _) Å rfl (Á Je (Á Jd (Á Jc (Á Ja (Á Jb Å))))) fun x=>Oz x some
def afK:ZP 185 UW:=zt (vM _) (Á afJ (Á acO Å)) rfl (Á LD (Á LC Å)) fun x=>R0 x some
def acM:ZP 106 PK:=zt (HY _) (Á Ac (Á Xm (Á abk (Á afK Å)))) rfl Å fun x=>N7 x some
def QF:ZP 42 F5:=zt (rS _) (Á kd (Á abd (Á Nr (Á lW (Á TM (Á acM Å)))))) rfl (Á I3 (Á I2 Å)) fun x=>Oo x some
def afD:ki Tryz.prog 154 UQ:=Kd (Χ _) (fun {_}=>CG (Á afC Å) (Χ _) rfl rfl rfl rfl rfl (Ŕ rfl) (lU rfl) (i5 rfl)) hmix (tab:=DD _) rfl (Á KZ Å) (rtab:=HZ _) rfl (Á (KY afz) Å) (Á KX Å) (pH fun x=>Ry x some)
def Ns:ZP 78 Df:=zt (Lf _) (Á kd (Á afD Å)) rfl Å fun x=>RE x some
def afF:ZP 49 X7:=zt (Vx _) (Á Ns (Á Nr (Á TM Å))) rfl Å fun x=>Ys x some
def afI:ZP 128 UU:=zt (GD _) Å rfl (Á YE (Á YC (Á YB (Á YD Å)))) fun x=>aem x some
def afL:ZP 64 UX:=zt (kI _) (Á zi (Á zh (Á afI Å))) rfl (Á LL (Á LG (Á LH (Á LJ (Á LK Å))))) fun x=>Sd x some
def afG:ZP 59 US:=zt (Cj _) (Á afL (Á Ac (Á kd (Á Fz (Á lW Å))))) rfl (Á Li Å) fun x=>RH x some
def ZA:ZP 188 Km:=zt (vI _) Å rfl (Á GC Å) fun x=>Lx x some
def ahM:ZP 189 aas:=zt (Gz _) Å rfl (Á Ow Å) fun x=>VH x some
def Pp:ZP 122 AO:=zt (wQ _) (Á zi (Á ZA (Á ahM Å))) rfl Å fun x=>Eg x some
def Pn:ZP 60 AK:=zt (oC _) (Á Ac (Á kd (Á Fz (Á lW (Á Pp Å))))) rfl (Á As Å) fun x=>DX x some
def Xf:ZP 77 HO:=zt (AU _) Å rfl Å fun x=>IG x some
def Zz:ZP 17 Kk:=zt (Dr _) (Á ajI (Á afH (Á Xi (Á TN (Á ahL (Á Xg (Á FA (Á abe (Á QF (Á afF (Á afG (Á Pn (Á Xf Å))))))))))))) rfl Å fun x=>KL x some
def Xh:ZP 18 HQ:=zt (A9 _) (Á Ns (Á sJ Å)) rfl Å fun x=>I1 x some
def TO:ZP 41 Dh:=zt (yi _) (Á Ns (Á lW Å)) rfl Å fun x=>Gt x some
def afT:ZP 71 U5:=zt (Ms _) (Á ke (Á FC Å)) rfl Å fun x=>S8 x some
def afP:ZP 145 UZ:=zt (L2 _) (Á ke Å) rfl Å fun x=>Sz x some
def uY:ZP 146 mC:=zt (kJ _) (Á kX Å) rfl (Á vT Å) fun x=>yL x some
def afQ:ZP 149 U0:=zt (L4 _) (Á QH (Á Xl (Á abh (Á Xk Å)))) rfl Å fun x=>SD x some
def afS:ZP 73 U4:=zt (Mq _) (Á TR (Á afP (Á uY (Á Ip (Á FD (Á afQ Å)))))) rfl Å fun x=>S6 x some
def ZE:ZP 74 Ks:=zt (lM _) (Á ke (Á Ť Å)) rfl (Á G4 (Á G3 (Á G0 Å))) fun x=>Mp x some
def ahK:ZP 75 aaq:=zt (Gc _) Å rfl (Á NV Å) fun x=>Vn x some
def ahN:ZP 219 aat:=zt (zD _) (Á zi Å) rfl (Á OE (Á OD Å)) fun x=>VN x some
def Pq:ZP 153 AQ:=zt (wU _) (Á ahN Å) rfl Å fun x=>Ep x some
def ahQ:ZP 76 aaw:=zt (Qb _) (Á ke (Á TR (Á uY (Á Pq Å)))) rfl Å fun x=>Wz x some
def c_w7_SwapTrue:ZP 14 oY:=zt (ψ _) (Á acK (Á Zz (Á Xh (Á abe (Á TO (Á QF (Á afF (Á Xm (Á abk (Á afT (Á ke (Á afS (Á ZE (Á ahK (Á ahQ Å))))))))))))))) rfl (Á BZ (Á BX (Á BV (Á BW Å)))) fun x=>Ge x some
end Go.Proofs.ZzM
end
