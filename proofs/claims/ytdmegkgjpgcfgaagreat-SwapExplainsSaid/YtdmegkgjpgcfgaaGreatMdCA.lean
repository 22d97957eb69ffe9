/- lemmas -/
import Derived.Test.YtdmegkgjpgcfgaaGreatAmD
import Derived.Test.YtdmegkgjpgcfgaaGreatAmE
import Derived.Ground.NamesProg
import Derived.Ground.Names2Prog
import Derived.KernelRfl
import Derived.Test.YtdmegkgjpgcfgaaGreatMdMA
import Derived.Test.YtdmegkgjpgcfgaaGreatMdKD
import Derived.Test.YtdmegkgjpgcfgaaGreatMdPA
import Derived.RangeFuncBox
import Derived.Lib.SliceRun
import Derived.RangeFuncLeaves
import Derived.WalkKit
import Derived.OwnWalkIn
import Derived.TacticsInMore
import Derived.LoopNIn
import Derived.LoopIn
import Derived.Test.YtdmegkgjpgcfgaaGreatProg
import Derived.RangeFuncFrom
import Derived.RangeFuncRecord
import Derived.Laws.CopyRow
import Derived.Laws.IdiomCopy
import Derived.Test.YtdmegkgjpgcfgaaGreatAmA
import Derived.Test.YtdmegkgjpgcfgaaGreatMdKC
import Derived.Test.YtdmegkgjpgcfgaaGreatMdKB
import Derived.Test.YtdmegkgjpgcfgaaGreatMdKA
set_option linter.all false
noncomputable section
namespace Go.Proofs
open Go.Shelf
def Tryz.laysSort_ren:Go.Shelf.Ren:=⟨fun|189=>184|125=>236|257=>235|128=>284|129=>285|294=>275|295=>276|296=>277|297=>278|298=>279|299=>280|216=>281|300=>282|301=>283|328=>301|329=>302|330=>303|331=>304|332=>305|215=>234|343=>318|n=>n,fun|28=>51|3=>3|46=>148|0=>0|51=>307|53=>309|4=>4|183=>300|182=>299|131=>256|5=>5|9=>9|218=>328|222=>332|228=>342|229=>343|n=>n,fun|n=>n⟩
def Tryz.laysSort:Go.Proofs.Lays.n189 Tryz.prog Tryz.laysSort_ren:={
 mixed:=by kernel_rfl
 f125:=Tryz.func236.trans (congrArg some (by kernel_rfl))
 f128:=Tryz.func284.trans (congrArg some (by kernel_rfl))
 f129:=Tryz.func285.trans (congrArg some (by kernel_rfl))
 f189:=Tryz.func184.trans (congrArg some (by kernel_rfl))
 f215:=Tryz.func234.trans (congrArg some (by kernel_rfl))
 f216:=Tryz.func281.trans (congrArg some (by kernel_rfl))
 f257:=Tryz.func235.trans (congrArg some (by kernel_rfl))
 f294:=Tryz.func275.trans (congrArg some (by kernel_rfl))
 f295:=Tryz.func276.trans (congrArg some (by kernel_rfl))
 f296:=Tryz.func277.trans (congrArg some (by kernel_rfl))
 f297:=Tryz.func278.trans (congrArg some (by kernel_rfl))
 f298:=Tryz.func279.trans (congrArg some (by kernel_rfl))
 f299:=Tryz.func280.trans (congrArg some (by kernel_rfl))
 f300:=Tryz.func282.trans (congrArg some (by kernel_rfl))
 f301:=Tryz.func283.trans (congrArg some (by kernel_rfl))
 f328:=Tryz.func301.trans (congrArg some (by kernel_rfl))
 f329:=Tryz.func302.trans (congrArg some (by kernel_rfl))
 f330:=Tryz.func303.trans (congrArg some (by kernel_rfl))
 f331:=Tryz.func304.trans (congrArg some (by kernel_rfl))
 f332:=Tryz.func305.trans (congrArg some (by kernel_rfl))
 f343:=Tryz.func318.trans (congrArg some (by kernel_rfl))
 t0:=Tryz.underlying0
 a0:=Tryz.isAgg0
 z0:=Tryz.sizeOf0
 v0:=Tryz.zeroValue0
 t3:=Tryz.underlying3
 a3:=Tryz.isAgg3
 z3:=Tryz.sizeOf3
 v3:=Tryz.zeroValue3
 t4:=Tryz.underlying4
 a4:=Tryz.isAgg4
 z4:=Tryz.sizeOf4
 v4:=Tryz.zeroValue4
 t5:=Tryz.underlying5
 a5:=Tryz.isAgg5
 z5:=Tryz.sizeOf5
 v5:=Tryz.zeroValue5
 t9:=Tryz.underlying9
 a9:=Tryz.isAgg9
 z9:=Tryz.sizeOf9
 v9:=Tryz.zeroValue9
 t28:=Tryz.underlying51
 a28:=Tryz.isAgg51
 z28:=Tryz.sizeOf51
 v28:=Tryz.zeroValue51
 t46:=Tryz.underlying148
 a46:=Tryz.isAgg148
 z46:=Tryz.sizeOf148
 v46:=Tryz.zeroValue148
 t51:=Tryz.underlying307
 a51:=Tryz.isAgg307
 z51:=Tryz.sizeOf307
 v51:=Tryz.zeroValue307
 t53:=Tryz.underlying309
 a53:=Tryz.isAgg309
 z53:=Tryz.sizeOf309
 v53:=Tryz.zeroValue309
 t131:=Tryz.underlying256
 a131:=Tryz.isAgg256
 z131:=Tryz.sizeOf256
 v131:=Tryz.zeroValue256
 t182:=Tryz.underlying299
 a182:=Tryz.isAgg299
 z182:=Tryz.sizeOf299
 v182:=Tryz.zeroValue299
 t183:=Tryz.underlying300
 a183:=Tryz.isAgg300
 z183:=Tryz.sizeOf300
 v183:=Tryz.zeroValue300
 t218:=Tryz.underlying328
 a218:=Tryz.isAgg328
 z218:=Tryz.sizeOf328
 v218:=Tryz.zeroValue328
 t222:=Tryz.underlying332
 a222:=Tryz.isAgg332
 z222:=Tryz.sizeOf332
 v222:=Tryz.zeroValue332
 t228:=Tryz.underlying342
 a228:=Tryz.isAgg342
 z228:=Tryz.sizeOf342
 v228:=Tryz.zeroValue342
 t229:=Tryz.underlying343
 a229:=Tryz.isAgg343
 z229:=Tryz.sizeOf343
 v229:=Tryz.zeroValue343}
def Tryz.laysCompact_ren:Go.Shelf.Ren:=⟨fun|20=>249|n=>n,fun|22=>51|3=>3|4=>4|0=>0|n=>n,fun|n=>n⟩
def Tryz.laysCompact:Go.Proofs.Lays2.n20 Tryz.prog Tryz.laysCompact_ren:={
 mixed:=by kernel_rfl
 f20:=Tryz.func249.trans (congrArg some (by kernel_rfl))
 t0:=Tryz.underlying0
 a0:=Tryz.isAgg0
 z0:=Tryz.sizeOf0
 v0:=Tryz.zeroValue0
 t3:=Tryz.underlying3
 a3:=Tryz.isAgg3
 z3:=Tryz.sizeOf3
 v3:=Tryz.zeroValue3
 t4:=Tryz.underlying4
 a4:=Tryz.isAgg4
 z4:=Tryz.sizeOf4
 v4:=Tryz.zeroValue4
 t22:=Tryz.underlying51
 a22:=Tryz.isAgg51
 z22:=Tryz.sizeOf51
 v22:=Tryz.zeroValue51
 i3:=by kernel_rfl}
end Go.Proofs
namespace Go.Proofs.ZzM
open Go Go.Am
def hmix:Tryz.prog.follows .mixedOrders=true:=by kernel_rfl
def plain_ : (Tryz.prog.funcs.toList.all fun fn => !(fn.name == "runtime.NumGoroutine")) = true := by kernel_rfl
def plain (f : Nat) (fn : Func) (h : Tryz.prog.funcs[f]? = some fn) : (fn.name == "runtime.NumGoroutine") = false := by
 have:=dM.1 plain_ fn (dk (i:=f) (by simpa using h));simpa using this
def anN:Tryz.laysSort_ren.f 189=184:=by kernel_rfl
def afY:Tryz.laysCompact_ren.f 20=249:=by kernel_rfl
section
variable [Ghost] {ρ:Type}
def sortOk (f:Nat) (a:abm f=true) (h:BY Blk) (x:AV) (K:AV->BY Blk->BE ρ) (q:ρ) (e:VY h x K=some q) (ν:Nat->Value) (w:World) (u:Value) (H:HR ν h w) (b:VR ν h w x u):Jj Tryz.prog f ν h w [u] K q:=by
 have c:f=184:=by
  unfold abm at a
  split at a
  ·rfl
  ·cases a
 subst c;have:=anC Tryz.laysSort e H b ⟨_,rfl⟩
 rwa [anN] at this
def ajA (f:Nat) (a:Bk f=true) (h:BY Blk) (x:AV) (K:AV->BY Blk->BE ρ) (q:ρ) (e:qy h x K=some q) (ν:Nat->Value) (w:World) (u:Value) (H:HR ν h w) (b:VR ν h w x u):Jj Tryz.prog f ν h w [u] K q:=by
 have c:f=249:=by
  unfold Bk at a
  split at a
  ·rfl
  ·cases a
 subst c;have:=agB Tryz.laysCompact e H b ⟨_,rfl⟩
 rwa [afY] at this
def aoj:Lb Tryz.prog Q6:=by
 intro g c fz S nid x v d e ν w u H a b hd;unfold Q6 at c
 split at c
 ·exact uD Tryz.func114 (T:=31) (by kernel_rfl) (by kernel_rfl) e H a b hd
 ·exact uD Tryz.func115 (T:=51) (by kernel_rfl) (by kernel_rfl) e H a b hd
 ·exact uD Tryz.func140 (T:=103) (by kernel_rfl) (by kernel_rfl) e H a b hd
 ·exact uD Tryz.func170 (T:=27) (by kernel_rfl) (by kernel_rfl) e H a b hd
 ·exact uD Tryz.func182 (T:=24) (by kernel_rfl) (by kernel_rfl) e H a b hd
 ·exact uD Tryz.func250 (T:=25) (by kernel_rfl) (by kernel_rfl) e H a b hd
 ·exact uD Tryz.func251 (T:=26) (by kernel_rfl) (by kernel_rfl) e H a b hd
 ·exact uD Tryz.func252 (T:=28) (by kernel_rfl) (by kernel_rfl) e H a b hd
 ·cases c
def FP {c:BY (Nat×ă)} (h:∀e∈c,jq Tryz.prog e.1 e.2) (E:Env ρ) (b:E.P=Tryz.prog) (l:E.pure=agt c) (h2:E.sort=abm) (k:E.compact=Bk) (j:E.clone=Q6) (i:afF E) (g:∀f X,E.ext f=some X->ahf E.P f X) (d:lz E):Jh E:=by
 constructor
 ·intro f p a;rw[l] at a;rw[b];exact h (f,p) (VE a)
 ·intro f a;rw[h2] at a;rw[b];exact sortOk f a
 ·intro f a;rw[k] at a;rw[b];exact ajA f a
 ·rw[b]; exact plain
 ·rw[b,j]; exact aoj
 ·exact i
 ·exact d
 ·exact g
def libN {a:BY (Nat×ă)} (h:∀e∈a,jq Tryz.prog e.1 e.2) (tab:BY (õ ρ)):Jh (Ú a tab):=FP h _ rfl rfl rfl rfl rfl (Œ rfl) (mV rfl) (jC rfl)
end
abbrev ZP (f:Nat) (p:ă):Prop:=jq Tryz.prog f p
def zt {f:Nat} {p:ă} {a:BY (Nat×ă)} {tab:BY (õ (Val (tyL p.rs)))} (E:Env (Val (tyL p.rs))) (c:∀e∈a,jq Tryz.prog e.1 e.2) (d:E=Ú a tab) (b:∀x∈tab,x.Ok E) (law:∀x:Val (tyL p.ts),topK E f (adq p.ts x) (fun h v=>Æ (anM p.rs h v) some)=p.F x):jq Tryz.prog f p:=by
 subst d;exact Wc (Ú a tab) (fun {_}=>libN c _) hmix (tab:=tab) rfl b (nw law)
end Go.Proofs.ZzM
end

noncomputable section
set_option maxRecDepth 100000
namespace Go.Proofs.ZzM
open Go Go.Am
def mX:ZP 93 jD:=zt (π _) Å rfl (Á vT (Á vS Å)) fun x=>yY x some
noncomputable def Ub {n:Nat} (b:lB Tryz.prog ⟨272,(.slice tI),(.slice tI),acg n⟩):lB Tryz.prog ⟨272,(.slice tI),(.slice tI),acg (n+1)⟩:=Ym ⟨272,(.slice tI),(.slice tI),acg (n+1)⟩ (fun al=>Ć al (acg n) _) rfl (fun _=>rfl) (fun _=>rfl) (fun _ {_} a=>FP (Á mX Å) _ rfl rfl rfl rfl rfl (Œ rfl) (mV rfl) a) hmix (fun al=>Ij (E:=Ć al (acg n) _) hmix (tab:=yL al (acg n) _) rfl (Á GJ Å) (rtab:=zU al (acg n) _) rfl (Á (GI b) Å) (Á GH Å)) (fun m xs h=>(Mi m (acg (n+1))).trans (aie h))
def I5:∀n:Nat,lB Tryz.prog ⟨272,(.slice tI),(.slice tI),acg n⟩
 |0=>⟨rfl,fun _ _ m xs h=>(Nat.not_lt_zero _ (ael (n:=0) (l:=m) (xs:=xs) h).1).elim⟩
 |n+1=>Ub (I5 n)
def ajN:lB Tryz.prog Q3:=(I5 10).mono fun _ _ h=>af4 h
noncomputable def M4 {n:Nat} (b:lB Tryz.prog ⟨231,(.slice Ě),(.slice (.slice tI)),ach n⟩):lB Tryz.prog ⟨231,(.slice Ě),(.slice (.slice tI)),ach (n+1)⟩:=Ym ⟨231,(.slice Ě),(.slice (.slice tI)),ach (n+1)⟩ (fun al=>ì al (ach n) _) rfl (fun _=>rfl) (fun _=>rfl) (fun _ {_} a=>FP Å _ rfl rfl rfl rfl rfl (Œ rfl) (mV rfl) a) hmix (fun al=>Ij (E:=ì al (ach n) _) hmix (tab:=tp al (ach n) _) rfl Å (rtab:=vy al (ach n) _) rfl (Á (CQ b) (Á (CV ajN) Å)) (Á CP (Á CU Å))) (fun m xs h=>(GV m (ach (n+1))).trans (ady h))
def Bv:∀n:Nat,lB Tryz.prog ⟨231,(.slice Ě),(.slice (.slice tI)),ach n⟩
 |0=>⟨rfl,fun _ _ m xs h=>(Nat.not_lt_zero _ (aem (n:=0) (l:=m) (xs:=xs) h).1).elim⟩
 |n+1=>M4 (Bv n)
def RF:lB Tryz.prog rX:=(Bv 10).mono fun _ _ h=>abI h
def ajM:lB Tryz.prog Im:=Ym Im (fun al=>ď al (fun _=>none) _) rfl (fun _=>rfl) (fun _=>rfl) (fun _ {_} a=>FP Å _ rfl rfl rfl rfl rfl (Œ rfl) (mV rfl) a) hmix (fun _=>Np hmix rfl (Á sH Å) rfl) (fun m xs h=>(vQ m B9).trans (ahx h))
def wK:ZP 173 nz:=zt (lT _) Å rfl (Á xm Å) fun x=>Ak x some
def υ:ZP 92 Ť:=zt (nl _) (Á wK Å) rfl Å fun x=>vR x some
def afq:ZP 201 Wr:=zt (B6 _) (Á υ Å) rfl (Á T0 (Á TZ Å)) fun x=>aba x some
def RU:ZP 136 Gs:=zt (xQ _) (Á afq Å) rfl (Á QI (Á QJ Å)) fun x=>XY x some
def CE:ZP 141 vq:=zt (LO _) Å rfl Å fun x=>TX x some
def oc:ZP 212 l5:=zt (LN _) Å rfl Å fun x=>TO x some
def Jc:ZP 205 zD:=zt (QN _) (Á oc Å) rfl Å fun x=>X6 x some
def afp:ZP 291 Wq:=zt (Vi _) Å rfl Å fun x=>aaZ x some
def akb:ZP 292 acC:=zt (Qz _) Å rfl (Á XR Å) fun x=>ac3 x some
def Jb:ZP 253 Gp:=zt (QB _) (Á afp (Á akb Å)) rfl Å fun x=>XT x some
def adJ:ZP 203 Ou:=zt (H9 _) (Á CE (Á Jc (Á oc (Á Jb Å)))) rfl Å fun x=>QM x some
def RV:ZP 142 zE:=zt (nR _) (Á adJ Å) rfl (Á Be Å) fun x=>FK x some
def FU:ZP 143 xb:=zt (xN _) Å rfl (Á Ks Å) fun x=>QG x some
def uY:ZP 206 og:=zt (yT _) Å rfl Å fun x=>HQ x some
def adI:ZP 204 acE:=zt (HS _) (Á Jc (Á uY Å)) rfl Å fun x=>QH x some
def YU:ZP 208 Ws:=zt (mP _) (Á CE (Á uY (Á oc Å))) rfl (Á FJ (Á FI Å)) fun x=>Ky x some
def NJ:ZP 148 Gt:=zt (B5 _) (Á υ Å) rfl (Á TV (Á TU Å)) fun x=>aa9 x some
def VO:ZP 172 JB:=zt (Bc _) (Á oc Å) rfl (Á MY Å) fun x=>TW x some
def afr:ZP 259 Wt:=zt (Kz _) (Á oc Å) rfl (Á T1 Å) fun x=>abb x some
def M7:ZP 209 L9:=zt (Ş _) (Á mX (Á CE (Á NJ (Á VO (Á Jc (Á uY (Á oc (Á afr Å)))))))) rfl (Á zb (Á y0 (Á za (Á yZ Å)))) fun x=>C2 x some
end Go.Proofs.ZzM
end

noncomputable section
namespace Go.Proofs
open Go.RowKit
attribute [local go_sem] Oper.semAt_some
noncomputable def upE (f:Nat->Int) (k:Nat):BY Int:=(List.range k).map f
def sK (f:Nat->Int) (k:Nat):upE f (k+1)=upE f k++[f k]:=by simp[upE,fE]
def BN (f:Nat->Int) (k:Nat):(upE f k).length=k:=by simp[upE]
def Nb (f:Nat->Int) {j k:Nat} (h:j<=k):upE f j <+: upE f k:=by
 have:k=j+(k-j):=by omega
 rw[this,upE,upE,List.range_add,fp];exact eE _ _
set_option maxRecDepth 100000 in
set_option maxHeartbeats 1000000 in
noncomputable def alq (te:TypeId) (n:Nat) (hn:1<=n) (l n₀ bb tb sb:Nat) (flo fhi ga mv:Value) (hbb:bb<n₀) (htb:tb<n₀) (hsb:sb<n₀)
 (ub uo ul uc kb ko kl kc:Nat) (ubase kbase lbase cbase:BE Addr) (ll lc cl cc:Nat) (hub:0<ul->ubase=some ⟨ub,uo,none⟩/\ub<n₀) (hkb:0<kl->kbase=some ⟨kb,ko,none⟩/\kb<n₀)
 (U K:Nat->Int×Int) (eU eL eC eK:Nat->Int)
 (hul:ul<=1000) (hll:ll<=1000) (hcl:cl<=1000) (hkl:kl<=1000)
 (W:World) (hb0:W.heap[bb]?=some (.cells #[flo,fhi,ga,.slice ubase ul uc,.slice lbase ll lc,.slice cbase cl cc,.slice kbase kl kc] te (0,0)))
 (ht:W.cell? ⟨tb,0,none⟩=some (.func (.func 204) #[] #[.pointer (some ⟨sb,0,none⟩)])) (hs:W.cell? ⟨sb,0,none⟩=some mv)
 (hU:∀j,j<ul->W.cell? ⟨ub,uo+j*2,none⟩=some (.int .i64 (U j).1)/\W.cell? ⟨ub,uo+j*2+1,none⟩=some (.int .i64 (U j).2))
 (hK:∀j,j<kl->W.cell? ⟨kb,ko+j*2,none⟩=some (.int .i64 (K j).1)/\W.cell? ⟨kb,ko+j*2+1,none⟩=some (.int .i64 (K j).2))
 (cU:∀j,j<ul->∀W',Below n₀ W W'->CallsIn Fence.wide (n-1) Tryz.prog 204 #[.int .i64 (U j).1,.int .i64 (U j).2,.pointer (some ⟨sb,0,none⟩)] W' fun e W''=>e=.returned (.int .i64 (eU j))/\W'.grownBy W'' none)
 (cK:∀j,j<kl->∀W',Below n₀ W W'->CallsIn Fence.wide (n-1) Tryz.prog 204 #[.int .i64 (K j).1,.int .i64 (K j).2,.pointer (some ⟨sb,0,none⟩)] W' fun e W''=>e=.returned (.int .i64 (eK j))/\W'.grownBy W'' none)
 (cL:∀j,j<ll->∀W',Below n₀ W W'->CallsIn Fence.wide (n-1) Tryz.prog 208 #[.agg #[flo,fhi,ga,.slice ubase ul uc,.slice lbase ll lc,.slice cbase cl cc,.slice kbase kl kc],mv,.int .i64 j] W' fun e W''=>e=.returned (.int .i64 (eL j))/\W'.grownBy W'' none)
 (cC:∀j,j<cl->∀W',Below n₀ W W'->CallsIn Fence.wide (n-1) Tryz.prog 209 #[.agg #[flo,fhi,ga,.slice ubase ul uc,.slice lbase ll lc,.slice cbase cl cc,.slice kbase kl kc],mv,.int .i64 j] W' fun e W''=>e=.returned (.int .i64 (eC j))/\W'.grownBy W'' none)
 (J Jx:BY Int->World->Prop) (hJ:∀pre W W',J pre W->W.grownBy W' none->J pre W') (hJx:∀pre W W',Jx pre W->W.grownBy W' none->Jx pre W')
 (hY:∀pre x W,J pre W->pre.length<ul+(ll+(cl+kl))->YieldAt Fence.wide (n-1) Tryz.prog l #[.int .i64 x] W fun e W' =>
  (e=.returned (.bool true)/\J (pre++[x]) W'/\Below n₀ W W')\/(e=.returned (.bool false)/\Jx (pre++[x]) W'))
 (h0 : J [] W) (hn₀ : n₀ <= W.heap.size) :
  CallsIn Fence.wide n Tryz.prog 207 #[.func (.yield l) #[] #[],.pointer (some ⟨bb,0,none⟩),.pointer (some ⟨tb,0,none⟩),.pointer (some ⟨sb,0,none⟩)] W fun e W'=>(∃v,e=.returned v) /\
   ((∃xs,xs=upE eU ul++(upE eL ll++(upE eC cl++upE eK kl))/\J xs W')\/(∃pre,(pre <+: upE eU ul++(upE eL ll++(upE eC cl++upE eK kl)))/\Jx pre W')):=by
 have grown_alloc:∀(X:World) (o:Obj),X.grownBy (X.alloc o) none:=fun X o=>World.grownBy_alloc X o none
 have bel:∀{X Y:World},Below n₀ W X->X.grownBy Y none->Below n₀ W Y:=fun {X Y} h g =>
  ⟨g.os.trans h.os,g.tape.trans h.tape,g.output.trans h.output,dE h.size g.size,fun k hk=>(g.block k (dC (dC hk hn₀) h.size) (by simp)).trans (h.block k hk)⟩
 have hc:∀{X:World},Below n₀ W X->X.heap[bb]?=some (.cells #[flo,fhi,ga,.slice ubase ul uc,.slice lbase ll lc,.slice cbase cl cc,.slice kbase kl kc] te (0,0)):=fun h=>(h.block bb hbb).trans hb0;refine callsIn_of_wp Tryz.func207 rfl trivial ?_ rfl;simp only[Tryz.ntmps207,fU,dr,dO,Nat.reduceAdd,Nat.reduceSub,Array.replicate_succ,Array.replicate_zero,List.push_toArray,gW,ew,fi]
 have hb3:W.cell? ⟨bb,3,none⟩=some (.slice ubase ul uc):=by simp[World.cell?,hb0]
 gi_wp2
 gi_loopw [14] (fun i wr=>∃k:Nat,k<=ul/\i=.int .i64 k/\J (upE eU k) wr/\Below n₀ W wr)
  (fun i _=>ul-(intOf i).toNat)
 case atStart=>exact⟨0,d9 _,rfl,h0,Below.refl _ _⟩
 case round =>
  obtain⟨k,hk,rfl,hJs,hnx⟩:=hrel
  by_cases hlt:k<ul
  ·obtain⟨rfl,hlu⟩:=hub (by omega);have hu1:=(hnx.cell (p:=⟨ub,uo+k*2,none⟩) hlu).trans (hU k hlt).1;have hu2:=(hnx.cell (p:=⟨ub,uo+k*2+1,none⟩) hlu).trans (hU k hlt).2;have ht':=(hnx.cell (p:=⟨tb,0,none⟩) htb).trans ht;have hta:∀o,(wr.alloc o).cell? ⟨tb,0,none⟩=some (.func (.func 204) #[] #[.pointer (some ⟨sb,0,none⟩)]):=fun o=>Lib.cell?_alloc_some _ ht'
   gi_wp2
   refine⟨trivial,(cU k hlt _ (bel hnx (grown_alloc _ _))).mono ?_⟩;rintro e W2 ⟨rfl,hg2⟩;obtain⟨fn,tmps,assign,body,hy,hR⟩:=hY _ (eU k) W2 (hJ _ _ _ (hJ _ _ _ hJs (grown_alloc _ _)) hg2) (by rw[BN]; omega);have hb2:=bel (bel hnx (grown_alloc _ _)) hg2
   gi_wp2
   refine hR.mono ?_;rintro e W3 (⟨rfl,hJ3,hk3⟩|⟨rfl,hJx3⟩)
   ·gi_wp2
    go_roundw
    case rel=>exact⟨k+1,by omega,by simp,by rw[sK]; exact hJ3,hb2.trans hk3⟩
    case measure=>simp[intOf]; omega
   ·gi_wp2
    refine bodyPost_ret (results_none rfl _ _ _) rfl ?_;refine⟨⟨_,rfl⟩,.inr ⟨_,?_,hJx3⟩⟩;rw[<-sK];exact(Nb eU (by omega)).trans (eE _ _)
  ·obtain rfl:ul=k:=by omega
   have hb4:wr.cell? ⟨bb,4,none⟩=some (.slice lbase ll lc):=by simp[World.cell?,hc hnx]
   gi_wp2
   gi_loopw [31] (fun i wr=>∃k:Nat,k<=ll/\i=.int .i64 k/\J (upE eU ul++upE eL k) wr/\Below n₀ W wr)
    (fun i _=>ll-(intOf i).toNat)
   case atStart=>exact⟨0,d9 _,rfl,by simpa[upE] using hJs,hnx⟩
   case round =>
    clear hJs hnx;obtain⟨k,hk,rfl,hJs,hnx⟩:=hrel
    by_cases hlt:k<ll
    ·have q0:wr.cell? ⟨bb,0,none⟩=some flo:=by simp[World.cell?,hc hnx]
     have q1:wr.cell? ⟨bb,1,none⟩=some fhi:=by simp[World.cell?,hc hnx]
     have q2:wr.cell? ⟨bb,2,none⟩=some ga:=by simp[World.cell?,hc hnx]
     have q3:wr.cell? ⟨bb,3,none⟩=some (.slice ubase ul uc):=by simp[World.cell?,hc hnx]
     have q4:wr.cell? ⟨bb,4,none⟩=some (.slice lbase ll lc):=by simp[World.cell?,hc hnx]
     have q5:wr.cell? ⟨bb,5,none⟩=some (.slice cbase cl cc):=by simp[World.cell?,hc hnx]
     have q6:wr.cell? ⟨bb,6,none⟩=some (.slice kbase kl kc):=by simp[World.cell?,hc hnx]
     have hs':=(hnx.cell (p:=⟨sb,0,none⟩) hsb).trans hs
     gi_wp2
     refine⟨trivial,(cL k hlt _ hnx).mono ?_⟩;rintro e W2 ⟨rfl,hg2⟩;obtain⟨fn,tmps,assign,body,hy,hR⟩:=hY _ (eL k) W2 (hJ _ _ _ hJs hg2) (by simp only[di,BN]; omega);have hb2:=bel hnx hg2
     gi_wp2
     refine hR.mono ?_;rintro e W3 (⟨rfl,hJ3,hk3⟩|⟨rfl,hJx3⟩)
     ·gi_wp2
      go_roundw
      case rel=>exact⟨k+1,by omega,by simp,by rw[sK,<-dp]; exact hJ3,hb2.trans hk3⟩
      case measure=>simp[intOf]; omega
     ·gi_wp2
      refine bodyPost_ret (results_none rfl _ _ _) rfl ?_;refine⟨⟨_,rfl⟩,.inr ⟨_,?_,hJx3⟩⟩;rw[dp,<-sK];exact(ff _).2 ((Nb eL (by omega)).trans (eE _ _))
    ·obtain rfl:ll=k:=by omega
     have hb5:wr.cell? ⟨bb,5,none⟩=some (.slice cbase cl cc):=by simp[World.cell?,hc hnx]
     gi_wp2
     gi_loopw [45] (fun i wr=>∃k:Nat,k<=cl/\i=.int .i64 k/\J (upE eU ul++upE eL ll++upE eC k) wr/\Below n₀ W wr)
      (fun i _=>cl-(intOf i).toNat)
     case atStart=>exact⟨0,d9 _,rfl,by simpa[upE] using hJs,hnx⟩
     case round =>
      clear hJs hnx;obtain⟨k,hk,rfl,hJs,hnx⟩:=hrel
      by_cases hlt:k<cl
      ·have q0:wr.cell? ⟨bb,0,none⟩=some flo:=by simp[World.cell?,hc hnx]
       have q1:wr.cell? ⟨bb,1,none⟩=some fhi:=by simp[World.cell?,hc hnx]
       have q2:wr.cell? ⟨bb,2,none⟩=some ga:=by simp[World.cell?,hc hnx]
       have q3:wr.cell? ⟨bb,3,none⟩=some (.slice ubase ul uc):=by simp[World.cell?,hc hnx]
       have q4:wr.cell? ⟨bb,4,none⟩=some (.slice lbase ll lc):=by simp[World.cell?,hc hnx]
       have q5:wr.cell? ⟨bb,5,none⟩=some (.slice cbase cl cc):=by simp[World.cell?,hc hnx]
       have q6:wr.cell? ⟨bb,6,none⟩=some (.slice kbase kl kc):=by simp[World.cell?,hc hnx]
       have hs':=(hnx.cell (p:=⟨sb,0,none⟩) hsb).trans hs
       gi_wp2
       refine⟨trivial,(cC k hlt _ hnx).mono ?_⟩;rintro e W2 ⟨rfl,hg2⟩;obtain⟨fn,tmps,assign,body,hy,hR⟩:=hY _ (eC k) W2 (hJ _ _ _ hJs hg2) (by simp only[di,BN]; omega);have hb2:=bel hnx hg2
       gi_wp2
       refine hR.mono ?_;rintro e W3 (⟨rfl,hJ3,hk3⟩|⟨rfl,hJx3⟩)
       ·gi_wp2
        go_roundw
        case rel=>exact⟨k+1,by omega,by simp,by rw[sK,<-dp]; exact hJ3,hb2.trans hk3⟩
        case measure=>simp[intOf]; omega
       ·gi_wp2
        refine bodyPost_ret (results_none rfl _ _ _) rfl ?_;refine⟨⟨_,rfl⟩,.inr ⟨_,?_,hJx3⟩⟩;rw[dp,<-sK]
        exact by rw[dp]; exact(ff _).2 ((ff _).2 ((Nb eC (by omega)).trans (eE _ _)))
      ·obtain rfl:cl=k:=by omega
       have hb6:wr.cell? ⟨bb,6,none⟩=some (.slice kbase kl kc):=by simp[World.cell?,hc hnx]
       gi_wp2
       gi_loopw [59] (fun i wr=>∃k:Nat,k<=kl/\i=.int .i64 k/\J ((upE eU ul++upE eL ll++upE eC cl)++upE eK k) wr/\Below n₀ W wr)
        (fun i _=>kl-(intOf i).toNat)
       case atStart=>exact⟨0,d9 _,rfl,by simpa[upE] using hJs,hnx⟩
       case round =>
        clear hJs hnx;obtain⟨k,hk,rfl,hJs,hnx⟩:=hrel
        by_cases hlt:k<kl
        ·obtain⟨rfl,hlk⟩:=hkb (by omega);have hu1:=(hnx.cell (p:=⟨kb,ko+k*2,none⟩) hlk).trans (hK k hlt).1;have hu2:=(hnx.cell (p:=⟨kb,ko+k*2+1,none⟩) hlk).trans (hK k hlt).2;have ht':=(hnx.cell (p:=⟨tb,0,none⟩) htb).trans ht;have hta:∀o,(wr.alloc o).cell? ⟨tb,0,none⟩=some (.func (.func 204) #[] #[.pointer (some ⟨sb,0,none⟩)]):=fun o=>Lib.cell?_alloc_some _ ht'
         gi_wp2
         refine⟨trivial,(cK k hlt _ (bel hnx (grown_alloc _ _))).mono ?_⟩;rintro e W2 ⟨rfl,hg2⟩;obtain⟨fn,tmps,assign,body,hy,hR⟩:=hY _ (eK k) W2 (hJ _ _ _ (hJ _ _ _ hJs (grown_alloc _ _)) hg2) (by simp only[di,BN]; omega);have hb2:=bel (bel hnx (grown_alloc _ _)) hg2
         gi_wp2
         refine hR.mono ?_;rintro e W3 (⟨rfl,hJ3,hk3⟩|⟨rfl,hJx3⟩)
         ·gi_wp2
          go_roundw
          case rel=>exact⟨k+1,by omega,by simp,by rw[sK,<-dp]; exact hJ3,hb2.trans hk3⟩
          case measure=>simp[intOf]; omega
         ·gi_wp2
          refine bodyPost_ret (results_none rfl _ _ _) rfl ?_;refine⟨⟨_,rfl⟩,.inr ⟨_,?_,hJx3⟩⟩;rw[dp,<-sK,dp,dp];exact(ff _).2 ((ff _).2 ((ff _).2 (Nb eK (by omega))))
        ·obtain rfl:kl=k:=by omega
         gi_wp2
         go_end0
         exact⟨⟨_,rfl⟩,.inl ⟨_,rfl,by simpa[dp] using hJs⟩⟩
end Go.Proofs
end

noncomputable section
set_option maxRecDepth 100000
namespace Go.Proofs.ZzM
open Go Go.Am Go.RowKit
def aej (p:String):Code:=.region 10 #[{dst:=some 5,op:=.assign (.tmp 49),type:=38,pos:=p,after:=#[],guard:=none}] false
def amU (q r:String):Code:=.block 1 (.seq (.region 11 #[{dst:=some 50,op:=.move (.tmp 5),type:=38,pos:=q,after:=#[],guard:=none},{dst:=some 51,op:=.binOp .neq 38 (.tmp 50) (.const (.int .i64 0)) 38,type:=4,pos:=q,after:=#[{on:=0,ground:=.data}],guard:=none}] false)
 (.cond (.tmp 51) (.seq (.region 12 #[{dst:=some 52,op:=.move (.tmp 5),type:=38,pos:=r,after:=#[],guard:=none},{dst:=none,op:=.store 38 (.tmp 2) (.tmp 52),type:=0,pos:=r,after:=#[{on:=0,ground:=.data},{on:=0,ground:=.phase}],guard:=none}] false) .ret) .skip))
section
variable {P:Program} {F:Fence} {n:Nat}
def Gv {b:Array Oper} {i d:Nat} {o:Oper} {u:Value} {w w':World} {a:Act} {next:Act->World->Prop} {Q:Exit->Act->World->Prop} (m:∀f,F.fn f) (j:b[i]?=some o) (l:o.guard=none) (hd:o.dst=some d) (g:∀c,o.op≠.defer c)
 (e:(execOp a.eval o).run P w=.ok (.value u) w') (k:next (a.put (some d) u) w'):wpOpIn F n P b Q i next a w:=by
 unfold wpOpIn;rw[j]
 have h:Region.wanted o (yielded b a.tmps)=true:=by simp[Region.wanted,l]
 simp only[h,if_true];refine⟨fun _ _=>m _,?_⟩;rw[Oper.semAt_eq _ _ _ g,e];rw[<-hd] at k;exact k
def af6 {b:Array Oper} {i:Nat} {o:Oper} {w w':World} {a:Act} {next:Act->World->Prop} {Q:Exit->Act->World->Prop} (l:∀f,F.fn f) (h:b[i]?=some o) (j:o.guard=none) (hd:o.dst=none) (e:∀c,o.op≠.defer c)
 (d:(execOp a.eval o).run P w=.ok .skip w') (k:next a w'):wpOpIn F n P b Q i next a w:=by
 unfold wpOpIn;rw[h]
 have g:Region.wanted o (yielded b a.tmps)=true:=by simp[Region.wanted,j]
 simp only[g,if_true];refine⟨fun _ _=>l _,?_⟩;rw[Oper.semAt_eq _ _ _ e,d];show next (a.put o.dst undef) w';rw[hd];exact k
end
def ky (T:Array Value) (i j:Nat) (v:Value):(T.setIfInBounds i v).getD j undef=if i=j/\i<T.size then v else T.getD j undef:=by
 simp only[eM,f7]
 by_cases h:i=j
 ·subst h
  by_cases h2:i<T.size
  ·simp[h2]
  ·simp[h2]
 ·simp[h]
noncomputable def mark (D:Nat):Deferred:={target:=.collected D,args:=#[]}
structure Put1 (n₀ rb:Nat) (x:Int) (w W:World):Prop where
 os:W.os=w.os
 tape:W.tape=w.tape
 output:W.output=w.output
 size:w.heap.size<=W.heap.size
 block:∀k,k<n₀->k≠rb->W.heap[k]?=w.heap[k]?
 cell:∃e,W.heap[rb]?=some (.cells #[.int .i64 x] e (0,0))
set_option maxHeartbeats 4000000 in
def anK {a:Act} {w:World} {Q:Exit->Act->World->Prop} {lb:Array Value} {L:BY Int} {rb:Nat} {e0:TypeId} {v0:Value} {p q r:String}
 (O:SeqStopsK Fence.wide 1 Tryz.prog 207 lb (fun x:Int=>#[.int .i64 x]) (Below w.heap.size) (fun xs=>xs=L) (fun i=>i <+: L) L.length w)
 (hg:a.tmps.getD 48 undef=.func (.func 207) #[] lb) (h2:a.tmps.getD 2 undef=.pointer (some ⟨rb,0,none⟩)) (hsz:78<=a.tmps.size)
 (U:w.heap[rb]?=some (.cells #[v0] e0 (0,0)))
 (z:∀D W,(∀x∈L,x=0)->Below w.heap.size w W->w.heap.size<=D->W.heap[D]?=some (.deferred (some []))->Q .normal {a with defers:=mark D::a.defers} W)
 (m:∀D W x,L.find? (fun e=>e != 0)=some x->Put1 w.heap.size rb x w W->w.heap.size<=D->W.heap[D]?=some (.deferred (some []))->Q .ret {a with defers:=mark D::a.defers} W) :
 (Code.rangeFunc (.tmp 48) #[49] (aej p) (amU q r)).wpIn Fence.wide 2 Tryz.prog Q a w:=by
 have X:∀f,Fence.wide.fn f:=fun _=>trivial;have R:=ĥ U
 refine wpIn_rangeFunc_ownF (α:=Int) (encs:=fun x=>#[.int .i64 x]) (Kp:=Below w.heap.size) (S:=fun xs=>xs=L) (Sp:=fun i=>i <+: L) (N:=L.length) (w0:=w) rfl (by omega) hg trivial (fun args w=>?eg) O
  (fun h k=>h.trans k) (fun W l o o' hl ho hc hw=>belowK_b (dh _) W l o o' hl ho hc hw) (Below.refl _ _) (fun _=>rfl)
  (fun i W=>(∀x∈i,x=0)/\Below w.heap.size w W)
  (fun c i W=>c=.ret/\∃j x,i=j++[x]/\(∀x∈j,x=0)/\x≠0/\Put1 w.heap.size rb x w W)
  ?hI ?hIx ⟨by simp,Below.refl _ _⟩ (fun x=>{tmps:=(a.tmps.setIfInBounds 49 (.int .i64 x)).setIfInBounds 5 (.int .i64 x),defers:=[]}) ?hassign ?hbody ?z ?m
 case eg=>simp[callFunc,Sem.run_bind,run_program,Result.andThen_ok,Tryz.func207,plain 207 _ Tryz.func207,show Tryz.f207.body.isNone=false from rfl]; rfl
 case hI =>
  intro s W W' row ⟨E,h2⟩ g hr;exact⟨E,g.os.trans h2.os,g.tape.trans h2.tape,g.output.trans h2.output,dE h2.size g.size,fun k A=>(g.block k (dC A h2.size) (fun e=>by have:=(hr k e.symm).1; omega)).trans (h2.block k A)⟩
 case hIx =>
  intro c s W W' row ⟨E,j,x,h3,h4,h5,C⟩ g hr;have hb:∀k,k<w.heap.size->W'.heap[k]?=W.heap[k]?:=fun k A=>g.block k (dC A C.size) (fun e=>by have:=(hr k e.symm).1; omega)
  exact⟨E,j,x,h3,h4,h5,g.os.trans C.os,g.tape.trans C.tape,g.output.trans C.output,dE C.size g.size,fun k A G=>(hb k A).trans (C.block k A G),by
   obtain⟨e,he⟩:=C.cell
   exact⟨e,(hb rb R).trans he⟩⟩
 case hassign =>
  intro l x W K hK
  have hf:((#[49]:Array Tmp).zip #[Value.int .i64 x]).foldl (fun t (p,v)=>t.setIfInBounds p v) a.tmps=a.tmps.setIfInBounds 49 (.int .i64 x):=by simp
  rw[hf];refine wpIn_region ?_;rw[show ∀o:Oper,List.range (#[o]:Array Oper).size=[0] from fun _=>rfl,wpOpsIn_cons];refine Gv (d:=5) (u:=.int .i64 x) (w':=W) X rfl rfl rfl (by simp) ?_ hK;show Result.ok (Next.value ((a.tmps.setIfInBounds 49 (.int .i64 x)).getD 49 undef)) W=_;rw[ky,if_pos ⟨rfl,by omega⟩]
 case hbody =>
  intro l i x W ⟨E,hbel⟩ hpre;refine wpIn_block (wpIn_seq (wpIn_region ?_));rw[show ∀o p:Oper,List.range (#[o,p]:Array Oper).size=[0,1] from fun _ _=>rfl,wpOpsIn_cons]
  refine Gv (d:=50) (u:=.int .i64 x) (w':=W) X rfl rfl rfl (by simp) (by
   show Result.ok (Next.value (((a.tmps.setIfInBounds 49 (.int .i64 x)).setIfInBounds 5 (.int .i64 x)).getD 5 undef)) W=_
   rw[ky,if_pos ⟨rfl,by simp; omega⟩]) ?_
  rw[wpOpsIn_cons]
  refine Gv (d:=51) (u:=.bool (x != 0)) (w':=W) X rfl rfl rfl (by simp) (by
   show((do let u <-(do eqGuard .neq 38 (.tmp 50) (.const (.int .i64 0)) ((((a.tmps.setIfInBounds 49 (.int .i64 x)).setIfInBounds 5 (.int .i64 x)).setIfInBounds 50 (.int .i64 x)).getD 50 undef) (.int .i64 0); binOp .neq 38 ((((a.tmps.setIfInBounds 49 (.int .i64 x)).setIfInBounds 5 (.int .i64 x)).setIfInBounds 50 (.int .i64 x)).getD 50 undef) (.int .i64 0)); pure (.value u)):Sem Next).run Tryz.prog W=_;rw[ky,if_pos ⟨rfl,by simp; omega⟩]
   simp[eqGuard,binOp,Op.intCmp]) ?_
  show Code.wpIn (Fence.wide.inRound l) (2-1-1) Tryz.prog (Code.cond (.tmp 51) _ .skip) _ {tmps:=((((a.tmps.setIfInBounds 49 (.int .i64 x)).setIfInBounds 5 (.int .i64 x)).setIfInBounds 50 (.int .i64 x)).setIfInBounds 51 (.bool (x != 0))),defers:=[]} W;obtain⟨T,B⟩:∃T,T=((((a.tmps.setIfInBounds 49 (.int .i64 x)).setIfInBounds 5 (.int .i64 x)).setIfInBounds 50 (.int .i64 x)).setIfInBounds 51 (.bool (x != 0))):=⟨_,rfl⟩;rw[<-B]
  have J:T.getD 51 undef=.bool (x != 0):=by rw[B,ky,if_pos ⟨rfl,by simp; omega⟩]
  have t5:T.getD 5 undef=.int .i64 x:=by rw[B,ky,if_neg (by simp),ky,if_neg (by simp),ky,if_pos ⟨rfl,by simp; omega⟩]
  have t2:T.getD 2 undef=.pointer (some ⟨rb,0,none⟩):=by rw[B,ky,if_neg (by simp),ky,if_neg (by simp),ky,if_neg (by simp),ky,if_neg (by simp),h2]
  have tsz:78<=T.size:=by rw[B]; simpa using hsz
  clear B
  by_cases Y:x=0
  ·have I:Act.eval {tmps:=T,defers:=[]} (.tmp 51)=.bool false:=J.trans (by simp[Y]);refine wpIn_cond_false I (wpIn_skip ?_);simp only[Exit.inBlock,ownPostK];exact⟨KeepsOthers.refl _,Below.refl _ _,fun y hy=>(dl.1 hy).elim (E y) (fun h=>by rw[dq] at h; rw[h,Y]),hbel⟩
  ·have I:Act.eval {tmps:=T,defers:=[]} (.tmp 51)=.bool true:=J.trans (by simp[Y]);refine wpIn_cond_true I (wpIn_seq (wpIn_region ?_));rw[show ∀o p:Oper,List.range (#[o,p]:Array Oper).size=[0,1] from fun _ _=>rfl,wpOpsIn_cons]
   have e5:(execOp (Act.eval {tmps:=T,defers:=[]}) {dst:=some 52,op:=.move (.tmp 5),type:=38,pos:=r,after:=#[],guard:=none}).run Tryz.prog W=.ok (.value (.int .i64 x)) W:=by
    show Result.ok (Next.value (T.getD 5 undef)) W=_;rw[t5]
   refine Gv (d:=52) (u:=.int .i64 x) (w':=W) X rfl rfl rfl (by simp) e5 ?_;rw[wpOpsIn_cons];have hW:W.heap[rb]?=some (.cells #[v0] e0 (0,0)):=(hbel.block rb R).trans U
   letI:Ghost:=(Gk (fun _=>False) [] (none))
   have hst:=zp (P:=Tryz.prog) (w:=W) (t:=38) (u:=.int .i64 x) (n:=1) (b:=rb) (o:=0) (by kernel_rfl) rfl hW (by simp) (by simp[Value.cells,Value.oneCell'])
   have M:(storeVar 38 ⟨rb,0,none⟩ (.int .i64 x)).run Tryz.prog W=.ok () (W.setRow rb #[.int .i64 x]):=by simpa[Value.cells] using hst
   have Z:(T.setIfInBounds 52 (.int .i64 x)).getD 52 undef=.int .i64 x:=by rw[ky,if_pos ⟨rfl,by omega⟩]
   have t2':(T.setIfInBounds 52 (.int .i64 x)).getD 2 undef=.pointer (some ⟨rb,0,none⟩):=by rw[ky,if_neg (by simp),t2]
   have e6:(execOp (Act.eval {tmps:=T.setIfInBounds 52 (.int .i64 x),defers:=[]}) {dst:=none,op:=.store 38 (.tmp 2) (.tmp 52),type:=0,pos:=r,after:=#[{on:=0,ground:=.data},{on:=0,ground:=.phase}],guard:=none}).run Tryz.prog W=.ok .skip (W.setRow rb #[.int .i64 x]):=by
    show((do Instr.storeAt 38 ((T.setIfInBounds 52 (.int .i64 x)).getD 2 undef) ((T.setIfInBounds 52 (.int .i64 x)).getD 52 undef); pure .skip):Sem Next).run Tryz.prog W=_;rw[Z,t2'];simp[Instr.storeAt,Instr.sureAddr,M]
   refine af6 (w':=W.setRow rb #[.int .i64 x]) X rfl rfl rfl (by simp) e6 ?_;refine wpIn_ret ?_;simp only[Exit.inBlock,ownPostK];refine⟨⟨by simp,fun k o A ho=>?_⟩,trivial,i,x,rfl,E,Y,hbel.os,hbel.tape,hbel.output,by simpa using hbel.size,fun k A G=>(setRow_other _ _ _ _ G).trans (hbel.block k A),⟨_,setRow_heap _ _ _ _ _ _ hW⟩⟩
   by_cases V:k=rb
   ·subst V; rw[hW] at A; cases A; simp[Obj.isCells] at ho
   ·rw[setRow_other _ _ _ _ V]; exact A
 case z =>
  intro D xs W hD hS ⟨E,hbel⟩ H;subst hS;exact z D W E hbel hD H
 case m =>
  intro D c i W hD hS ⟨hc,j,x,h3,h4,h5,C⟩ H;subst hc;refine wpIn_ret (m D W x ?_ C hD H);obtain⟨t,rfl⟩:=hS;rw[h3,dp,List.find?_append]
  have:List.find? (fun e=>e != 0) j=none:=eD.2 fun y hy=>by simp[h4 y hy]
  rw[this];simp[h5]
end Go.Proofs.ZzM
end

noncomputable section
set_option maxRecDepth 100000
namespace Go.Proofs.ZzM
open Go Go.Am Go.RowKit
noncomputable def fstC:Code->Code
 |.seq a _=>a
 |c=>c
noncomputable def sndC:Code->Code
 |.seq _ b=>b
 |c=>c
noncomputable def aip:Nat->Code->Code
 |0,c=>fstC c
 |n+1,c=>aip n (sndC c)
noncomputable def al0:Nat->Code->Code
 |0,c=>c
 |n+1,c=>al0 n (sndC c)
noncomputable def ckB:Code:=Tryz.f72.body.getD .skip
noncomputable def ckA5:Code:=fstC (al0 5 ckB |> fstC)
noncomputable def ckRF:Code:=sndC (al0 5 ckB |> fstC)
noncomputable def VM:Code:=sndC (al0 5 ckB)
noncomputable def ckPre:Code:=.seq (aip 0 ckB) (.seq (aip 1 ckB) (.seq (aip 2 ckB) (.seq (aip 3 ckB) (.seq (aip 4 ckB) ckA5))))
def anh:Tryz.f72.body=some (.seq (aip 0 ckB) (.seq (aip 1 ckB) (.seq (aip 2 ckB) (.seq (aip 3 ckB) (.seq (aip 4 ckB) (.seq (.seq ckA5 ckRF) VM)))))):=by kernel_rfl
noncomputable def ck_pt:BY (Nat×ă):=[(136,Gs),(143,xb),(141,vq),(142,zE)]
noncomputable def ckE (ρ:Type):Env ρ:=Ú ck_pt []
abbrev ckR:Type:=Int ⊕ (BY AV×BY Blk)
noncomputable def ajK (S:St):BE Int:=match vg Tryz.prog Tryz.f72 S with
 |some v=>anM [tI] S.h v
 |none=>none
noncomputable def ckK (e:Exit) (S:St):BE ckR:=match e with
 |.ret=>match ajK S with
  |some n=>some (.inl n)
  |none=>none
 |.normal=>match decide (78<=S.t.length) with
  |true=>some (.inr ([lk S.t 1,lk S.t 2,lk S.t 48],S.h))
  |false=>none
 |_=>none
noncomputable def ckH (x:b6) (s:kw) (n:Int):BY Blk :=
 [.cells (flat È x),.cells [.int .i64 n],.cells (flat È x),.cells [.mp tI Ö s],.cells [.fn (.func 204) [] [.box 3 0]]]
noncomputable def ckM (x:b6):BE ckR :=
 Æ (Κ x.1 (0:Int) (1000000:Int)) fun r1=>ifb (!r1) (some (.inl 1)) (ifb (igt (Õ x.2.1) (12:Int)) (some (.inl 2)) (ifb (igt (Õ x.2.2.1) (40:Int)) (some (.inl 2)) (ifb (igt (Õ x.2.2.2.1) (12:Int)) (some (.inl 2)) (ifb (igt (Õ x.2.2.2.2.1) (40:Int)) (some (.inl 2)) (ifb (igt (Õ x.2.2.2.2.2) (10:Int)) (some (.inl 2))
  (Æ (Ż x) fun r2=>ifb (ine r2 (0:Int)) (some (.inl r2)) (Æ (Ń x) fun a=>some (.inr ([.box 0 0,.box 1 0,.fn (.func 207) [] [.box 2 0,.box 4 0,.box 3 0]],ckH x a 0)))))))))
def ck_pre (x:b6):goC (ckE ckR) (ť (ckE ckR) 10) 72 [] 0 0 ckPre {t:=adq [È] x++List.replicate 77 .any,h:=[]} ckK=ckM x:=by kernel_rfl
noncomputable def al8 (ρ:Type):Env ρ:={ckE ρ with inl:=fun _=>false}
noncomputable def ckS (x:b6):BE Int :=
 Æ (sh x) fun c=>ifb (igt (Õ c) (59:Int)) (some (2:Int)) (ck ((2:Int)*(Õ x.2.1)) fun n6=>ck ((Õ c)-(Õ x.2.1)) fun f=>ck ((2:Int)*f) fun e=>ck (n6+e) fun d=>ck ((2:Int)*(Õ x.2.2.2.2.1)) fun b=>ck (d+b) fun a=>ifb (igt a (300:Int)) (some (2:Int)) (some (0:Int)))
noncomputable def ckK2 (e:Exit) (S:St):BE Int:=match e with
 |.ret=>match lk S.t 2 with
  |.box 1 0=>match lkB S.h 1 with
   |.cells [.int .i64 n]=>some n
   |_=>none
  |_=>none
 |_=>none
def ck_suf (x:b6) (s:kw):goC (al8 Int) (ť (al8 Int) 10) 72 [] 0 0 VM {t:=[.any,.box 0 0,.box 1 0]++List.replicate 75 .any,h:=ckH x s 0} ckK2=ckS x:=by kernel_rfl
def al7 (x:b6):Ω x=match ckM x with
 |none=>none
 |some (.inl n)=>some n
 |some (.inr _)=>Æ (Ń x) fun s=>ZK (po x s) some (ckS x):=by
 unfold Ω QV ckM ckS
 cases Κ x.1 (0:Int) (1000000:Int) with
 |none=>rfl
 |some r1 =>
 cases r1 with
 |false=>rfl
 |true =>
 simp only[Æ,ifb,dU]
 cases igt (Õ x.2.1) (12:Int) with
 |true=>rfl
 |false =>
 cases igt (Õ x.2.2.1) (40:Int) with
 |true=>rfl
 |false =>
 cases igt (Õ x.2.2.2.1) (12:Int) with
 |true=>rfl
 |false =>
 cases igt (Õ x.2.2.2.2.1) (40:Int) with
 |true=>rfl
 |false =>
 cases igt (Õ x.2.2.2.2.2) (10:Int) with
 |true=>rfl
 |false =>
 cases Ż x with
 |none=>rfl
 |some r2 =>
 simp only
 cases ine r2 (0:Int) with
 |true=>rfl
 |false =>
 cases Ń x with
 |none=>rfl
 |some a=>rfl
def aom {x:b6} {q:BY AV×BY Blk} (h:ckM x=some (.inr q)):((x.2.2.1:BY bl).length<=1000/\(x.2.2.2.1:BY so).length<=1000/\(x.2.2.2.2.1:BY i4).length<=1000/\(x.2.2.2.2.2:BY bl).length<=1000) /\
 ∃s,Ń x=some s/\q=([.box 0 0,.box 1 0,.fn (.func 207) [] [.box 2 0,.box 4 0,.box 3 0]],ckH x s 0):=by
 unfold ckM at h
 cases h0:Κ x.1 (0:Int) (1000000:Int) with
 |none=>rw[h0] at h; cases h
 |some r1 =>
 rw[h0] at h
 cases r1 with
 |false=>cases h
 |true =>
 simp only[Æ,ifb,dU] at h
 cases g:igt (Õ x.2.1) (12:Int) with
 |true=>rw[g] at h; cases h
 |false =>
 rw[g] at h
 cases h2:igt (Õ x.2.2.1) (40:Int) with
 |true=>rw[h2] at h; cases h
 |false =>
 rw[h2] at h
 cases c:igt (Õ x.2.2.2.1) (12:Int) with
 |true=>rw[c] at h; cases h
 |false =>
 rw[c] at h
 cases b:igt (Õ x.2.2.2.2.1) (40:Int) with
 |true=>rw[b] at h; cases h
 |false =>
 rw[b] at h
 cases a:igt (Õ x.2.2.2.2.2) (10:Int) with
 |true=>rw[a] at h; cases h
 |false =>
 rw[a] at h
 cases f:Ż x with
 |none=>rw[f] at h; cases h
 |some r2 =>
 rw[f] at h;simp only at h
 cases e:ine r2 (0:Int) with
 |true=>rw[e] at h; cases h
 |false =>
 rw[e] at h
 cases d:Ń x with
 |none=>rw[d] at h; cases h
 |some i =>
 rw[d] at h
 have lt:∀{α:Type} (l:BY α) (n:Nat),igt (Õ l) (n:Int)=false->l.length<=n:=by
  intro α l n h;unfold Õ at h;rw[OA] at h;simp only[igt,gt_iff_lt,decide_eq_false_iff_not] at h;omega
 simp only[Option.some.injEq,Sum.inr.injEq] at h;exact⟨⟨by have:=lt x.2.2.1 40 h2; omega,by have:=lt x.2.2.2.1 12 c; omega,by have:=lt x.2.2.2.2.1 40 b; omega,by have:=lt x.2.2.2.2.2 10 a; omega⟩,i,rfl,h.symm⟩
def GB {α β:Type} {f:α->BE β}:∀{l:BY α} {m:BY β},OH f l=some m->m.length=l.length/\∀(i:Nat) (a:α),l[i]?=some a->∃b,m[i]?=some b/\f a=some b
 |[],m,h=>by cases h; exact⟨rfl,fun i a ha=>by simp at ha⟩
 |a::l,m,h=>by
  unfold OH at h
  cases ha:f a with
  |none=>rw[ha] at h; cases h
  |some b =>
   rw[ha] at h
   cases d:OH f l with
   |none=>rw[d] at h; cases h
   |some j =>
    rw[d] at h;cases h;obtain⟨g,h2⟩:=GB d;refine⟨by simp[g],fun i c e=>?_⟩
    cases i with
    |zero=>simp at e; subst e; exact⟨b,by simp,ha⟩
    |succ i=>simpa using h2 i c (by simpa using e)
def Nc (l:BY Int):upE (fun j=>l[j]?.getD 0) l.length=l:=by
 unfold upE;refine List.ext_getElem (by simp) fun i a h2=>?_;simp at a;simp[a]
def CR.below {a:Nat} {w W:World} {av:Nat->Prop} (hb:Below a w W) (d:w.heap.size<=a) {t:Ty} {x:Val t} {vs:BY Value} (h:CR w av t x vs):CR W av t x vs :=
 h.keep fun b c ha=>⟨hb.block b (dC c d),ha⟩
def NY {w:World} {av:Nat->Prop} {xs:BY (Int×Int)} {v:Value} (h:CR w av (.slice Ã) xs [v]):∃base cap b off,v=.slice base xs.length cap/\(0<xs.length->base=some ⟨b,off,none⟩/\b<w.heap.size) /\
 ∀j,j<xs.length->w.cell? ⟨b,off+j*2,none⟩=some (.int .i64 (xs[j]?.getD (0,0)).1)/\w.cell? ⟨b,off+j*2+1,none⟩=some (.int .i64 (xs[j]?.getD (0,0)).2):=by
 obtain⟨base,cap,e,r,a⟩:=h;cases e;rcases a with a|⟨b,off,hb,f,d,a⟩
 ·refine⟨base,cap,0,0,rfl,fun h=>?_,fun j c=>?_⟩
  ·rw[show xs=[] from a] at h; simp at h
  ·rw[show xs=[] from a] at c; simp at c
 ·refine⟨base,cap,b,off,rfl,fun _=>⟨hb,d⟩,fun j c=>?_⟩;obtain⟨us,k,h2⟩:=a j xs[j] (df c);obtain⟨u1,u2,o,i,g⟩:=k;have m:u1=[.int .i64 xs[j].1]:=i;have l:u2=[.int .i64 xs[j].2]:=g;subst m l o;have s:(Ã).size=2:=rfl;rw[s] at h2;have q:=h2 0 _ rfl;have p:=h2 1 _ rfl;rw[df c];exact⟨by simpa using q,by simpa[Nat.add_assoc] using p⟩
end Go.Proofs.ZzM
end

noncomputable section
set_option maxRecDepth 100000
namespace Go.Proofs.ZzM
open Go Go.Am Go.RowKit
section
variable {w W W':World}
abbrev noG:Nat->Prop:=fun _=>False
def Yn (w:World) (n:Int):mh w noG tI n (.int .i64 n):=⟨[.int .i64 n],rfl,rfl⟩
def anZ {a:Nat} {b:Value} {e:TypeId} {s:kw} (h:w.heap[a]?=some (.cells #[b] e (0,0))) (c:CR w noG (.map tI Ö) s [b]):mh w noG (.ptr (.map tI Ö)) s (.pointer (some ⟨a,0,none⟩)):=by
 letI:Ghost:=(Gk (fun _=>False) [] (none))
 exact⟨[.pointer (some ⟨a,0,none⟩)],⟨a,0,[b],rfl,id,ĥ h,c,CellsAt.of_cells h⟩,rfl⟩
def anL {y:Int} {u:Value} (h:RR w noG [tI] y u):u=.int .i64 y:=by
 obtain⟨us,a,rfl⟩:=h;have:us=[.int .i64 y]:=a;rw[this]; rfl
def alO (e:∀b,b<W.heap.size->W'.heap[b]?=W.heap[b]?) (h2:W.heap.size<=W'.heap.size) (d:W'.os=W.os) (c:W'.tape=W.tape) (a:W'.output=W.output):W.grownBy W' none :=
 ⟨d,c,a,h2,fun b hb _=>e b hb⟩
def YM {f:Nat} {p:ă} (d:jq Tryz.prog f p) (a:p.rs=[tI]) {x:Val (tyL p.ts)} {y:Int} (c:p.F x=some (a▸(show Val (tyL [tI]) from y))) {vals:BY Value} (ha:AL W noG p.ts x vals) :
 CallsIn Fence.wide 0 Tryz.prog f vals.toArray W fun e b=>e=.returned (.int .i64 y)/\W.grownBy b none:=by
 obtain⟨ts,rs,F⟩:=p;dsimp only at a c ha x;subst a;refine(d noG x y c W vals (fun _ h=>h.elim) ha).2.mono fun e w' ⟨u,h0,l,h2,k,j,i,g⟩=>⟨?_,alO h2 k j i g⟩;rw[h0,anL l]
def Zi {s:kw} {a b y:Int} (i:ń a b s=some y) {c:Nat} {f:Value} {e:TypeId} (h:W.heap[c]?=some (.cells #[f] e (0,0))) (g:CR W noG (.map tI Ö) s [f]) :
 CallsIn Fence.wide 0 Tryz.prog 204 #[.int .i64 a,.int .i64 b,.pointer (some ⟨c,0,none⟩)] W fun e d=>e=.returned (.int .i64 y)/\W.grownBy d none :=
 YM adI rfl (x:=(a,b,s)) (y:=y) i (vals:=[.int .i64 a,.int .i64 b,.pointer (some ⟨c,0,none⟩)]) ⟨_,_,rfl,Yn _ _,_,_,rfl,Yn _ _,_,rfl,anZ h g⟩
def aiC {a:Value} {s:kw} (b:CR W noG (.map tI Ö) s [a]):mh W noG (.map tI Ö) s a:=⟨[a],b,rfl⟩
def aft {x:b6} {cs:Array Value} (hb:CR W noG È x cs.toList):mh W noG È x (.agg cs):=⟨cs.toList,hb,by show Value.agg cs=Value.agg cs.toList.toArray; rw[Array.toArray_toList]⟩
def aiM {x:b6} {s:kw} {i y:Int} (d:Χ x s i=some y) {a:Value} {cs:Array Value} (hb:CR W noG È x cs.toList) (c:CR W noG (.map tI Ö) s [a]) :
 CallsIn Fence.wide 0 Tryz.prog 208 #[.agg cs,a,.int .i64 i] W fun e b=>e=.returned (.int .i64 y)/\W.grownBy b none :=
 YM YU rfl (x:=(x,s,i)) (y:=y) d (vals:=[.agg cs,a,.int .i64 i]) ⟨_,_,rfl,aft hb,_,_,rfl,aiC c,_,rfl,Yn _ _⟩
def abH {x:b6} {s:kw} {i y:Int} (d:ň x s i=some y) {a:Value} {cs:Array Value} (hb:CR W noG È x cs.toList) (c:CR W noG (.map tI Ö) s [a]) :
 CallsIn Fence.wide 0 Tryz.prog 209 #[.agg cs,a,.int .i64 i] W fun e b=>e=.returned (.int .i64 y)/\W.grownBy b none :=
 YM M7 rfl (x:=(x,s,i)) (y:=y) d (vals:=[.agg cs,a,.int .i64 i]) ⟨_,_,rfl,aft hb,_,_,rfl,aiC c,_,rfl,Yn _ _⟩
end
def qU {w:World} {av:Nat->Prop} {t:Ty} {xs:BY (Val t)} {vs:BY Value} (h:CR w av (.slice t) xs vs):∃base cap,vs=[.slice base xs.length cap]:=by
 obtain⟨base,cap,e,_⟩:=h;exact⟨base,cap,e⟩
def ale {x:b6} {s:kw} {E A z D:BY Int} (h1:OH (fun u=>ń u.1 u.2 s) (x.2.2.1:BY (Int×Int))=some E) (h2:OH (fun i=>Χ x s i) (zj (x.2.2.2.1:BY so).length)=some A)
 (h3:OH (fun i=>ň x s i) (zj (x.2.2.2.2.1:BY i4).length)=some z) (h4:OH (fun u=>ń u.1 u.2 s) (x.2.2.2.2.2:BY (Int×Int))=some D)
 (o:(x.2.2.1:BY bl).length<=1000/\(x.2.2.2.1:BY so).length<=1000/\(x.2.2.2.2.1:BY i4).length<=1000/\(x.2.2.2.2.2:BY bl).length<=1000)
 {w:World} {bb tb Q:Nat} {te te2 te3:TypeId} {cb:Array Value} {mv:Value} (Z:w.heap[bb]?=some (.cells cb te (0,0))) (M:CR w noG È x cb.toList) (Y:w.heap[tb]?=some (.cells #[.func (.func 204) #[] #[.pointer (some ⟨Q,0,none⟩)]] te2 (0,0)))
 (B:w.heap[Q]?=some (.cells #[mv] te3 (0,0))) (C:CR w noG (.map tI Ö) s [mv]) :
 SeqStopsK Fence.wide 1 Tryz.prog 207 #[.pointer (some ⟨bb,0,none⟩),.pointer (some ⟨tb,0,none⟩),.pointer (some ⟨Q,0,none⟩)] (fun x:Int=>#[.int .i64 x]) (Below w.heap.size) (fun xs=>xs=E++(A++(z++D))) (fun m=>m <+: (E++(A++(z++D)))) (E++(A++(z++D))).length w:=by
 intro l J Jx W d hJ hJx hY h0;obtain⟨fl,r0,e0,hfl,hr0⟩:=id M;obtain⟨ga,r1,e1,hga,hr1⟩:=hr0;obtain⟨us,r2,e2,G,hr2⟩:=hr1;obtain⟨lo,r3,e3,hlo,hr3⟩:=hr2;obtain⟨co,ko,e4,hco,I⟩:=hr3;obtain⟨f1,f2,e5,hf1,hf2⟩:=hfl;have e6:f1=[.int .i64 x.1.1]:=hf1;have e7:f2=[.int .i64 x.1.2]:=hf2;obtain⟨gab,gac,e8⟩:=qU hga;obtain⟨U,T,e9⟩:=qU hlo;obtain⟨cob,coc,e10⟩:=qU hco;obtain⟨usb0,usc0,O⟩:=qU G;obtain⟨kob0,koc0,N⟩:=qU I;rw[O] at G;rw[N] at I;obtain⟨S,R,ub,uo,e13,H,hU⟩:=NY G;obtain⟨X,V,kb,kof,e14,K,hK⟩:=NY I;rw[e13] at O;rw[e14] at N
 have L:cb=#[.int .i64 x.1.1,.int .i64 x.1.2,.slice gab (x.2.1:BY nj).length gac,.slice S (x.2.2.1:BY bl).length R,.slice U (x.2.2.2.1:BY so).length T,.slice cob (x.2.2.2.2.1:BY i4).length coc,.slice X (x.2.2.2.2.2:BY bl).length V]:=by
  rw[<-eV,e0,e1,e2,e3,e4,e5,e6,e7,e8,e9,e10,O,N];rfl
 obtain⟨g1,q1⟩:=GB h1;obtain⟨g2,q2⟩:=GB h2;obtain⟨g3,q3⟩:=GB h3;obtain⟨g4,q4⟩:=GB h4
 have gl2:A.length=(x.2.2.2.1:BY so).length:=by rw[g2]; simp[zj]
 have gl3:z.length=(x.2.2.2.2.1:BY i4).length:=by rw[g3]; simp[zj]
 have up1:upE (fun j=>E[j]?.getD 0) (x.2.2.1:BY bl).length=E:=by rw[<-g1]; exact Nc E
 have up2:upE (fun j=>A[j]?.getD 0) (x.2.2.2.1:BY so).length=A:=by rw[<-gl2]; exact Nc A
 have up3:upE (fun j=>z[j]?.getD 0) (x.2.2.2.2.1:BY i4).length=z:=by rw[<-gl3]; exact Nc z
 have up4:upE (fun j=>D[j]?.getD 0) (x.2.2.2.2.2:BY bl).length=D:=by rw[<-g4]; exact Nc D
 have at1:∀{xs:BY (Int×Int)} {q:BY Int},(∀(i:Nat) (a:Int×Int),xs[i]?=some a->∃b,q[i]?=some b/\ń a.1 a.2 s=some b)->∀j,j<xs.length->ń (xs[j]?.getD (0,0)).1 (xs[j]?.getD (0,0)).2 s=some (q[j]?.getD 0):=by
  intro xs q hq j k;obtain⟨b,hb,hf⟩:=hq j xs[j] (df k);rw[df k,hb];exact hf
 have at2:∀{n:Nat} {q:BY Int} {f:Int->BE Int},(∀(i:Nat) (a:Int),(zj n)[i]?=some a->∃b,q[i]?=some b/\f a=some b)->∀j,j<n->f (j:Int)=some (q[j]?.getD 0):=by
  intro n q f hq j k;obtain⟨b,hb,hf⟩:=hq j j (by simp[zj,k]);rw[hb]; exact hf
 have c:∀{W':World},Below w.heap.size W W'->Below w.heap.size w W':=fun h=>d.trans h;have g:∀{W':World} {p:Addr} {v:Value},Below w.heap.size w W'->w.cell? p=some v->p.block<w.heap.size->W'.cell? p=some v:=fun {W'} {p} {v} h hc hp=>(h.cell (p:=p) hp).trans hc;have lb:=ĥ Z;have lt:=ĥ Y;have q:=ĥ B
 have:=alq te 1 (by omega) l w.heap.size bb tb Q (.int .i64 x.1.1) (.int .i64 x.1.2) (.slice gab (x.2.1:BY nj).length gac) mv lb lt q
  ub uo (x.2.2.1:BY bl).length R kb kof (x.2.2.2.2.2:BY bl).length V S X U cob (x.2.2.2.1:BY so).length T (x.2.2.2.2.1:BY i4).length coc H K
  (fun j=>(x.2.2.1:BY (Int×Int))[j]?.getD (0,0)) (fun j=>(x.2.2.2.2.2:BY (Int×Int))[j]?.getD (0,0)) (fun j=>E[j]?.getD 0) (fun j=>A[j]?.getD 0) (fun j=>z[j]?.getD 0) (fun j=>D[j]?.getD 0)
  o.1 o.2.1 o.2.2.1 o.2.2.2 W ((d.block bb lb).trans (by rw[Z,L])) (g d (by simp[World.cell?,Y]) lt) (g d (by simp[World.cell?,B]) q)
  (fun j k=>⟨g d (hU j k).1 (H (by omega)).2,g d (hU j k).2 (H (by omega)).2⟩) (fun j k=>⟨g d (hK j k).1 (K (by omega)).2,g d (hK j k).2 (K (by omega)).2⟩)
  (fun j k W' t=>Zi (at1 q1 j k) (((c t).block Q q).trans B) (CR.below (c t) (dh _) C))
  (fun j k W' t=>Zi (at1 q4 j k) (((c t).block Q q).trans B) (CR.below (c t) (dh _) C))
  (fun j k W' t=>aiM (at2 q2 j k) (by have:=CR.below (c t) (dh _) M; rwa [L] at this) (CR.below (c t) (dh _) C))
  (fun j k W' t=>abH (at2 q3 j k) (by have:=CR.below (c t) (dh _) M; rwa [L] at this) (CR.below (c t) (dh _) C))
  J Jx (fun m W1 W2 k hg=>hJ m W1 W2 none k hg (fun r e=>by cases e)) (fun m W1 W2 k hg=>hJx m W1 W2 none k hg (fun r e=>by cases e))
  (fun m y W1 k hl=>hY m y W1 k (by simp only[di]; omega)) h0 d.size
 rw[up1,up2,up3,up4] at this;exact this
end Go.Proofs.ZzM
end

noncomputable section
set_option maxRecDepth 100000
namespace Go.Proofs.ZzM
open Go Go.Am Go.RowKit
section
variable [Ghost] {ρ:Type} {ν:Nat->Value} {w:World}
def peel (k:Ghost.Q=none) {E:Env ρ} {call:BY Nat->Bool->Nat->BY AV->BY Blk->(AV->BY Blk->BE ρ)->BE ρ} {L:Nat} (s:nh E L call) (t:wP E L call) (p:E.joins=fun _ _ _ _=>none) {fid:Nat} {path:BY Nat} (m:path.length+2=L) {x y c:Code} {bid n:Nat} {S:St} {K:Exit->St->BE ρ} {r:ρ} {a:Act} {Q:Exit->Act->World->Prop}
 (q:∀z∈ß bid x,uG E path fid z.1 z.2) (e:goC E call fid path 0 bid (.seq x y) S K=some r) (H:Sim ν S a w)
 (o:∀ν' b d w',Sim ν' b d w'->Ev 0 ν S.h w ν' b.h w'->goC E call fid path 0 bid y b K=some r->c.wpIn Fence.wide n E.P Q d w')
 (i:∀ν' b d w' e,e≠.normal->Sim ν' b d w'->Ev 0 ν S.h w ν' b.h w'->K e b=some r->Q e d w'):(Code.seq x c).wpIn Fence.wide n E.P Q a w:=by
 simp only[goC,p] at e;have j:=ww s t m x bid S _ ν a w q e H (d9 _);rw[afa k] at j;refine wpIn_seq (wpIn_wide.2 (wpIn_wide.1 (wpIn_mono j fun u d w' ha=>?_)));obtain⟨ν',b,g,h2,A,v,f⟩:=ha
 cases u with
 |normal=>exact o ν' b d w' g h2 f
 |exit id=>exact i ν' b d w' _ (by simp) g h2 f
 |goto l=>exact i ν' b d w' _ (by simp) g h2 f
 |ret=>exact i ν' b d w' _ (by simp) g h2 f
 |panic ch=>exact i ν' b d w' _ (by simp) g h2 f
 |outgrown=>exact i ν' b d w' _ (by simp) g h2 f
end
def ahU {T:Array Value} {rb:Nat} {n:Int} {e:TypeId} {W:World} (h2:T.getD 2 undef=.pointer (some ⟨rb,0,none⟩)) (f:W.heap[rb]?=some (.cells #[.int .i64 n] e (0,0))):(results Tryz.f72 T).run Tryz.prog W=.ok (.int .i64 n) W:=by
 letI:Ghost:=(Gk (fun _=>False) [] (none))
 have d:(loadVar 38 ⟨rb,0,none⟩).run Tryz.prog W=.ok (.int .i64 n) W:=by
  have:=run_loadVar (P:=Tryz.prog) (w:=W) (t:=38) (agg:=false) (n:=1) (by kernel_rfl) (us:=[.int .i64 n]) rfl (fun _=>rfl) (a:=⟨rb,0,none⟩) (fun j v b=>by
   have:=CellsAt.of_cells f j v (by simpa using b)
   cases j with
   |zero=>simpa[Addr.add] using this
   |succ j=>simp at b)
  exact this
 have c:Tryz.f72.results=#[.cell 2 38]:=by kernel_rfl
 unfold results;rw[c,Array.mapM_eq_mapM_toList];simp only[Sem.run_bind,Sem.run_map,List.mapM_cons,List.mapM_nil,h2,asAddr,Sem.run_pure,Result.andThen_ok,d];rfl
@[reducible] def gck (G:Nat->Prop) (M:Nat):Ghost:=(Gh G).re G [] none M
def aos [Ghost] {ν:Nat->Value} {h:BY Blk} {w:World} {x:b6} {us:BY Value} (a:Ĕ (VRc ν h w) (flat È x) us):CR w noG È x us:=by
 have e:Û È (flat È x)=some x:=rfl;have h2:Ĕ (VRs w (Av ν h)) (flat È x) us:=a.mono fun c u b=>b.1.data;exact CR.mono (fun _ d=>d.elim) (Ģ e h2)
def Ex (G:Nat->Prop) (y:Int) (w:World) (e:Ending) (w':World):Prop :=
 ∃u,e=.returned u/\RR w' G [tI] y u/\(∀b,b<w.heap.size->w'.heap[b]?=w.heap[b]?)/\w.heap.size<=w'.heap.size/\w'.os=w.os/\w'.tape=w.tape/\w'.output=w.output
def afh {G:Nat->Prop} {y:Int} {w0 w:World} {a:Act} {ms:BY Nat} {rb:Nat} {e:TypeId} (hd:a.defers=ms.map mk1) (q:ms.Nodup) (i:∀k∈ms,w.heap[k]?=some (.deferred (some []))/\w0.heap.size<=k) (h2:a.tmps.getD 2 undef=.pointer (some ⟨rb,0,none⟩)) (g:w.heap[rb]?=some (.cells #[.int .i64 y] e (0,0)))
 (hb:∀b,b<w0.heap.size->w.heap[b]?=w0.heap[b]?) (c:w0.heap.size<=w.heap.size) (v:w.os=w0.os) (u:w.tape=w0.tape) (t:w.output=w0.output):LeavesInM Fence.wide 2 Tryz.prog Tryz.f72 a.tmps (Ex G y w0) a.defers .returning w:=by
 rw[hd]
 have d:rb∉ms:=fun h=>by rw[(i rb h).1] at g; cases g
 refine ur ms w q (fun k s=>(i k s).1) fun w2 p o m l j=>?_;exact⟨.int .i64 y,ahU h2 ((j rb d).trans g),.int .i64 y,rfl,⟨[.int .i64 y],rfl,rfl⟩,fun b f=>(j b fun r=>by have:=(i b r).2; omega).trans (hb b f),by rw[p]; exact c,o.trans v,m.trans u,l.trans t⟩
def aon (S:St):ckK .ret S=(ajK S).map .inl:=by
 unfold ckK
 cases ajK S<;>rfl
def agG (S:St):ckK .normal S=if decide (78<=S.t.length)=true then some (.inr ([lk S.t 1,lk S.t 2,lk S.t 48],S.h)) else none:=by
 unfold ckK
 cases decide (78<=S.t.length)<;>rfl
def l8 [Ghost] {ρ:Type} {E:Env ρ} (h0:E.loops=lO []) (c:E.ranges=fun _ _ _ _ _ _ _=>none) {path:BY Nat} {fid bid:Nat} {b:LI}:uG E path fid bid b:=by
 cases b with
 |lp b=>exact fun m S K r ν a w e=>by rw[h0] at e; cases e
 |rf g ps x y=>exact fun m S K r ν a w e=>by rw[c] at e; cases e
def ang {ρ:Type} (E:Env ρ) (e:E.P.follows .mixedOrders=true) (a:∀[Ghost],lz E->Jh E) (h0:E.loops=lO []) (g:E.ranges=fun _ _ _ _ _ _ _=>none) (d:E.yld=none) [Ghost]:nh E 2 (ť E 10) :=
 sl a (fun L call b=>ob e L call b) (fun n h b _ _ path f fn c _ _ _ z _=>l8 h0 g) 10 (dh _) (jC d)
noncomputable def anQ:Code->String
 | .region _ ops _ => ((ops[0]?).map fun o => o.pos).getD ""
 | _ => ""
noncomputable def rfA:Code->Code
 |.block _ (.rangeFunc _ _ a _)=>a
 |_=>.skip
noncomputable def rfB:Code->Code
 |.block _ (.rangeFunc _ _ _ (.block _ (.seq a _)))=>a
 |_=>.skip
noncomputable def rfC:Code->Code
 |.block _ (.rangeFunc _ _ _ (.block _ (.seq _ (.cond _ (.seq a _) _))))=>a
 |_=>.skip
def aol:ckRF=Code.block 0 (Code.rangeFunc (.tmp 48) #[49] (aej (anQ (rfA ckRF))) (amU (anQ (rfB ckRF)) (anQ (rfC ckRF)))):=by kernel_rfl
def anf:∀e∈ck_pt,jq Tryz.prog e.1 e.2:=Á RU (Á FU (Á CE (Á RV Å)))
def ajL {e:Exit} {S:St} {n:Int} (h:ckK2 e S=some n):e=.ret/\lk S.t 2=.box 1 0/\lkB S.h 1=.cells [.int .i64 n]:=by
 unfold ckK2 at h
 split at h
 ·split at h
  ·rename_i h2
   split at h
   ·rename_i a;cases h;exact⟨rfl,h2,a⟩
   ·cases h
  ·cases h
 ·cases h
def abn [Ghost] {ν:Nat->Value} {h:BY Blk} {w:World} {n:Int} {id:Nat} (H:HR ν h w) (d:lkB h id=.cells [.int .i64 n]):∃b e,ν id=.pointer (some ⟨b,0,none⟩)/\w.heap[b]?=some (.cells #[.int .i64 n] e (0,0)):=by
 have a:=H.blk id;rw[d] at a;obtain⟨b,c,e,k,h2,j⟩:=a;obtain⟨u,i,g⟩:=j.one;have f:u=.int .i64 n:=g.1;refine⟨b,e,k,?_⟩;rw[h2]
 have:c=#[.int .i64 n]:=by rw[<-eV,i,f]
 rw[this]
def K3 [Ghost] {ν:Nat->Value} {h:BY Blk} {w:World} {id off:Nat} {v:Value} {b:Nat} (a:VR ν h w (.box id off) v) (hb:ν id=.pointer (some ⟨b,0,none⟩)):v=.pointer (some ⟨b,off,none⟩):=by
 obtain⟨cs,e,d,h2,c⟩:=a;rw[hb] at h2;cases h2;exact c
def aok {G:Nat->Prop} {x:b6} {s:kw} {y:Int} (U:ckS x=some y) {ν:Nat->Value} {w0 w6 W:World} {a:Act} (H:@HR (gck G w0.heap.size) ν (ckH x s 0) w6) (hb:Below w6.heap.size w6 W) {ms:BY Nat} (hd:a.defers=ms.map mk1) (T:ms.Nodup) (C:∀k∈ms,W.heap[k]?=some (.deferred (some []))/\w0.heap.size<=k) (p:78<=a.tmps.size)
 (K:@VR (gck G w0.heap.size) ν (ckH x s 0) w6 (.box 0 0) (a.tmps.getD 1 undef)) (t2:@VR (gck G w0.heap.size) ν (ckH x s 0) w6 (.box 1 0) (a.tmps.getD 2 undef))
 (h0:∀b,b<w0.heap.size->w6.heap[b]?=w0.heap[b]?/\¬F3 ν (ckH x s 0) b) (B:w0.heap.size<=w6.heap.size) (q:w6.os=w0.os) (X:w6.tape=w0.tape) (V:w6.output=w0.output) :
 VM.wpIn Fence.wide 2 Tryz.prog (bodyPostM Fence.wide 2 Tryz.prog Tryz.f72 (Ex G y w0)) a W:=by
 have D:∀b,F3 ν (ckH x s 0) b->b<w6.heap.size:=fun b I=>@HR.ltA (gck G w0.heap.size) _ _ _ H b (.inl I)
 have v:∃b,ν 0=.pointer (some ⟨b,0,none⟩)/\a.tmps.getD 1 undef=.pointer (some ⟨b,0,none⟩):=by
  obtain⟨cs,b,_,h2,q⟩:=K;exact⟨b,h2,q⟩
 have u:∃b,ν 1=.pointer (some ⟨b,0,none⟩)/\a.tmps.getD 2 undef=.pointer (some ⟨b,0,none⟩):=by
  obtain⟨cs,b,_,h2,q⟩:=t2;exact⟨b,h2,q⟩
 letI:Ghost:=gck G w0.heap.size
 have H1:HR ν (ckH x s 0) w6:=H;have H2:HR ν (ckH x s 0) W:=(H1.grow (fun b f=>hb.block b f) hb.size hb.os hb.tape hb.output 0).2;have g:∀L call,nh (al8 Int) L call->wP (al8 Int) L call:=ob hmix;have E:(al8 Int).loops=lO []:=rfl;have d:nh (al8 Int) 2 (ť (al8 Int) 10):=ang (al8 Int) hmix (fun {_} _=>FP anf (al8 Int) rfl rfl rfl rfl rfl (Œ rfl) (mV rfl) (jC rfl)) rfl rfl rfl;have law:=ck_suf x s;rw[U] at law
 have A:Sim ν {t:=[.any,.box 0 0,.box 1 0]++List.replicate 75 .any,h:=ckH x s 0} a W:=by
  refine⟨⟨⟨ms,hd.trans (dB _).symm,T,C⟩,fun l I=>(by cases I),d9 _,dE B hb.size⟩,by simpa using p,fun i=>?_,H2⟩;simp only[Vo];rcases i with _|_|_|i
  ·trivial
  ·obtain⟨b,j,c⟩:=v;exact⟨_,b,rfl,j,c⟩
  ·obtain⟨b,j,c⟩:=u;exact⟨_,b,rfl,j,c⟩
  ·trivial
 refine wpIn_wide.2 (wpIn_wide.1 (wpIn_mono (ww d (g _ _ d) rfl VM 0 _ _ ν a W (fun z _=>l8 E rfl) law A (d9 _)) fun e Z w' ha=>?_));obtain⟨ν',S',j,c,_,_,Y⟩:=ha;obtain⟨rfl,S,R⟩:=ajL Y;obtain⟨rb,te,r1,r2⟩:=abn j.heap R;have J:=j.tmps 2;rw[S] at J;have M:=K3 J r1;obtain⟨⟨N,m1,Q,O⟩,_⟩:=j.defers;refine afh (w:=w') (a:=Z) (G:=G) (y:=y) (w0:=w0) (rb:=rb) (m1.trans (dB _)) Q O M r2 (fun b f=>?_) (by have:=c.size; have:=hb.size; omega) (c.os.trans (hb.os.trans q)) (c.tape.trans (hb.tape.trans X)) (c.output.trans (hb.output.trans V));have r:=h0 b f
 have o:b<w6.heap.size:=by omega
 have m:b<W.heap.size:=by have:=hb.size; omega
 exact(c.keep b m r.2).1.trans ((hb.block b o).trans r.1)
set_option maxHeartbeats 2000000 in
def agH (G:Nat->Prop) (x:b6) (y:Int) (r:Ω x=some y) (w:World) (vals:BY Value) (hG:∀b,G b->b<w.heap.size) (hAL:AL w G [È] x vals) :
 (∃fn c,Tryz.prog.funcs[72]?=some fn/\fn.body=some c)/\CallsIn Fence.wide 0 Tryz.prog 72 vals.toArray w (Ex G y w):=by
 rw[al7] at r
 letI:Ghost:=gck G w.heap.size
 have hpt:=anf;have hdraw:∀L call,nh (ckE ckR) L call->wP (ckE ckR) L call:=ob hmix;have h0:(ckE ckR).loops=lO []:=rfl;have m:nh (ckE ckR) 2 (ť (ckE ckR) 10):=ang (ckE ckR) hmix (fun {_} _=>FP hpt (ckE ckR) rfl rfl rfl rfl rfl (Œ rfl) (mV rfl) (jC rfl)) rfl rfl rfl;have hD:=hdraw _ _ m;have H:HR (fun _=>undef) [] w:=⟨fun _=>trivial,fun _ _ _ h=>(by cases h),hG,fun _ _ h=>(by cases h)⟩;have hav:∀b,Av (fun _=>undef) [] b->G b:=fun b hb=>hb.elim (fun⟨_,h,_⟩=>by cases h) id;have C:Ĕ (VR (fun _=>undef) [] w) (adq [È] x) vals:=AL.VR (hAL.mono hav);refine⟨⟨Tryz.f72,_,Tryz.func72,anh⟩,?_⟩
 have hlen:vals.length=1:=by
  have:=C.length;simpa[adq,ajl] using this.symm
 cases hM:ckM x with
 |none=>rw[hM] at r; cases r
 |some r0 =>
 rw[hM] at r;have law:=ck_pre x;rw[hM] at law;refine callsIn_wide.2 (callsIn_wide.1 (callsIn_of_wp_marks (n:=2) Tryz.func72 anh trivial ?_ (R:=Ex G y w)))
 have hS:Sim (fun _=>undef) {t:=adq [È] x++List.replicate 77 .any,h:=[]} {tmps:=vals.toArray++Array.replicate (Tryz.f72.ntmps-vals.toArray.size) undef,defers:=[]} w:=by
  refine⟨⟨⟨[],rfl,gH,fun _ h=>(by cases h)⟩,fun l hl=>(by cases hl),d9 _,dh _⟩,?_,fun i=>?_,H⟩
  ·have:Tryz.f72.ntmps=78:=by kernel_rfl
   have hl2:(adq [È] x).length=1:=rfl;simp[this,hlen,hl2]
  ·simp only[Vo];rcases dv i (adq [È] x).length with hi|hi
   ·have:=Ĕ.lk (R:=VR (fun _=>undef) [] w) (fun _=>trivial) i C
    have hv:i<vals.length:=by rw[<-C.length]; exact hi
    have h2:(vals.toArray++Array.replicate (Tryz.f72.ntmps-vals.toArray.size) undef).getD i undef=vals.getD i undef:=by
     simp[eM,gg,hv]
    rw[h2]; exact this
   ·rw[alC _ _ hi]; trivial
 -- the ways out ahead of the loop
 have out:∀ν' N Y w' e,e≠.normal->Sim ν' N Y w'->Ev 0 (fun _=>undef) [] w ν' N.h w'->ckK e N=some r0->bodyPostM Fence.wide 2 Tryz.prog Tryz.f72 (Ex G y w) e Y w':=by
  intro ν' N Y w' e K q E d
  cases e with
  |normal=>exact(K rfl).elim
  |ret =>
   rw[aon] at d
   cases hr:ajK N with
   |none=>rw[hr] at d; cases d
   |some n =>
    rw[hr,eA] at d;cases d
    have hyn:n=y:=by simpa using r
    subst hyn;unfold ajK at hr
    split at hr
    ·rename_i v hv;show LeavesInM _ _ _ _ _ _ Y.defers _ _;obtain⟨⟨ms,m1,m2,m3⟩,_,m4,m5⟩:=q.defers;rw[show Y.defers=ms.map mk1 from m1.trans (dB _)];refine ur ms w' m2 (fun k d=>(m3 k d).1) fun w2 q1 q2 q3 q4 q5=>?_
     have hk2:∀(b:Nat) (o:Obj),w'.heap[b]?=some o->US o=true\/b<(gck G w.heap.size).B->w2.heap[b]?=some o:=fun b o hb hd=>by
      have hbm:b∉ms:=fun hm=>by
       rw[(m3 b hm).1] at hb; cases hb;rcases hd with hd|hd
       ·cases hd
       ·exact absurd hd (Nat.not_lt_zero _)
      rw[q5 b hbm]; exact hb
     have KG:ng (gck G w.heap.size) ν' N.h w' (gck G w.heap.size).G w2:=ng.nds q2 q3 q4 (by omega) hk2
     have sim2:Sim ν' N {Y with defers:=[]} w2:=⟨⟨⟨[],rfl,gH,fun _ h=>(by cases h)⟩,fun l hl=>(by cases hl),d9 _,by rw[q1]; exact m5⟩,q.len,fun i=>VR.step (g:=gck G w.heap.size) (D:=[]) (Q:=none) (M:=w.heap.size) KG (q.tmps i),
      HR.step (g:=gck G w.heap.size) (D:=[]) (Q:=none) (M:=w.heap.size) KG (fun b hb=>by rw[q1]; exact q.heap.ghlt b hb) (fun b hb hg=>by obtain⟨id,h1,h2⟩:=hb; exact q.heap.ghne id b h1 h2 hg) q.heap⟩
     obtain⟨u,r1,r2⟩:=Uq sim2 hv;exact⟨u,r1,u,rfl,aek sim2.heap [tI] r2 hr,fun b hb=>(q5 b fun hm=>by have m7:w.heap.size<=b:=(m3 b hm).2; omega).trans (E.keep b hb fun⟨_,h,_⟩=>by cases h).1,by rw[q1]; exact E.size,q2.trans E.os,q3.trans E.tape,q4.trans E.output⟩
    ·cases hr
  |exit id=>cases d
  |goto l=>cases d
  |panic ch=>cases d
  |outgrown=>cases d
 have I:∀{U:Nat->Value} {h₁:BY Blk} {w₁:World},Ev 0 (fun _=>undef) [] w U h₁ w₁->∀ν' N Y w' e,e≠.normal->Sim ν' N Y w'->Ev 0 U h₁ w₁ ν' N.h w'->ckK e N=some r0->bodyPostM Fence.wide 2 Tryz.prog Tryz.f72 (Ex G y w) e Y w' :=
  fun hE ν' N Y w' e K q E d=>out ν' N Y w' e K q (hE.trans E (dh _)) d
 refine peel rfl m hD rfl rfl (fun z _=>l8 h0 rfl) law hS (fun ν1 S1 a1 w1 s1 e1 k1=>?_) out;refine peel rfl m hD rfl rfl (fun z _=>l8 h0 rfl) k1 s1 (fun ν2 S2 a2 w2 s2 e2 k2=>?_) (I e1);have t2:=e1.trans e2 (dh _);refine peel rfl m hD rfl rfl (fun z _=>l8 h0 rfl) k2 s2 (fun ν3 S3 a3 w3 s3 e3 k3=>?_) (I t2);have t3:=t2.trans e3 (dh _);refine peel rfl m hD rfl rfl (fun z _=>l8 h0 rfl) k3 s3 (fun ν4 S4 a4 w4 s4 e4 k4=>?_) (I t3);have t4:=t3.trans e4 (dh _);refine peel rfl m hD rfl rfl (fun z _=>l8 h0 rfl) k4 s4 (fun ν5 S5 a5 w5 s5 e5 k5=>?_) (I t4);have t5:=t4.trans e5 (dh _);refine wpIn_seq (wpIn_seq (wpIn_wide.2 (wpIn_wide.1 (wpIn_mono (ww m hD rfl ckA5 0 S5 _ ν5 a5 w5 (fun z _=>l8 h0 rfl) k5 s5 (d9 _)) fun e' Z w6 ha=>?_))));obtain⟨ν,S,V,e6,_,_,k6⟩:=ha;have J:=t5.trans e6 (dh _)
 have f:∀e,e≠.normal->ckK e S=some r0->Exit.then (Code.wpIn Fence.wide 2 Tryz.prog VM (bodyPostM Fence.wide 2 Tryz.prog Tryz.f72 (Ex G y w))) (bodyPostM Fence.wide 2 Tryz.prog Tryz.f72 (Ex G y w)) e Z w6:=by
  intro e K d;have:=out ν S Z w6 e K V J d
  cases e<;>first|exact(K rfl).elim|exact this
 cases e' with
 |exit id=>exact f _ (by simp) k6
 |goto l=>exact f _ (by simp) k6
 |ret=>exact f _ (by simp) k6
 |panic ch=>exact f _ (by simp) k6
 |outgrown=>exact f _ (by simp) k6
 |normal =>
 clear f;rw[agG] at k6
 split at k6<;>try (cases k6; done)
 rename_i h78
 have h78':78<=S.t.length:=by simpa using h78
 cases k6;obtain⟨hlens,s,hs,hq⟩:=aom hM;simp only[Prod.mk.injEq,List.cons.injEq,and_true] at hq;obtain⟨⟨q1,q2,q48⟩,qh⟩:=hq
 have X:ZK (po x s) some (ckS x)=some y:=by
  simp only at r;rw[hs] at r;exact r
 -- what the errors are
 obtain⟨L,O,hLy⟩:∃L,po x s=some L/\(match L.find? (fun e=>e != 0) with|some e=>some e|none=>ckS x)=some y:=by
  unfold ZK at X
  cases hl:po x s with
  |none=>rw[hl] at X; cases X
  |some L=>rw[hl] at X; exact⟨L,rfl,X⟩
 obtain⟨l1,l2,l3,l4,m1,m2,m3,m4,rfl⟩:∃l1 l2 l3 l4,OH (fun u=>ń u.1 u.2 s) (x.2.2.1:BY (Int×Int))=some l1/\OH (fun i=>Χ x s i) (zj (x.2.2.2.1:BY so).length)=some l2 /\
  OH (fun i=>ň x s i) (zj (x.2.2.2.2.1:BY i4).length)=some l3/\OH (fun u=>ń u.1 u.2 s) (x.2.2.2.2.2:BY (Int×Int))=some l4/\L=l1++(l2++(l3++l4)):=by
  unfold po at O
  cases m1:OH (fun u=>ń u.1 u.2 s) (x.2.2.1:BY (Int×Int)) with
  |none=>rw[m1] at O; cases O
  |some l1 =>
  rw[m1] at O
  cases m2:OH (fun i=>Χ x s i) (zj (x.2.2.2.1:BY so).length) with
  |none=>simp only[Æ,m2] at O; cases O
  |some l2 =>
  cases m3:OH (fun i=>ň x s i) (zj (x.2.2.2.2.1:BY i4).length) with
  |none=>simp only[Æ,m2,m3] at O; cases O
  |some l3 =>
  cases m4:OH (fun u=>ń u.1 u.2 s) (x.2.2.2.2.2:BY (Int×Int)) with
  |none=>simp only[Æ,m2,m3,m4] at O; cases O
  |some l4 =>
  simp only[Æ,m2,m3,m4] at O;cases O;exact⟨l1,l2,l3,l4,rfl,rfl,rfl,rfl,rfl⟩
 -- the blocks
 obtain⟨T,Hh⟩:=S;dsimp only at q1 q2 q48 qh h78';subst qh;have p1:=V.tmps 1;have p2:=V.tmps 2;have p48:=V.tmps 48;dsimp only at p1 p2 p48;rw[q1] at p1;rw[q2] at p2;rw[q48] at p48;obtain⟨rb,te1,n1,hrb⟩:=abn (id:=1) (n:=0) V.heap rfl;have hB2:BR ν (ckH x s 0) w6 2 (.cells (flat È x)):=V.heap.blk 2;have hB3:BR ν (ckH x s 0) w6 3 (.cells [.mp tI Ö s]):=V.heap.blk 3;have hB4:BR ν (ckH x s 0) w6 4 (.cells [.fn (.func 204) [] [.box 3 0]]):=V.heap.blk 4;obtain⟨bb,cb,te,n2,hbb,hb2⟩:=hB2;obtain⟨sb,cs3,te3,n3,hsb,hb3⟩:=hB3;obtain⟨tb,cs4,te2,n4,htb,hb4⟩:=hB4;obtain⟨mv,z3,hm3⟩:=hb3.one;obtain⟨fv,z4,hm4⟩:=hb4.one;have hmv:CR w6 noG (.map tI Ö) s [mv]:=CR.mono (fun _ hf=>hf.elim) (show CR w6 (Av ν (ckH x s 0)) (.map tI Ö) s [mv] from hm3.1)
 have hc3:cs3=#[mv]:=by rw[<-eV,z3]
 have hfv:fv=.func (.func 204) #[] #[.pointer (some ⟨sb,0,none⟩)]:=by
  obtain⟨fs,cs,h1,h2,h3⟩:=hm4.1
  have e1:fs=#[]:=by rw[<-eV]; exact h2.nil_left
  obtain⟨u,e2,h4⟩:=h3.one;have e3:u=.pointer (some ⟨sb,0,none⟩):=K3 (w:=w6) (id:=3) (off:=0) h4 n3
  have e4:cs=#[.pointer (some ⟨sb,0,none⟩)]:=by rw[<-eV,e2,e3]
  rw[h1,e1,e4]
 have hc4:cs4=#[fv]:=by rw[<-eV,z4]
 rw[hc3] at hsb;rw[hc4,hfv] at htb
 have hg:Z.tmps.getD 48 undef=.func (.func 207) #[] #[.pointer (some ⟨bb,0,none⟩),.pointer (some ⟨tb,0,none⟩),.pointer (some ⟨sb,0,none⟩)]:=by
  obtain⟨fs,cs,h1,h2,h3⟩:=p48
  have e1:fs=#[]:=by rw[<-eV]; exact h2.nil_left
  have hl:=h3.length
  obtain⟨u1,u2,u3,e2⟩:∃u1 u2 u3,cs.toList=[u1,u2,u3]:=by
   rcases hcs:cs.toList with _|⟨u1,_|⟨u2,_|⟨u3,_|⟨u4,t⟩⟩⟩⟩<;>rw[hcs] at hl<;>simp at hl
   exact⟨u1,u2,u3,rfl⟩
  rw[e2] at h3;have e3:u1=.pointer (some ⟨bb,0,none⟩):=K3 (w:=w6) (id:=2) (off:=0) h3.1 n2;have e4:u2=.pointer (some ⟨tb,0,none⟩):=K3 (w:=w6) (id:=4) (off:=0) h3.2.1 n4;have e5:u3=.pointer (some ⟨sb,0,none⟩):=K3 (w:=w6) (id:=3) (off:=0) h3.2.2.1 n3;rw[h1,e1];congr 1;rw[<-eV,e2,e3,e4,e5]
 have hseq:=ale m1 m2 m3 m4 hlens hbb (aos hb2) htb hsb hmv;have h2:=K3 p2 n1;have hsz:78<=Z.tmps.size:=dE h78' V.len
 have A:∀b,b<w.heap.size->w6.heap[b]?=w.heap[b]?/\¬F3 ν (ckH x s 0) b:=fun b hb=>J.keep b hb fun⟨_,h,_⟩=>by cases h
 obtain⟨⟨ms,m1',m2',p⟩,_⟩:=V.defers;have hdef:Z.defers=ms.map mk1:=m1'.trans (dB _);show ckRF.wpIn Fence.wide 2 Tryz.prog (Exit.then (VM.wpIn Fence.wide 2 Tryz.prog (bodyPostM Fence.wide 2 Tryz.prog Tryz.f72 (Ex G y w))) (bodyPostM Fence.wide 2 Tryz.prog Tryz.f72 (Ex G y w))) Z w6;rw[aol];refine wpIn_block (anK hseq hg h2 hsz hrb (fun D W hall hbel hDl hDo=>?_) (fun D W z hz j hDl hDo=>?_))
 ·have hck:ckS x=some y:=by
   have:(l1++(l2++(l3++l4))).find? (fun e=>e != 0)=none:=eD.2 fun z hz=>by rw[hall z hz]; simp
   rw[this] at hLy;exact hLy
  have hDn:D∉ms:=fun hm=>by have:=ĥ (p D hm).1; omega
  exact aok (s:=s) (ms:=D::ms) hck V.heap hbel (by show mark D::Z.defers=_; rw[hdef]; rfl) (fD.2 ⟨hDn,m2'⟩) (fun k d=>by
   rcases dm.1 d with rfl|d
   ·exact⟨hDo,dE J.size hDl⟩
   ·exact⟨(hbel.block k (ĥ (p k d).1)).trans (p k d).1,(p k d).2⟩) hsz p1 p2 A J.size J.os J.tape J.output
 ·have hzy:z=y:=by
   rw[hz] at hLy;simpa using hLy
  subst hzy;obtain⟨te5,hcell⟩:=j.cell;have hlb:=ĥ hrb;have hlive:F3 ν (ckH x s 0) rb:=⟨1,rfl,by rw[n1]; rfl⟩
  have hDn:D∉ms:=fun hm=>by have:=ĥ (p D hm).1; omega
  exact afh (a:={Z with defers:=mark D::Z.defers}) (w:=W) (ms:=D::ms) (by show mark D::Z.defers=_; rw[hdef]; rfl) (fD.2 ⟨hDn,m2'⟩) (fun k d=>by
   rcases dm.1 d with rfl|d
   ·exact⟨hDo,dE J.size hDl⟩
   ·exact⟨(j.block k (ĥ (p k d).1) (fun e=>by have h9:=(p k d).1; rw[e,hrb] at h9; cases h9)).trans (p k d).1,(p k d).2⟩) h2 hcell
   (fun b hb=>(j.block b (by have:=J.size; omega) (fun e=>(A b hb).2 (e▸hlive))).trans (A b hb).1) (by have:=J.size; have:=j.size; omega) (j.os.trans J.os) (j.tape.trans J.tape) (j.output.trans J.output)
def BD:jq Tryz.prog 72 vt:=fun G x y hF w vals hG hAL=>agH G x y hF w vals hG hAL
end Go.Proofs.ZzM
end

noncomputable section
namespace Go.Proofs
open Go.RowKit
attribute [local go_sem] Oper.semAt_some
def afA (w:World) (o o':Obj):((w.alloc o).alloc o').heap[w.heap.size+1]?=some o':=by
 simp only[World.alloc];rw[show w.heap.size+1=(w.heap.push o).size from(Array.size_push _).symm];exact Array.getElem?_push_size
def akw (w:World) (o o':Obj):((w.alloc o).alloc o').heap[w.heap.size]?=some o:=by
 simp only[World.alloc];rw[Array.getElem?_push_lt (by rw[Array.size_push]; omega),Array.getElem_push_eq]
def ab4 (w:World) (o o':Obj) (b:Nat) (hb:b<w.heap.size):((w.alloc o).alloc o').heap[b]?=w.heap[b]?:=by
 simp only[World.alloc];rw[Array.getElem?_push_lt (by simp; omega),Array.getElem_push_lt hb,Array.getElem?_eq_getElem hb]
def ani {W:World} {b:Nat} {f e d c a:Value} {t:TypeId} (h:W.heap[b]?=some (.cells #[f,e,d,c,a] t (0,0))) :
 W.cell? ⟨b,0,none⟩=some f/\W.cell? ⟨b,1,none⟩=some e/\W.cell? ⟨b,2,none⟩=some d/\W.cell? ⟨b,3,none⟩=some c/\W.cell? ⟨b,4,none⟩=some a/\∀j,W.frozen? ⟨b,j,none⟩=false:=by
 refine⟨?_,?_,?_,?_,?_,fun j=>?_⟩<;>simp only[World.cell?,World.frozen?,h]<;>rfl
def set5 {W:World} {b:Nat} {c0 e d c a:Value} {k j i g f:Value} {t:TypeId} (h:W.heap[b]?=some (.cells #[k,j,i,g,f] t (0,0))) :
 (((((W.setCell ⟨b,0,none⟩ c0).setCell ⟨b,1,none⟩ e).setCell ⟨b,2,none⟩ d).setCell ⟨b,3,none⟩ c).setCell ⟨b,4,none⟩ a)=W.setRow b #[c0,e,d,c,a]:=by
 rw[setCell_eq_setRow W b 0 _ t (0,0) c0 h,setCell_eq_setRow _ b 1 _ t (0,0) e (setRow_heap _ _ _ _ t _ h),setRow_setRow,setCell_eq_setRow _ b 2 _ t (0,0) d (setRow_heap _ _ _ _ t _ h),setRow_setRow,
  setCell_eq_setRow _ b 3 _ t (0,0) c (setRow_heap _ _ _ _ t _ h),setRow_setRow,setCell_eq_setRow _ b 4 _ t (0,0) a (setRow_heap _ _ _ _ t _ h),setRow_setRow]
 rfl
def afW {T:Array Value} {b:Nat} {c0 g f d c:Int} {e:TypeId} {W:World} (h2:T.getD 2 undef=.pointer (some ⟨b,0,none⟩)) (m:W.heap[b]?=some (.cells #[.int .i64 c0,.int .i64 g,.int .i64 f,.int .i64 d,.int .i64 c] e (0,0))):(results Tryz.f220 T).run Tryz.prog W=.ok (.agg #[.int .i64 c0,.int .i64 g,.int .i64 f,.int .i64 d,.int .i64 c]) W:=by
 letI:Go.Am.Ghost:=Go.Am.Gh fun _=>False
 have k:(loadVar 250 ⟨b,0,none⟩).run Tryz.prog W=.ok (.agg #[.int .i64 c0,.int .i64 g,.int .i64 f,.int .i64 d,.int .i64 c]) W:=by
  have:=Go.Am.run_loadVar (P:=Tryz.prog) (w:=W) (t:=250) (agg:=true) (n:=5) (by kernel_rfl) (us:=[.int .i64 c0,.int .i64 g,.int .i64 f,.int .i64 d,.int .i64 c]) rfl (fun h=>by cases h) (a:=⟨b,0,none⟩) (fun j v l=>by
   have:=Go.Am.CellsAt.of_cells m j v (by simpa using l)
   have ha:(⟨b,0,none⟩:Addr).add j=⟨b,j,none⟩:=by unfold Addr.add; split<;>simp_all
   rw[ha]; simpa using this)
  exact this
 have i:Tryz.f220.results=#[.cell 2 250]:=by kernel_rfl
 unfold results;rw[i,Array.mapM_eq_mapM_toList];simp only[Sem.run_bind,Sem.run_map,List.mapM_cons,List.mapM_nil,h2,asAddr,Sem.run_pure,Result.andThen_ok,k];rfl
set_option maxRecDepth 100000 in
set_option maxHeartbeats 1000000 in
def ali (v:Value) (w:World) (c0 c1 c2 c3 c4:Int) (n:Int)
 (hcopy : ∀ W, (∀ b, b < w.heap.size -> W.heap[b]? = w.heap[b]?) -> W.heap[w.heap.size + 1]? = some (.cells #[.int .i64 0, .int .i64 0, .int .i64 0, .int .i64 0, .int .i64 0] 250 (0, 0)) -> (Builtin.copy_ #[51, 51] 3 #[.slice (some ⟨w.heap.size + 1, 0, none⟩) 5 5, v]).run Tryz.prog W = .ok (.int .i64 n) (W.setRow (w.heap.size + 1) #[.int .i64 c0, .int .i64 c1, .int .i64 c2, .int .i64 c3, .int .i64 c4])) :
  CallsIn Fence.wide 0 Tryz.prog 220 #[v] w fun e W'=>e=.returned (.agg #[.int .i64 c0,.int .i64 c1,.int .i64 c2,.int .i64 c3,.int .i64 c4])/\(∀b,b<w.heap.size->W'.heap[b]?=w.heap[b]?)/\w.heap.size<=W'.heap.size/\W'.os=w.os/\W'.tape=w.tape/\W'.output=w.output:=by
 refine callsIn_of_wp Tryz.func220 rfl trivial ?_ rfl;simp only[Tryz.ntmps220,fU,dr,dO,Nat.reduceAdd,Nat.reduceSub,Array.replicate_succ,Array.replicate_zero,List.push_toArray,gW,fi,ew]
 gi_wp2
 rw[hcopy _ (ab4 _ _ _) (afA _ _ _)];generalize hW:World.setRow _ _ _=W1
 have g1:W1.heap[w.heap.size+1]?=some (.cells #[.int .i64 c0,.int .i64 c1,.int .i64 c2,.int .i64 c3,.int .i64 c4] 250 (0,0)):=by
  rw[<-hW]; exact setRow_heap _ _ _ _ 250 _ (afA _ _ _)
 have g2:W1.heap[w.heap.size]?=some (.cells #[.int .i64 0,.int .i64 0,.int .i64 0,.int .i64 0,.int .i64 0] 250 (0,0)):=by
  rw[<-hW,setRow_other _ _ _ _ (by omega)]; exact akw _ _ _
 have g3:∀b,b<w.heap.size->W1.heap[b]?=w.heap[b]?:=fun b hb=>by
  rw[<-hW,setRow_other _ _ _ _ (by omega)]; exact ab4 _ _ _ b hb
 have g4:W1.os=w.os/\W1.tape=w.tape/\W1.output=w.output/\W1.heap.size=w.heap.size+2:=by
  rw[<-hW]; refine⟨rfl,rfl,rfl,?_⟩;rw[size_setRow]; simp only[World.alloc,Array.size_push]
 clear hW hcopy;obtain⟨l0,l1,l2,l3,l4,_⟩:=ani g1;obtain⟨z0,z1,z2,z3,z4,zf⟩:=ani g2
 gi_wp2
 rw[set5 g2];refine bodyPost_ret (afW rfl (setRow_heap _ _ _ _ 250 _ g2)) rfl ?_;exact⟨rfl,fun b hb=>(setRow_other _ _ _ _ (by omega)).trans (g3 b hb),by rw[size_setRow]; omega,g4.1,g4.2.1,g4.2.2.1⟩
end Go.Proofs
namespace Go.Proofs.ZzM
open Go Go.Am Go.Proofs
noncomputable def anI (xs:BY Int):(#[Value.int .i64 0,.int .i64 0,.int .i64 0,.int .i64 0,.int .i64 0].toList.take 0++(xs.take 5).map (Value.int .i64 ·)++#[Value.int .i64 0,.int .i64 0,.int .i64 0,.int .i64 0,.int .i64 0].toList.drop (0+((xs.take 5).map (Value.int .i64 ·)).length)).toArray =
 #[.int .i64 (xs.getD 0 0),.int .i64 (xs.getD 1 0),.int .i64 (xs.getD 2 0),.int .i64 (xs.getD 3 0),.int .i64 (xs.getD 4 0)]:=by
 rcases xs with _|⟨a,_|⟨b,_|⟨c,_|⟨d,_|⟨e,r⟩⟩⟩⟩⟩<;>rfl
def ajP:jq Tryz.prog 220 ZU:=by
 intro G x y C w vals J q;obtain⟨v,rfl,us,o,m⟩:=q;change BY Int at x;obtain⟨base,cap,rfl,r,d⟩:=o;have m:v=.slice base (x:BY Int).length cap:=m;subst m;have z:y=((x:BY Int).getD 0 0,(x:BY Int).getD 1 0,(x:BY Int).getD 2 0,(x:BY Int).getD 3 0,(x:BY Int).getD 4 0):=(Option.some.inj C).symm;refine⟨⟨Tryz.f220,_,Tryz.func220,rfl⟩,?_⟩
 have c:∀W:World,(∀b,b<w.heap.size->W.heap[b]?=w.heap[b]?)->W.heap[w.heap.size+1]?=some (.cells #[.int .i64 0,.int .i64 0,.int .i64 0,.int .i64 0,.int .i64 0] 250 (0,0)) ->
  (Builtin.copy_ #[51,51] 3 #[.slice (some ⟨w.heap.size+1,0,none⟩) 5 5,.slice base (x:BY Int).length cap]).run Tryz.prog W=.ok (.int .i64 ((((x:BY Int).take 5).map (Value.int .i64 ·)).length:Nat)) (W.setRow (w.heap.size+1) #[.int .i64 ((x:BY Int).getD 0 0),.int .i64 ((x:BY Int).getD 1 0),.int .i64 ((x:BY Int).getD 2 0),.int .i64 ((x:BY Int).getD 3 0),.int .i64 ((x:BY Int).getD 4 0)]):=by
  intro W g a;rcases d with h0|⟨b,off,rfl,B,hb,p⟩
  ·have h0:x=([]:BY Int):=h0;subst h0;rw[run_copy_none W 51 51 3 3 _ _ 5 5 _ _ (by kernel_rfl) (by kernel_rfl) (by simp)];exact congrArg _ (setRow_self W _ _ 250 (0,0) a).symm
  ·have:=run_copy_row Tryz.prog W 51 51 3 3 (w.heap.size+1) 0 5 5 ⟨b,off,none⟩ (x:BY Int).length cap _ 250 (((x:BY Int).take 5).map (Value.int .i64 ·)) (by kernel_rfl) (by kernel_rfl) a (by simp[Nat.min_comm]) (fun j u i=>by
    rw[fc] at i
    cases f:((x:BY Int).take 5)[j]? with
    |none=>rw[f] at i; cases i
    |some n =>
     rw[f] at i;cases i
     have l:(x:BY Int)[j]?=some n:=by
      rw[eF] at f
      split at f
      ·exact f
      ·cases f
     obtain⟨us,k,t⟩:=p j n l;have k:us=[.int .i64 n]:=k;subst k;have s:=t 0 _ rfl
     have ha:(⟨b,off,none⟩:Addr).add j=⟨b,off+j,none⟩:=by unfold Addr.add; split<;>simp_all
     rw[ha,World.cell?_of_block (w:=w) (by exact g b hb)]
     simpa[Ty.size] using s) (by simp; omega) (fun u A=>by
    obtain⟨n,_,rfl⟩:=dH.1 A
    rfl)
   rw[anI] at this;exact this
 refine(ali _ w _ _ _ _ _ _ c).mono fun e w' h=>?_;obtain⟨rfl,I,h2,H,E,D⟩:=h;refine⟨_,rfl,?_,I,h2,H,E,D⟩;subst z;exact⟨[.int .i64 _,.int .i64 _,.int .i64 _,.int .i64 _,.int .i64 _],⟨[_],_,rfl,rfl,[_],_,rfl,rfl,[_],_,rfl,rfl,[_],_,rfl,rfl,rfl⟩,rfl⟩
end Go.Proofs.ZzM
end

noncomputable section
set_option maxRecDepth 100000
namespace Go.Proofs.ZzM
open Go Go.Am
def agJ:ZP 15 Uw:=zt (sY _) Å rfl (Á Mc (Á Mb Å)) fun x=>Ss x some
def agK:ZP 16 Ux:=zt (zO _) Å rfl (Á Md Å) fun x=>Su x some
def akg:ZP 269 aah:=zt (FL _) (Á BD (Á FU (Á Jc Å))) rfl (Á QR Å) fun x=>Yc x some
def amr:ZP 226 aeH:=zt (Vl _) (Á afr (Á akg Å)) rfl Å fun x=>abd x some
def ajR:ZP 156 ZW:=zt (lS _) (Á amr Å) rfl (Á O5 (Á O4 (Á O3 (Á O2 (Á O1 Å))))) fun x=>WQ x some
def lr:ZP 80 jI:=zt (xj _) (Á BD (Á ajR Å)) rfl (Á Ph (Á Pj Å)) fun x=>WZ x some
def j6:ZP 135 Ű:=zt (Š _) Å rfl (Á mH Å) fun x=>nO x some
def abV:ZP 147 Lq:=zt (En _) (Á j6 Å) rfl Å fun x=>MX x some
def amp:ZP 247 aeF:=zt (B4 _) (Á oc Å) rfl (Á TT (Á TS Å)) fun x=>aa8 x some
def M6:ZP 261 yK:=zt (ug _) Å rfl Å fun x=>C1 x some
def BC:ZP 264 vp:=zt (FB _) (Á Jb Å) rfl (Á Qw Å) fun x=>XP x some
def RS:ZP 312 EH:=zt (HN _) (Á afp (Á akb Å)) rfl Å fun x=>Qy x some
def aoq:ZP 296 aia:=zt (aa2 _) (Á BC (Á RS Å)) rfl Å fun x=>ac7 x some
def YT:ZP 262 Gr:=zt (A9 _) (Á aoq Å) rfl Å fun x=>Ku x some
def adH:ZP 320 acD:=zt (aa1 _) Å rfl Å fun x=>ac5 x some
def Eu:ZP 313 Dj:=zt (yR _) (Á BC (Á adH Å)) rfl Å fun x=>HP x some
def akd:ZP 316 aib:=zt (aa4 _) (Á BC (Á RS Å)) rfl Å fun x=>ac9 x some
def akc:jq Tryz.prog 297 aae:=ah0 (FD _) (aa3 _) (fun {_}=>FP (Á Jb (Á Eu (Á akd (Á adH Å)))) (FD _) rfl rfl rfl rfl rfl (Œ rfl) (mV rfl) (jC rfl)) (fun {_}=>libN (Á Jb (Á Eu (Á akd (Á adH Å)))) _) rfl hmix (tab:=xM _) rfl Å (us:=LL) rfl (Á (by kernel_rfl) Å) (nw fun x=>XU x some)
def YS:ZP 263 Gq:=zt (A8 _) (Á akc Å) rfl Å fun x=>Kt x some
def ag2:ZP 215 UP:=zt (LP _) (Á FU (Á NJ (Á M6 (Á YT (Á YS Å))))) rfl Å fun x=>TY x some
def akf:ZP 216 aag:=zt (QP _) Å rfl Å fun x=>X7 x some
def abU:ZP 265 Ot:=zt (QA _) Å rfl Å fun x=>XS x some
def amm:ZP 217 aeC:=zt (Vj _) (Á BC (Á abU Å)) rfl Å fun x=>aa5 x some
def ake:ZP 218 aaf:=zt (QE _) (Á BC (Á abU Å)) rfl Å fun x=>XV x some
def amn:ZP 248 aeD:=zt (Vk _) (Á ag2 (Á akf (Á amm (Á ake Å)))) rfl Å fun x=>aa6 x some
def amo:ZP 132 aeE:=zt (wn _) (Á RU (Á abV (Á NJ (Á afq (Á amp (Á amn Å)))))) rfl (Á TQ (Á TR (Á TP Å))) fun x=>aa7 x some
def CF:ZP 66 vr:=zt (LQ _) (Á BD (Á amo Å)) rfl Å fun x=>T2 x some
def YN:ZP 105 Og:=zt (OM _) (Á wK Å) rfl (Á WL Å) fun x=>acL x some
def RN:ZP 183 zz:=zt (nE _) (Á YN Å) rfl (Á zT Å) fun x=>EU x some
def qA:jq Tryz.prog 104 mq:=Wc (Ų _) (fun {_}=>FP (Á YN (Á RN Å)) (Ų _) rfl rfl rfl rfl rfl (Œ rfl) (mV rfl) (jC rfl)) hmix rfl (Á ET (Á ES (Á ER (Á EQ Å)))) (nw fun x=>JL x some)
def afo:ZP 196 Wp:=zt (Va _) Å rfl Å fun x=>aaY x some
def Ja:ZP 126 zA:=zt (FA _) (Á afo Å) rfl (Á Qu Å) fun x=>XO x some
def BB:ZP 127 sP:=zt (η _) Å rfl (Á HH (Á HG (Á HE (Á HF (Á HD Å))))) fun x=>MP x some
def Ug:ZP 155 Dh:=zt (yP _) (Á Ja (Á BB Å)) rfl Å fun x=>HK x some
def uE:ZP 79 oC:=zt (Dx _) (Á CF (Á qA (Á Ug Å))) rfl Å fun x=>Ml x some
def agL:ZP 116 Uy:=zt (sZ _) Å rfl (Á Mg (Á Mh Å)) fun x=>Sv x some
def RT:ZP 234 zB:=zt (wm _) Å rfl Å fun x=>FE x some
def wM:ZP 180 nA:=zt (rQ _) (Á RT Å) rfl Å fun x=>A7 x some
def VN:ZP 179 JA:=zt (Lv _) (Á agL (Á wM Å)) rfl Å fun x=>SB x some
def qC:XOk Tryz.prog 273 (.row ć):=V6 (r:=ć) (û _) (fun {_}=>FP (Á VN Å) (û _) rfl rfl rfl rfl rfl (Œ rfl) (mV rfl) (jC rfl)) hmix rfl (Á mj (Á ml Å)) (fun xs x m=>nc xs x m some)
def Bx:XOk Tryz.prog 300 (.row Ĵ):=V6 (r:=Ĵ) (Ą _) (fun {_}=>FP Å (Ą _) rfl rfl rfl rfl rfl (Œ rfl) (mV rfl) (jC rfl)) hmix rfl (Á rz (Á ru (Á rA (Á rt Å)))) (fun xs x m=>uM xs x m some)
noncomputable def qB {a:(Val (.slice (.slice (.slice tI))))->Int->Int->Int->a8->BE ((Val (.slice (.slice (.slice tI))))×a8)} (b:XOk Tryz.prog 274 (.row ⟨(.slice (.slice tI)),[tI,tI,tI],179,Â,fun(xs:(Val (.slice (.slice (.slice tI))))) (x:rm) (m:a8)=>a xs x.1 x.2.1 x.2.2 m⟩)):XOk Tryz.prog 274 (.row ⟨(.slice (.slice tI)),[tI,tI,tI],179,Â,fun(xs:(Val (.slice (.slice (.slice tI))))) (x:rm) (m:a8)=>ħ a xs x.1 x.2.1 x.2.2 m some⟩):=V6 (r:=⟨(.slice (.slice tI)),[tI,tI,tI],179,Â,fun(xs:(Val (.slice (.slice (.slice tI))))) (x:rm) (m:a8)=>ħ a xs x.1 x.2.1 x.2.2 m some⟩) (É a _) (fun {_}=>FP (Á VN Å) (É a _) rfl rfl rfl rfl rfl (Œ rfl) (YF (Á b (Á Bx Å)) rfl) (jC rfl)) hmix (tab:=jM a _) rfl (Á pE (Á pD (Á pC (Á pB (Á pA Å))))) (fun xs x m=>rl _ xs x m some)
def jZ:∀n:Nat,XOk Tryz.prog 274 (.row ⟨(.slice (.slice tI)),[tI,tI,tI],179,Â,fun(xs:(Val (.slice (.slice (.slice tI))))) (x:rm) (m:a8)=>Ħ n xs x.1 x.2.1 x.2.2 m⟩)
 |0=>amF.mk (by intro _ _ _ _ _ _ h; cases h)
 |n+1=>qB (jZ n)
def yD:XOk Tryz.prog 274 (.row mr):=jZ 100
def pr:XOk Tryz.prog 233 (.row ģ):=V6 (r:=ģ) (ė _) (fun {_}=>FP Å (ė _) rfl rfl rfl rfl rfl (Œ rfl) (YF (Á qC (Á yD Å)) rfl) (jC rfl)) hmix rfl (Á rr (Á ro (Á rq Å))) (fun xs x m=>uL xs x m some)
def afj:jq Tryz.prog 81 Wi:=N8 (iD _) (fun {_}=>FP (Á uE Å) (iD _) rfl rfl rfl rfl rfl (Œ rfl) (YF (Á pr Å) rfl) (jC rfl)) hmix rfl (Á SP (Á SO Å)) (rtab:=O7 _) rfl (Á (SN RF) Å) (Á SM Å) (nw fun x=>aaC x some)
def ajT:ZP 19 acA:=zt (aaG _) (Á lr (Á afj Å)) rfl Å fun x=>acR x some
def I7:jq Tryz.prog 96 BT:=N8 (ka _) (fun {_}=>FP Å (ka _) rfl rfl rfl rfl rfl (Œ rfl) (YF (Á pr Å) rfl) (jC rfl)) hmix rfl Å (rtab:=OP _) rfl (Á (Sz RF) Å) (Á Sy Å) (nw fun x=>aaA x some)
def yC:ZP 82 pS:=zt (rh _) (Á uE (Á I7 Å)) rfl (Á E5 Å) fun x=>JN x some
def abR:ZP 20 Oi:=zt (Pf _) (Á lr (Á yC Å)) rfl Å fun x=>WV x some
def I9:ZP 35 wZ:=zt (rO _) Å rfl (Á Fp Å) fun x=>J9 x some
def Bz:ZP 26 sO:=zt (uO _) (Á I9 Å) rfl (Á Hm Å) fun x=>Mu x some
def RO:ZP 88 Gg:=zt (EZ _) Å rfl (Á OT Å) fun x=>WO x some
def ag3:ZP 91 UQ:=zt (LR _) (Á NJ (Á VO Å)) rfl Å fun x=>T4 x some
def YO:ZP 28 Gi:=zt (mD _) (Á lr (Á yC (Á RO (Á ag3 (Á υ Å))))) rfl (Á E7 (Á E6 Å)) fun x=>JP x some
def afi:ZP 87 Wh:=zt (BV _) (Á υ Å) rfl (Á SE (Á SD Å)) fun x=>aaB x some
def amd:ZP 29 aet:=zt (BW _) (Á lr (Á yC (Á afi (Á mX Å)))) rfl (Á SW (Á SV Å)) fun x=>aaF x some
def agN:ZP 98 UA:=zt (Ad _) Å rfl (Á Mm Å) fun x=>SQ x some
def abQ:ZP 30 Lm:=zt (Ľ _) (Á uE (Á lr (Á afi (Á I7 (Á agN (Á wM Å)))))) rfl (Á G5 (Á G6 (Á G4 (Á G3 (Á GZ (Á GY (Á GW (Á G0 Å)))))))) fun x=>Mn x some
def amc:ZP 40 aes:=zt (U0 _) (Á lr (Á I7 Å)) rfl Å fun x=>aaE x some
def akh:ZP 68 aai:=zt (QT _) (Á BD (Á j6 (Á RU Å))) rfl Å fun x=>Ye x some
def amq:ZP 69 aeG:=zt (KB _) (Á BD Å) rfl (Á T3 Å) fun x=>abc x some
def aj8:ZP 133 aab:=zt (Fz _) (Á Ja (Á BB (Á afo Å))) rfl (Á Qk Å) fun x=>XL x some
def ag1:ZP 134 UO:=zt (jS _) Å rfl (Á MV (Á MU (Á MT (Á MR (Á MS Å))))) fun x=>TH x some
def aj9:ZP 185 aac:=zt (xL _) (Á aj8 (Á ag1 Å)) rfl (Á Qn (Á Qm Å)) fun x=>XM x some
def agM:ZP 106 Uz:=zt (Lw _) (Á CF (Á akh (Á amq (Á aj9 Å)))) rfl Å fun x=>SF x some
def agO:ZP 42 UB:=zt (tB _) (Á lr (Á afj (Á RO (Á qA (Á YN (Á agM Å)))))) rfl (Á Mq (Á Mp Å)) fun x=>SU x some
def ajQ:jq Tryz.prog 154 ZV:=N8 (ε _) (fun {_}=>FP (Á ajP Å) (ε _) rfl rfl rfl rfl rfl (Œ rfl) (mV rfl) (jC rfl)) hmix rfl (Á OZ Å) (rtab:=Lx _) rfl (Á (OY ajM) Å) (Á OX Å) (nw fun x=>WP x some)
def abP:ZP 78 Oh:=zt (Pb _) (Á lr (Á ajQ Å)) rfl Å fun x=>WS x some
def aoo:ZP 49 ah8:=zt (aaD _) (Á abP (Á RO (Á YN Å))) rfl Å fun x=>acP x some
def aj7:ZP 128 aaa:=zt (Ko _) Å rfl (Á ac2 (Á ac0 (Á acZ (Á ac1 Å)))) fun x=>aiD x some
def aka:ZP 64 aad:=zt (lV _) (Á Ja (Á BB (Á aj7 Å))) rfl (Á Qt (Á Qp (Á Qq (Á Qr (Á Qs Å))))) fun x=>XN x some
def ajS:ZP 59 ZX:=zt (E8 _) (Á aka (Á CF (Á lr (Á I7 (Á qA Å))))) rfl (Á Pd Å) fun x=>WU x some
def adG:ZP 188 Oq:=zt (xG _) Å rfl (Á Kn Å) fun x=>Qh x some
def aml:ZP 189 aeB:=zt (Kk _) Å rfl (Á TG Å) fun x=>aaX x some
def Uh:ZP 122 Di:=zt (yQ _) (Á Ja (Á adG (Á aml Å))) rfl Å fun x=>HM x some
def Ue:ZP 60 Df:=zt (pz _) (Á CF (Á lr (Á I7 (Á qA (Á Uh Å))))) rfl (Á CW Å) fun x=>G9 x some
def abO:ZP 77 Ll:=zt (Dl _) Å rfl Å fun x=>Me x some
def adB:ZP 17 Oe:=zt (GD _) (Á ajT (Á abR (Á Bz (Á YO (Á amd (Á abQ (Á I9 (Á amc (Á agO (Á aoo (Á ajS (Á Ue (Á abO Å))))))))))))) rfl Å fun x=>OJ x some
def abS:ZP 18 Ln:=zt (Dz _) (Á abP (Á uE Å)) rfl Å fun x=>Mo x some
def KZ:ZP 109 EF:=zt (aaN _) Å rfl Å fun x=>acV x some
def NI:ZP 45 Gn:=zt (U4 _) (Á KZ Å) rfl Å fun x=>aaP x some
def amg:ZP 181 aew:=zt (Kc _) Å rfl (Á Tx Å) fun x=>aaO x some
def abT:ZP 102 On:=zt (Fu _) (Á amg Å) rfl (Á P0 Å) fun x=>Xs x some
def YQ:ZP 194 Nh:=zt (U3 _) (Á abT Å) rfl Å fun x=>aaL x some
def ajY:ZP 191 Z1:=zt (xy _) (Á YQ Å) rfl (Á PH (Á PG Å)) fun x=>Xh x some
def CD:ZP 124 vm:=zt (iW _) (Á ajY Å) rfl (Á MJ (Á MI (Á MH (Á ME (Á MF (Á MG Å)))))) fun x=>Tu x some
def agV:ZP 111 UI:=zt (AM _) (Á CD Å) rfl (Á MK Å) fun x=>Tw x some
def BA:ZP 33 vn:=zt (Fw _) Å rfl (Á P4 Å) fun x=>Xv x some
def RP:ZP 85 Gm:=zt (Ft _) Å rfl (Á PY Å) fun x=>Xr x some
def ajZ:ZP 239 Z2:=zt (Fm _) Å rfl (Á PJ Å) fun x=>Xi x some
def aj3:ZP 192 Z6:=zt (Fs _) (Á BA (Á RP (Á ajZ Å))) rfl (Á PW Å) fun x=>Xq x some
def afm:ZP 270 Wn:=zt (Ki _) Å rfl (Á TE Å) fun x=>aaU x some
def afn:ZP 271 Wo:=zt (U9 _) Å rfl Å fun x=>aaW x some
def RQ:ZP 319 EG:=zt (HA _) (Á afm (Á afn Å)) rfl Å fun x=>Qa x some
def amk:ZP 306 aeA:=zt (U8 _) (Á RQ Å) rfl Å fun x=>aaV x some
def ami:ZP 307 aey:=zt (U6 _) Å rfl Å fun x=>aaS x some
def amh:ZP 286 aex:=zt (U5 _) (Á amk (Á ami Å)) rfl Å fun x=>aaR x some
def agT:ZP 287 UG:=zt (LA _) (Á BA Å) rfl Å fun x=>Ti x some
def aj5:ZP 308 Z8:=zt (Qd _) Å rfl Å fun x=>Xy x some
def amj:ZP 309 aez:=zt (U7 _) (Á RQ Å) rfl Å fun x=>aaT x some
def agZ:ZP 288 UM:=zt (LG _) (Á aj5 (Á amj Å)) rfl Å fun x=>TD x some
def adF:ZP 240 Oo:=zt (Hz _) (Á YQ (Á amh (Á agT (Á agZ Å)))) rfl Å fun x=>P3 x some
def agW:ZP 241 UJ:=zt (LD _) Å rfl Å fun x=>TA x some
def aop:ZP 289 ah9:=zt (aaQ _) Å rfl Å fun x=>acX x some
def aj6:ZP 242 Z9:=zt (Qf _) (Á aop Å) rfl Å fun x=>XE x some
def aj4:ZP 290 Z7:=zt (Qb _) Å rfl Å fun x=>Xx x some
def ag0:ZP 243 UN:=zt (LH _) (Á aj4 Å) rfl Å fun x=>TF x some
def aj0:ZP 199 Z3:=zt (PM _) (Á adF (Á agW (Á aj6 (Á ag0 Å)))) rfl Å fun x=>Xn x some
def afl:ZP 131 Wm:=zt (vW _) (Á agV (Á CD (Á aj3 (Á YQ (Á aj0 Å))))) rfl (Á Tn (Á Tp (Á Tm Å))) fun x=>aaM x some
def uF:ZP 160 oD:=zt (DP _) Å rfl Å fun x=>MA x some
def agY:ZP 227 UL:=zt (LF _) (Á afm (Á afn Å)) rfl Å fun x=>TC x some
def agU:ZP 161 UH:=zt (LB _) (Á NI (Á KZ (Á uF (Á agY Å)))) rfl Å fun x=>Tj x some
def wL:ZP 166 qI:=zt (LC _) (Á BA Å) rfl Å fun x=>Tq x some
def ajX:ZP 162 Z0:=zt (Fg _) (Á NI (Á wL Å)) rfl (Á PB Å) fun x=>Xf x some
def agS:ZP 163 UF:=zt (oX _) (Á KZ (Á uF (Á wL Å))) rfl (Á MC (Á MB (Á MD Å))) fun x=>Th x some
def aj1:ZP 228 Z4:=zt (Fq _) (Á KZ Å) rfl (Á PO Å) fun x=>Xo x some
def agR:ZP 164 UE:=zt (Lz _) (Á NI (Á KZ (Á uF (Á aj1 Å)))) rfl Å fun x=>Tg x some
def YR:ZP 165 Gl:=zt (jP _) (Á BA (Á RP (Á abT (Á wL Å)))) rfl (Á Fl (Á Fk (Á Fh Å))) fun x=>J7 x some
def agX:ZP 83 UK:=zt (md _) (Á NI (Á CD (Á afl (Á uF (Á agU (Á ajX (Á agS (Á agR (Á YR (Á wL Å)))))))))) rfl (Á MO (Á MM (Á MN (Á ML Å)))) fun x=>TB x some
def ame:ZP 84 aeu:=zt (vU _) (Á BA (Á KZ (Á wL Å))) rfl (Á S7 (Á S6 (Á S0 Å))) fun x=>aaH x some
def agQ:ZP 21 UD:=zt (tK _) (Á agX (Á ame (Á RP Å))) rfl (Á My (Á Mz Å)) fun x=>Td x some
def ajW:ZP 38 acB:=zt (PA _) Å rfl (Á Xc Å) fun x=>acT x some
def agP:ZP 22 UC:=zt (tJ _) (Á ajW Å) rfl (Á Mv (Á Mw Å)) fun x=>Tc x some
def afk:ZP 54 Wj:=zt (JU _) (Á ajW Å) rfl (Á S8 Å) fun x=>aaI x some
def ajU:ZP 121 ZY:=zt (xp _) (Á afk Å) rfl (Á Pl (Á Pm Å)) fun x=>W0 x some
def Uf:ZP 57 Dg:=zt (Η _) (Á afk (Á ajU Å)) rfl (Á C0 (Á CZ (Á CY (Á CX Å)))) fun x=>Hk x some
def adE:ZP 65 Om:=zt (Hw _) (Á CD (Á afl Å)) rfl Å fun x=>PL x some
def aj2:ZP 86 Z5:=zt (xC _) Å rfl (Á PQ (Á PR Å)) fun x=>Xp x some
def I8:ZP 23 wY:=zt (Ar _) (Á Uf (Á adE (Á aj2 Å))) rfl Å fun x=>J0 x some
def adD:ZP 56 Ol:=zt (qd _) Å rfl (Á JV (Á JW Å)) fun x=>Pp x some
noncomputable def M5 {a:r8->BE th} (b:jq Tryz.prog 120 ⟨[(.slice tI)],[(.slice (.slice tI))],fun(x:r8)=>a x⟩):jq Tryz.prog 120 ⟨[(.slice tI)],[(.slice (.slice tI))],fun(x:r8)=>nP a x some⟩:=Wc (p:=⟨[(.slice tI)],[(.slice (.slice tI))],fun(x:r8)=>nP a x some⟩) (Ĭ a _) (fun {_}=>libN (Á b Å) _) hmix (tab:=Al a _) rfl (Á JS (Á JT Å)) (nw fun x=>Po x some)
def By:∀n:Nat,jq Tryz.prog 120 ⟨[(.slice tI)],[(.slice (.slice tI))],fun(x:r8)=>qV n x⟩
 |0=>by intro _ _ _ h; cases h
 |n+1=>M5 (By n)
def adC:jq Tryz.prog 120 Oj:=By 100
def ajV:ZP 52 ZZ:=zt (lU _) (Á adD (Á adC Å)) rfl (Á Ps (Á Pu (Á Pv (Á Pq (Á Pr Å))))) fun x=>Xb x some
def amf:ZP 24 aev:=zt (J2 _) (Á I8 (Á ajV Å)) rfl (Á Te Å) fun x=>aaK x some
def YP:ZP 25 Gj:=zt (rM _) (Á Bz Å) rfl (Á Ff Å) fun x=>JX x some
def c_w7_SwapExplains:ZP 3 j9:=zt (qY _) (Á agJ (Á agK (Á adB (Á abS (Á ajT (Á abR (Á agQ (Á agP (Á I8 (Á amf (Á YP (Á Bz Å)))))))))))) rfl Å fun x=>zP x some
end Go.Proofs.ZzM
end
