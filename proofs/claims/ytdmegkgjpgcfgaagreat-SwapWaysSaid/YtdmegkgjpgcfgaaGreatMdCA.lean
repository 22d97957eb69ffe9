/- lemmas -/
import Derived.Test.YtdmegkgjpgcfgaaGreatAmD
import Derived.Test.YtdmegkgjpgcfgaaGreatAmE
import Derived.Ground.NamesProg
import Derived.Ground.Names2Prog
import Derived.KernelRfl
import Derived.Test.YtdmegkgjpgcfgaaGreatMdMA
import Derived.Test.YtdmegkgjpgcfgaaGreatMdKD
import Derived.Test.YtdmegkgjpgcfgaaGreatMdPA
import Derived.RangeFuncBox
import Derived.Lib.SliceRun
import Derived.RangeFuncLeaves
import Derived.WalkKit
import Derived.OwnWalkIn
import Derived.TacticsInMore
import Derived.LoopNIn
import Derived.LoopIn
import Derived.Test.YtdmegkgjpgcfgaaGreatProg
import Derived.RangeFuncFrom
import Derived.RangeFuncRecord
import Derived.Laws.CopyRow
import Derived.Laws.IdiomCopy
import Derived.Test.YtdmegkgjpgcfgaaGreatAmA
import Derived.Test.YtdmegkgjpgcfgaaGreatMdKC
import Derived.Test.YtdmegkgjpgcfgaaGreatMdKB
import Derived.Test.YtdmegkgjpgcfgaaGreatMdKA
set_option linter.all false
noncomputable section
namespace Go.Proofs
open Go.Shelf
def Tryz.laysSort_ren:Go.Shelf.Ren:=⟨fun|189=>184|125=>236|257=>235|128=>284|129=>285|294=>275|295=>276|296=>277|297=>278|298=>279|299=>280|216=>281|300=>282|301=>283|328=>301|329=>302|330=>303|331=>304|332=>305|215=>234|343=>318|n=>n,fun|28=>51|3=>3|46=>148|0=>0|51=>307|53=>309|4=>4|183=>300|182=>299|131=>256|5=>5|9=>9|218=>328|222=>332|228=>342|229=>343|n=>n,fun|n=>n⟩
def Tryz.laysSort:Go.Proofs.Lays.n189 Tryz.prog Tryz.laysSort_ren:={
 mixed:=by kernel_rfl
 f125:=Tryz.func236.trans (congrArg some (by kernel_rfl))
 f128:=Tryz.func284.trans (congrArg some (by kernel_rfl))
 f129:=Tryz.func285.trans (congrArg some (by kernel_rfl))
 f189:=Tryz.func184.trans (congrArg some (by kernel_rfl))
 f215:=Tryz.func234.trans (congrArg some (by kernel_rfl))
 f216:=Tryz.func281.trans (congrArg some (by kernel_rfl))
 f257:=Tryz.func235.trans (congrArg some (by kernel_rfl))
 f294:=Tryz.func275.trans (congrArg some (by kernel_rfl))
 f295:=Tryz.func276.trans (congrArg some (by kernel_rfl))
 f296:=Tryz.func277.trans (congrArg some (by kernel_rfl))
 f297:=Tryz.func278.trans (congrArg some (by kernel_rfl))
 f298:=Tryz.func279.trans (congrArg some (by kernel_rfl))
 f299:=Tryz.func280.trans (congrArg some (by kernel_rfl))
 f300:=Tryz.func282.trans (congrArg some (by kernel_rfl))
 f301:=Tryz.func283.trans (congrArg some (by kernel_rfl))
 f328:=Tryz.func301.trans (congrArg some (by kernel_rfl))
 f329:=Tryz.func302.trans (congrArg some (by kernel_rfl))
 f330:=Tryz.func303.trans (congrArg some (by kernel_rfl))
 f331:=Tryz.func304.trans (congrArg some (by kernel_rfl))
 f332:=Tryz.func305.trans (congrArg some (by kernel_rfl))
 f343:=Tryz.func318.trans (congrArg some (by kernel_rfl))
 t0:=Tryz.underlying0
 a0:=Tryz.isAgg0
 z0:=Tryz.sizeOf0
 v0:=Tryz.zeroValue0
 t3:=Tryz.underlying3
 a3:=Tryz.isAgg3
 z3:=Tryz.sizeOf3
 v3:=Tryz.zeroValue3
 t4:=Tryz.underlying4
 a4:=Tryz.isAgg4
 z4:=Tryz.sizeOf4
 v4:=Tryz.zeroValue4
 t5:=Tryz.underlying5
 a5:=Tryz.isAgg5
 z5:=Tryz.sizeOf5
 v5:=Tryz.zeroValue5
 t9:=Tryz.underlying9
 a9:=Tryz.isAgg9
 z9:=Tryz.sizeOf9
 v9:=Tryz.zeroValue9
 t28:=Tryz.underlying51
 a28:=Tryz.isAgg51
 z28:=Tryz.sizeOf51
 v28:=Tryz.zeroValue51
 t46:=Tryz.underlying148
 a46:=Tryz.isAgg148
 z46:=Tryz.sizeOf148
 v46:=Tryz.zeroValue148
 t51:=Tryz.underlying307
 a51:=Tryz.isAgg307
 z51:=Tryz.sizeOf307
 v51:=Tryz.zeroValue307
 t53:=Tryz.underlying309
 a53:=Tryz.isAgg309
 z53:=Tryz.sizeOf309
 v53:=Tryz.zeroValue309
 t131:=Tryz.underlying256
 a131:=Tryz.isAgg256
 z131:=Tryz.sizeOf256
 v131:=Tryz.zeroValue256
 t182:=Tryz.underlying299
 a182:=Tryz.isAgg299
 z182:=Tryz.sizeOf299
 v182:=Tryz.zeroValue299
 t183:=Tryz.underlying300
 a183:=Tryz.isAgg300
 z183:=Tryz.sizeOf300
 v183:=Tryz.zeroValue300
 t218:=Tryz.underlying328
 a218:=Tryz.isAgg328
 z218:=Tryz.sizeOf328
 v218:=Tryz.zeroValue328
 t222:=Tryz.underlying332
 a222:=Tryz.isAgg332
 z222:=Tryz.sizeOf332
 v222:=Tryz.zeroValue332
 t228:=Tryz.underlying342
 a228:=Tryz.isAgg342
 z228:=Tryz.sizeOf342
 v228:=Tryz.zeroValue342
 t229:=Tryz.underlying343
 a229:=Tryz.isAgg343
 z229:=Tryz.sizeOf343
 v229:=Tryz.zeroValue343}
def Tryz.laysCompact_ren:Go.Shelf.Ren:=⟨fun|20=>249|n=>n,fun|22=>51|3=>3|4=>4|0=>0|n=>n,fun|n=>n⟩
def Tryz.laysCompact:Go.Proofs.Lays2.n20 Tryz.prog Tryz.laysCompact_ren:={
 mixed:=by kernel_rfl
 f20:=Tryz.func249.trans (congrArg some (by kernel_rfl))
 t0:=Tryz.underlying0
 a0:=Tryz.isAgg0
 z0:=Tryz.sizeOf0
 v0:=Tryz.zeroValue0
 t3:=Tryz.underlying3
 a3:=Tryz.isAgg3
 z3:=Tryz.sizeOf3
 v3:=Tryz.zeroValue3
 t4:=Tryz.underlying4
 a4:=Tryz.isAgg4
 z4:=Tryz.sizeOf4
 v4:=Tryz.zeroValue4
 t22:=Tryz.underlying51
 a22:=Tryz.isAgg51
 z22:=Tryz.sizeOf51
 v22:=Tryz.zeroValue51
 i3:=by kernel_rfl}
end Go.Proofs
namespace Go.Proofs.ZzM
open Go Go.Am
def hmix:Tryz.prog.follows .mixedOrders=true:=by kernel_rfl
def plain_ : (Tryz.prog.funcs.toList.all fun fn => !(fn.name == "runtime.NumGoroutine")) = true := by kernel_rfl
def plain (f : Nat) (fn : Func) (h : Tryz.prog.funcs[f]? = some fn) : (fn.name == "runtime.NumGoroutine") = false := by
 have:=dM.1 plain_ fn (dk (i:=f) (by simpa using h));simpa using this
def aou:Tryz.laysSort_ren.f 189=184:=by kernel_rfl
def agJ:Tryz.laysCompact_ren.f 20=249:=by kernel_rfl
section
variable [Ghost] {ρ:Type}
def sortOk (f:Nat) (a:aca f=true) (h:Do Blk) (x:AV) (K:AV->Do Blk->CK ρ) (q:ρ) (e:WY h x K=some q) (ν:Nat->Value) (w:World) (u:Value) (H:HR ν h w) (b:VR ν h w x u):JH Tryz.prog f ν h w [u] K q:=by
 have c:f=184:=by
  unfold aca at a
  split at a
  ·rfl
  ·cases a
 subst c;have:=aoj Tryz.laysSort e H b ⟨_,rfl⟩
 rwa [aou] at this
def akf (f:Nat) (a:Bw f=true) (h:Do Blk) (x:AV) (K:AV->Do Blk->CK ρ) (q:ρ) (e:qC h x K=some q) (ν:Nat->Value) (w:World) (u:Value) (H:HR ν h w) (b:VR ν h w x u):JH Tryz.prog f ν h w [u] K q:=by
 have c:f=249:=by
  unfold Bw at a
  split at a
  ·rfl
  ·cases a
 subst c;have:=ahk Tryz.laysCompact e H b ⟨_,rfl⟩
 rwa [agJ] at this
def ao0:LL Tryz.prog RG:=by
 intro g c fz S nid x v d e ν w u H a b hd;unfold RG at c
 split at c
 ·exact uO Tryz.func114 (T:=31) (by kernel_rfl) (by kernel_rfl) e H a b hd
 ·exact uO Tryz.func115 (T:=51) (by kernel_rfl) (by kernel_rfl) e H a b hd
 ·exact uO Tryz.func140 (T:=103) (by kernel_rfl) (by kernel_rfl) e H a b hd
 ·exact uO Tryz.func170 (T:=27) (by kernel_rfl) (by kernel_rfl) e H a b hd
 ·exact uO Tryz.func182 (T:=24) (by kernel_rfl) (by kernel_rfl) e H a b hd
 ·exact uO Tryz.func250 (T:=25) (by kernel_rfl) (by kernel_rfl) e H a b hd
 ·exact uO Tryz.func251 (T:=26) (by kernel_rfl) (by kernel_rfl) e H a b hd
 ·exact uO Tryz.func252 (T:=28) (by kernel_rfl) (by kernel_rfl) e H a b hd
 ·cases c
def F8 {c:Do (Nat×û)} (h:∀e∈c,jo Tryz.prog e.1 e.2) (E:Env ρ) (b:E.P=Tryz.prog) (l:E.pure=ahc c) (h2:E.sort=aca) (k:E.compact=Bw) (j:E.clone=RG) (i:agq E) (g:∀f X,E.ext f=some X->ahW E.P f X) (d:lh E):JF E:=by
 constructor
 ·intro f p a;rw[l] at a;rw[b];exact h (f,p) (Ww a)
 ·intro f a;rw[h2] at a;rw[b];exact sortOk f a
 ·intro f a;rw[k] at a;rw[b];exact akf f a
 ·rw[b]; exact plain
 ·rw[b,j]; exact ao0
 ·exact i
 ·exact d
 ·exact g
def libN {a:Do (Nat×û)} (h:∀e∈a,jo Tryz.prog e.1 e.2) (tab:Do (ô ρ)):JF (Ù a tab):=F8 h _ rfl rfl rfl rfl rfl (ő rfl) (mU rfl) (jz rfl)
end
abbrev ZP (f:Nat) (p:û):Prop:=jo Tryz.prog f p
def zt {f:Nat} {p:û} {a:Do (Nat×û)} {tab:Do (ô (Val (tyL p.rs)))} (E:Env (Val (tyL p.rs))) (c:∀e∈a,jo Tryz.prog e.1 e.2) (d:E=Ù a tab) (b:∀x∈tab,x.Ok E) (law:∀x:Val (tyL p.ts),topK E f (aec p.ts x) (fun h v=>Å (aot p.rs h v) some)=p.F x):jo Tryz.prog f p:=by
 subst d;exact Xb (Ù a tab) (fun {_}=>libN c _) hmix (tab:=tab) rfl b (nw law)
end Go.Proofs.ZzM
end

noncomputable section
set_option maxRecDepth 100000
namespace Go.Proofs.ZzM
open Go Go.Am
def mX:ZP 93 jC:=zt (ψ _) Æ rfl (Á wj (Á wi Æ)) fun x=>zi x some
noncomputable def UT {n:Nat} (b:lm Tryz.prog ⟨272,(.slice tI),(.slice tI),ac0 n⟩):lm Tryz.prog ⟨272,(.slice tI),(.slice tI),ac0 (n+1)⟩:=Ze ⟨272,(.slice tI),(.slice tI),ac0 (n+1)⟩ (fun al=>Ą al (ac0 n) _) rfl (fun _=>rfl) (fun _=>rfl) (fun _ {_} a=>F8 (Á mX Æ) _ rfl rfl rfl rfl rfl (ő rfl) (mU rfl) a) hmix (fun al=>IF (E:=Ą al (ac0 n) _) hmix (tab:=yU al (ac0 n) _) rfl (Á G7 Æ) (rtab:=Ag al (ac0 n) _) rfl (Á (G6 b) Æ) (Á G5 Æ)) (fun m xs h=>(MQ m (ac0 (n+1))).trans (aiV h))
def Jr:∀n:Nat,lm Tryz.prog ⟨272,(.slice tI),(.slice tI),ac0 n⟩
 |0=>⟨rfl,fun _ _ m xs h=>(Nat.not_lt_zero _ (ae5 (n:=0) (l:=m) (xs:=xs) h).1).elim⟩
 |n+1=>UT (Jr n)
def aks:lm Tryz.prog RD:=(Jr 10).mono fun _ _ h=>agO h
noncomputable def NC {n:Nat} (b:lm Tryz.prog ⟨231,(.slice ġ),(.slice (.slice tI)),ac1 n⟩):lm Tryz.prog ⟨231,(.slice ġ),(.slice (.slice tI)),ac1 (n+1)⟩:=Ze ⟨231,(.slice ġ),(.slice (.slice tI)),ac1 (n+1)⟩ (fun al=>í al (ac1 n) _) rfl (fun _=>rfl) (fun _=>rfl) (fun _ {_} a=>F8 Æ _ rfl rfl rfl rfl rfl (ő rfl) (mU rfl) a) hmix (fun al=>IF (E:=í al (ac1 n) _) hmix (tab:=tx al (ac1 n) _) rfl Æ (rtab:=vJ al (ac1 n) _) rfl (Á (CZ b) (Á (C3 aks) Æ)) (Á CY (Á C2 Æ))) (fun m xs h=>(Hj m (ac1 (n+1))).trans (aek h))
def BG:∀n:Nat,lm Tryz.prog ⟨231,(.slice ġ),(.slice (.slice tI)),ac1 n⟩
 |0=>⟨rfl,fun _ _ m xs h=>(Nat.not_lt_zero _ (ae6 (n:=0) (l:=m) (xs:=xs) h).1).elim⟩
 |n+1=>NC (BG n)
def Ss:lm Tryz.prog sc:=(BG 10).mono fun _ _ h=>acu h
def akr:lm Tryz.prog IJ:=Ze IJ (fun al=>Ď al (fun _=>none) _) rfl (fun _=>rfl) (fun _=>rfl) (fun _ {_} a=>F8 Æ _ rfl rfl rfl rfl rfl (ő rfl) (mU rfl) a) hmix (fun _=>N0 hmix rfl (Á sO Æ) rfl) (fun m xs h=>(we m Ci).trans (aig h))
def wW:ZP 173 nz:=zt (lQ _) Æ rfl (Á xC Æ) fun x=>AA x some
def iB:ZP 92 š:=zt (nl _) (Á wW Æ) rfl Æ fun x=>wg x some
def af9:ZP 201 Xn:=zt (Cg _) (Á iB Æ) rfl (Á UI (Á UH Æ)) fun x=>abY x some
def SJ:ZP 136 GN:=zt (yb _) (Á af9 Æ) rfl (Á Rj (Á Rk Æ)) fun x=>YQ x some
def CN:ZP 141 vC:=zt (Mm _) Æ rfl Æ fun x=>UF x some
def oa:ZP 212 lX:=zt (Ml _) Æ rfl Æ fun x=>Uw x some
def JA:ZP 205 zP:=zt (Ro _) (Á oa Æ) rfl Æ fun x=>YW x some
def af8:ZP 291 Xm:=zt (V5 _) Æ rfl Æ fun x=>abN x some
def akS:ZP 292 ado:=zt (Q9 _) Æ rfl (Á YJ Æ) fun x=>adP x some
def Jz:ZP 253 GJ:=zt (Rb _) (Á af8 (Á akS Æ)) rfl Æ fun x=>YL x some
def aeu:ZP 203 O3:=zt (Iv _) (Á CN (Á JA (Á oa (Á Jz Æ)))) rfl Æ fun x=>Rn x some
def SK:ZP 142 zQ:=zt (nQ _) (Á aeu Æ) rfl (Á Br Æ) fun x=>F3 x some
def Ge:ZP 143 xo:=zt (xY _) Æ rfl (Á KZ Æ) fun x=>Rh x some
def vr:ZP 206 od:=zt (zb _) Æ rfl Æ fun x=>Ie x some
def aet:ZP 204 adq:=zt (If _) (Á JA (Á vr Æ)) rfl Æ fun x=>Ri x some
def ZM:ZP 208 Xo:=zt (mN _) (Á CN (Á vr (Á oa Æ))) rfl (Á F0 (Á FZ Æ)) fun x=>K8 x some
def Ol:ZP 148 GO:=zt (Cf _) (Á iB Æ) rfl (Á UD (Á UC Æ)) fun x=>abX x some
def WL:ZP 172 J2:=zt (Bq _) (Á oa Æ) rfl (Á Nz Æ) fun x=>UE x some
def aga:ZP 259 Xp:=zt (K9 _) (Á oa Æ) rfl (Á UJ Æ) fun x=>abZ x some
def NG:ZP 209 MH:=zt (Ŝ _) (Á mX (Á CN (Á Ol (Á WL (Á JA (Á vr (Á oa (Á aga Æ)))))))) rfl (Á zm (Á zk (Á zl (Á zj Æ)))) fun x=>Dc x some
end Go.Proofs.ZzM
end

noncomputable section
namespace Go.Proofs
open Go.RowKit
attribute [local go_sem] Oper.semAt_some
noncomputable def upE (f:Nat->Int) (k:Nat):Do Int:=(List.range k).map f
def sR (f:Nat->Int) (k:Nat):upE f (k+1)=upE f k++[f k]:=by simp[upE,fC]
def BW (f:Nat->Int) (k:Nat):(upE f k).length=k:=by simp[upE]
def NL (f:Nat->Int) {j k:Nat} (h:j<=k):upE f j <+: upE f k:=by
 have:k=j+(k-j):=by omega
 rw[this,upE,upE,List.range_add,fm];exact eG _ _
set_option maxRecDepth 100000 in
set_option maxHeartbeats 1000000 in
noncomputable def ama (te:TypeId) (n:Nat) (hn:1<=n) (l n₀ bb tb sb:Nat) (flo fhi ga mv:Value) (hbb:bb<n₀) (htb:tb<n₀) (hsb:sb<n₀)
 (ub uo ul uc kb ko kl kc:Nat) (ubase kbase lbase cbase:CK Addr) (ll lc cl cc:Nat) (hub:0<ul->ubase=some ⟨ub,uo,none⟩/\ub<n₀) (hkb:0<kl->kbase=some ⟨kb,ko,none⟩/\kb<n₀)
 (U K:Nat->Int×Int) (eU eL eC eK:Nat->Int)
 (hul:ul<=1000) (hll:ll<=1000) (hcl:cl<=1000) (hkl:kl<=1000)
 (W:World) (hb0:W.heap[bb]?=some (.cells #[flo,fhi,ga,.slice ubase ul uc,.slice lbase ll lc,.slice cbase cl cc,.slice kbase kl kc] te (0,0)))
 (ht:W.cell? ⟨tb,0,none⟩=some (.func (.func 204) #[] #[.pointer (some ⟨sb,0,none⟩)])) (hs:W.cell? ⟨sb,0,none⟩=some mv)
 (hU:∀j,j<ul->W.cell? ⟨ub,uo+j*2,none⟩=some (.int .i64 (U j).1)/\W.cell? ⟨ub,uo+j*2+1,none⟩=some (.int .i64 (U j).2))
 (hK:∀j,j<kl->W.cell? ⟨kb,ko+j*2,none⟩=some (.int .i64 (K j).1)/\W.cell? ⟨kb,ko+j*2+1,none⟩=some (.int .i64 (K j).2))
 (cU:∀j,j<ul->∀W',Below n₀ W W'->CallsIn Fence.wide (n-1) Tryz.prog 204 #[.int .i64 (U j).1,.int .i64 (U j).2,.pointer (some ⟨sb,0,none⟩)] W' fun e W''=>e=.returned (.int .i64 (eU j))/\W'.grownBy W'' none)
 (cK:∀j,j<kl->∀W',Below n₀ W W'->CallsIn Fence.wide (n-1) Tryz.prog 204 #[.int .i64 (K j).1,.int .i64 (K j).2,.pointer (some ⟨sb,0,none⟩)] W' fun e W''=>e=.returned (.int .i64 (eK j))/\W'.grownBy W'' none)
 (cL:∀j,j<ll->∀W',Below n₀ W W'->CallsIn Fence.wide (n-1) Tryz.prog 208 #[.agg #[flo,fhi,ga,.slice ubase ul uc,.slice lbase ll lc,.slice cbase cl cc,.slice kbase kl kc],mv,.int .i64 j] W' fun e W''=>e=.returned (.int .i64 (eL j))/\W'.grownBy W'' none)
 (cC:∀j,j<cl->∀W',Below n₀ W W'->CallsIn Fence.wide (n-1) Tryz.prog 209 #[.agg #[flo,fhi,ga,.slice ubase ul uc,.slice lbase ll lc,.slice cbase cl cc,.slice kbase kl kc],mv,.int .i64 j] W' fun e W''=>e=.returned (.int .i64 (eC j))/\W'.grownBy W'' none)
 (J Jx:Do Int->World->Prop) (hJ:∀pre W W',J pre W->W.grownBy W' none->J pre W') (hJx:∀pre W W',Jx pre W->W.grownBy W' none->Jx pre W')
 (hY:∀pre x W,J pre W->pre.length<ul+(ll+(cl+kl))->YieldAt Fence.wide (n-1) Tryz.prog l #[.int .i64 x] W fun e W' =>
  (e=.returned (.bool true)/\J (pre++[x]) W'/\Below n₀ W W')\/(e=.returned (.bool false)/\Jx (pre++[x]) W'))
 (h0 : J [] W) (hn₀ : n₀ <= W.heap.size) :
  CallsIn Fence.wide n Tryz.prog 207 #[.func (.yield l) #[] #[],.pointer (some ⟨bb,0,none⟩),.pointer (some ⟨tb,0,none⟩),.pointer (some ⟨sb,0,none⟩)] W fun e W'=>(∃v,e=.returned v) /\
   ((∃xs,xs=upE eU ul++(upE eL ll++(upE eC cl++upE eK kl))/\J xs W')\/(∃pre,(pre <+: upE eU ul++(upE eL ll++(upE eC cl++upE eK kl)))/\Jx pre W')):=by
 have grown_alloc:∀(X:World) (o:Obj),X.grownBy (X.alloc o) none:=fun X o=>World.grownBy_alloc X o none
 have bel:∀{X Y:World},Below n₀ W X->X.grownBy Y none->Below n₀ W Y:=fun {X Y} h g =>
  ⟨g.os.trans h.os,g.tape.trans h.tape,g.output.trans h.output,dE h.size g.size,fun k hk=>(g.block k (dB (dB hk hn₀) h.size) (by simp)).trans (h.block k hk)⟩
 have hc:∀{X:World},Below n₀ W X->X.heap[bb]?=some (.cells #[flo,fhi,ga,.slice ubase ul uc,.slice lbase ll lc,.slice cbase cl cc,.slice kbase kl kc] te (0,0)):=fun h=>(h.block bb hbb).trans hb0;refine callsIn_of_wp Tryz.func207 rfl trivial ?_ rfl;simp only[Tryz.ntmps207,fR,dr,dR,Nat.reduceAdd,Nat.reduceSub,Array.replicate_succ,Array.replicate_zero,List.push_toArray,gX,eE,fq]
 have hb3:W.cell? ⟨bb,3,none⟩=some (.slice ubase ul uc):=by simp[World.cell?,hb0]
 gi_wp2
 gi_loopw [14] (fun i wr=>∃k:Nat,k<=ul/\i=.int .i64 k/\J (upE eU k) wr/\Below n₀ W wr)
  (fun i _=>ul-(intOf i).toNat)
 case atStart=>exact⟨0,d9 _,rfl,h0,Below.refl _ _⟩
 case round =>
  obtain⟨k,hk,rfl,hJs,hnx⟩:=hrel
  by_cases hlt:k<ul
  ·obtain⟨rfl,hlu⟩:=hub (by omega);have hu1:=(hnx.cell (p:=⟨ub,uo+k*2,none⟩) hlu).trans (hU k hlt).1;have hu2:=(hnx.cell (p:=⟨ub,uo+k*2+1,none⟩) hlu).trans (hU k hlt).2;have ht':=(hnx.cell (p:=⟨tb,0,none⟩) htb).trans ht;have hta:∀o,(wr.alloc o).cell? ⟨tb,0,none⟩=some (.func (.func 204) #[] #[.pointer (some ⟨sb,0,none⟩)]):=fun o=>Lib.cell?_alloc_some _ ht'
   gi_wp2
   refine⟨trivial,(cU k hlt _ (bel hnx (grown_alloc _ _))).mono ?_⟩;rintro e W2 ⟨rfl,hg2⟩;obtain⟨fn,tmps,assign,body,hy,hR⟩:=hY _ (eU k) W2 (hJ _ _ _ (hJ _ _ _ hJs (grown_alloc _ _)) hg2) (by rw[BW]; omega);have hb2:=bel (bel hnx (grown_alloc _ _)) hg2
   gi_wp2
   refine hR.mono ?_;rintro e W3 (⟨rfl,hJ3,hk3⟩|⟨rfl,hJx3⟩)
   ·gi_wp2
    go_roundw
    case rel=>exact⟨k+1,by omega,by simp,by rw[sR]; exact hJ3,hb2.trans hk3⟩
    case measure=>simp[intOf]; omega
   ·gi_wp2
    refine bodyPost_ret (results_none rfl _ _ _) rfl ?_;refine⟨⟨_,rfl⟩,.inr ⟨_,?_,hJx3⟩⟩;rw[<-sR];exact(NL eU (by omega)).trans (eG _ _)
  ·obtain rfl:ul=k:=by omega
   have hb4:wr.cell? ⟨bb,4,none⟩=some (.slice lbase ll lc):=by simp[World.cell?,hc hnx]
   gi_wp2
   gi_loopw [31] (fun i wr=>∃k:Nat,k<=ll/\i=.int .i64 k/\J (upE eU ul++upE eL k) wr/\Below n₀ W wr)
    (fun i _=>ll-(intOf i).toNat)
   case atStart=>exact⟨0,d9 _,rfl,by simpa[upE] using hJs,hnx⟩
   case round =>
    clear hJs hnx;obtain⟨k,hk,rfl,hJs,hnx⟩:=hrel
    by_cases hlt:k<ll
    ·have q0:wr.cell? ⟨bb,0,none⟩=some flo:=by simp[World.cell?,hc hnx]
     have q1:wr.cell? ⟨bb,1,none⟩=some fhi:=by simp[World.cell?,hc hnx]
     have q2:wr.cell? ⟨bb,2,none⟩=some ga:=by simp[World.cell?,hc hnx]
     have q3:wr.cell? ⟨bb,3,none⟩=some (.slice ubase ul uc):=by simp[World.cell?,hc hnx]
     have q4:wr.cell? ⟨bb,4,none⟩=some (.slice lbase ll lc):=by simp[World.cell?,hc hnx]
     have q5:wr.cell? ⟨bb,5,none⟩=some (.slice cbase cl cc):=by simp[World.cell?,hc hnx]
     have q6:wr.cell? ⟨bb,6,none⟩=some (.slice kbase kl kc):=by simp[World.cell?,hc hnx]
     have hs':=(hnx.cell (p:=⟨sb,0,none⟩) hsb).trans hs
     gi_wp2
     refine⟨trivial,(cL k hlt _ hnx).mono ?_⟩;rintro e W2 ⟨rfl,hg2⟩;obtain⟨fn,tmps,assign,body,hy,hR⟩:=hY _ (eL k) W2 (hJ _ _ _ hJs hg2) (by simp only[di,BW]; omega);have hb2:=bel hnx hg2
     gi_wp2
     refine hR.mono ?_;rintro e W3 (⟨rfl,hJ3,hk3⟩|⟨rfl,hJx3⟩)
     ·gi_wp2
      go_roundw
      case rel=>exact⟨k+1,by omega,by simp,by rw[sR,<-dp]; exact hJ3,hb2.trans hk3⟩
      case measure=>simp[intOf]; omega
     ·gi_wp2
      refine bodyPost_ret (results_none rfl _ _ _) rfl ?_;refine⟨⟨_,rfl⟩,.inr ⟨_,?_,hJx3⟩⟩;rw[dp,<-sR];exact(fe _).2 ((NL eL (by omega)).trans (eG _ _))
    ·obtain rfl:ll=k:=by omega
     have hb5:wr.cell? ⟨bb,5,none⟩=some (.slice cbase cl cc):=by simp[World.cell?,hc hnx]
     gi_wp2
     gi_loopw [45] (fun i wr=>∃k:Nat,k<=cl/\i=.int .i64 k/\J (upE eU ul++upE eL ll++upE eC k) wr/\Below n₀ W wr)
      (fun i _=>cl-(intOf i).toNat)
     case atStart=>exact⟨0,d9 _,rfl,by simpa[upE] using hJs,hnx⟩
     case round =>
      clear hJs hnx;obtain⟨k,hk,rfl,hJs,hnx⟩:=hrel
      by_cases hlt:k<cl
      ·have q0:wr.cell? ⟨bb,0,none⟩=some flo:=by simp[World.cell?,hc hnx]
       have q1:wr.cell? ⟨bb,1,none⟩=some fhi:=by simp[World.cell?,hc hnx]
       have q2:wr.cell? ⟨bb,2,none⟩=some ga:=by simp[World.cell?,hc hnx]
       have q3:wr.cell? ⟨bb,3,none⟩=some (.slice ubase ul uc):=by simp[World.cell?,hc hnx]
       have q4:wr.cell? ⟨bb,4,none⟩=some (.slice lbase ll lc):=by simp[World.cell?,hc hnx]
       have q5:wr.cell? ⟨bb,5,none⟩=some (.slice cbase cl cc):=by simp[World.cell?,hc hnx]
       have q6:wr.cell? ⟨bb,6,none⟩=some (.slice kbase kl kc):=by simp[World.cell?,hc hnx]
       have hs':=(hnx.cell (p:=⟨sb,0,none⟩) hsb).trans hs
       gi_wp2
       refine⟨trivial,(cC k hlt _ hnx).mono ?_⟩;rintro e W2 ⟨rfl,hg2⟩;obtain⟨fn,tmps,assign,body,hy,hR⟩:=hY _ (eC k) W2 (hJ _ _ _ hJs hg2) (by simp only[di,BW]; omega);have hb2:=bel hnx hg2
       gi_wp2
       refine hR.mono ?_;rintro e W3 (⟨rfl,hJ3,hk3⟩|⟨rfl,hJx3⟩)
       ·gi_wp2
        go_roundw
        case rel=>exact⟨k+1,by omega,by simp,by rw[sR,<-dp]; exact hJ3,hb2.trans hk3⟩
        case measure=>simp[intOf]; omega
       ·gi_wp2
        refine bodyPost_ret (results_none rfl _ _ _) rfl ?_;refine⟨⟨_,rfl⟩,.inr ⟨_,?_,hJx3⟩⟩;rw[dp,<-sR]
        exact by rw[dp]; exact(fe _).2 ((fe _).2 ((NL eC (by omega)).trans (eG _ _)))
      ·obtain rfl:cl=k:=by omega
       have hb6:wr.cell? ⟨bb,6,none⟩=some (.slice kbase kl kc):=by simp[World.cell?,hc hnx]
       gi_wp2
       gi_loopw [59] (fun i wr=>∃k:Nat,k<=kl/\i=.int .i64 k/\J ((upE eU ul++upE eL ll++upE eC cl)++upE eK k) wr/\Below n₀ W wr)
        (fun i _=>kl-(intOf i).toNat)
       case atStart=>exact⟨0,d9 _,rfl,by simpa[upE] using hJs,hnx⟩
       case round =>
        clear hJs hnx;obtain⟨k,hk,rfl,hJs,hnx⟩:=hrel
        by_cases hlt:k<kl
        ·obtain⟨rfl,hlk⟩:=hkb (by omega);have hu1:=(hnx.cell (p:=⟨kb,ko+k*2,none⟩) hlk).trans (hK k hlt).1;have hu2:=(hnx.cell (p:=⟨kb,ko+k*2+1,none⟩) hlk).trans (hK k hlt).2;have ht':=(hnx.cell (p:=⟨tb,0,none⟩) htb).trans ht;have hta:∀o,(wr.alloc o).cell? ⟨tb,0,none⟩=some (.func (.func 204) #[] #[.pointer (some ⟨sb,0,none⟩)]):=fun o=>Lib.cell?_alloc_some _ ht'
         gi_wp2
         refine⟨trivial,(cK k hlt _ (bel hnx (grown_alloc _ _))).mono ?_⟩;rintro e W2 ⟨rfl,hg2⟩;obtain⟨fn,tmps,assign,body,hy,hR⟩:=hY _ (eK k) W2 (hJ _ _ _ (hJ _ _ _ hJs (grown_alloc _ _)) hg2) (by simp only[di,BW]; omega);have hb2:=bel (bel hnx (grown_alloc _ _)) hg2
         gi_wp2
         refine hR.mono ?_;rintro e W3 (⟨rfl,hJ3,hk3⟩|⟨rfl,hJx3⟩)
         ·gi_wp2
          go_roundw
          case rel=>exact⟨k+1,by omega,by simp,by rw[sR,<-dp]; exact hJ3,hb2.trans hk3⟩
          case measure=>simp[intOf]; omega
         ·gi_wp2
          refine bodyPost_ret (results_none rfl _ _ _) rfl ?_;refine⟨⟨_,rfl⟩,.inr ⟨_,?_,hJx3⟩⟩;rw[dp,<-sR,dp,dp];exact(fe _).2 ((fe _).2 ((fe _).2 (NL eK (by omega))))
        ·obtain rfl:kl=k:=by omega
         gi_wp2
         go_end0
         exact⟨⟨_,rfl⟩,.inl ⟨_,rfl,by simpa[dp] using hJs⟩⟩
end Go.Proofs
end

noncomputable section
set_option maxRecDepth 100000
namespace Go.Proofs.ZzM
open Go Go.Am Go.RowKit
def ae3 (p:String):Code:=.region 10 #[{dst:=some 5,op:=.assign (.tmp 49),type:=38,pos:=p,after:=#[],guard:=none}] false
def anF (q r:String):Code:=.block 1 (.seq (.region 11 #[{dst:=some 50,op:=.move (.tmp 5),type:=38,pos:=q,after:=#[],guard:=none},{dst:=some 51,op:=.binOp .neq 38 (.tmp 50) (.const (.int .i64 0)) 38,type:=4,pos:=q,after:=#[{on:=0,ground:=.data}],guard:=none}] false)
 (.cond (.tmp 51) (.seq (.region 12 #[{dst:=some 52,op:=.move (.tmp 5),type:=38,pos:=r,after:=#[],guard:=none},{dst:=none,op:=.store 38 (.tmp 2) (.tmp 52),type:=0,pos:=r,after:=#[{on:=0,ground:=.data},{on:=0,ground:=.phase}],guard:=none}] false) .ret) .skip))
section
variable {P:Program} {F:Fence} {n:Nat}
def GQ {b:Array Oper} {i d:Nat} {o:Oper} {u:Value} {w w':World} {a:Act} {next:Act->World->Prop} {Q:Exit->Act->World->Prop} (m:∀f,F.fn f) (j:b[i]?=some o) (l:o.guard=none) (hd:o.dst=some d) (g:∀c,o.op≠.defer c)
 (e:(execOp a.eval o).run P w=.ok (.value u) w') (k:next (a.put (some d) u) w'):wpOpIn F n P b Q i next a w:=by
 unfold wpOpIn;rw[j]
 have h:Region.wanted o (yielded b a.tmps)=true:=by simp[Region.wanted,l]
 simp only[h,if_true];refine⟨fun _ _=>m _,?_⟩;rw[Oper.semAt_eq _ _ _ g,e];rw[<-hd] at k;exact k
def agQ {b:Array Oper} {i:Nat} {o:Oper} {w w':World} {a:Act} {next:Act->World->Prop} {Q:Exit->Act->World->Prop} (l:∀f,F.fn f) (h:b[i]?=some o) (j:o.guard=none) (hd:o.dst=none) (e:∀c,o.op≠.defer c)
 (d:(execOp a.eval o).run P w=.ok .skip w') (k:next a w'):wpOpIn F n P b Q i next a w:=by
 unfold wpOpIn;rw[h]
 have g:Region.wanted o (yielded b a.tmps)=true:=by simp[Region.wanted,j]
 simp only[g,if_true];refine⟨fun _ _=>l _,?_⟩;rw[Oper.semAt_eq _ _ _ e,d];show next (a.put o.dst undef) w';rw[hd];exact k
end
def ku (T:Array Value) (i j:Nat) (v:Value):(T.setIfInBounds i v).getD j undef=if i=j/\i<T.size then v else T.getD j undef:=by
 simp only[eN,f5]
 by_cases h:i=j
 ·subst h
  by_cases h2:i<T.size
  ·simp[h2]
  ·simp[h2]
 ·simp[h]
noncomputable def mark (D:Nat):Deferred:={target:=.collected D,args:=#[]}
structure Put1 (n₀ rb:Nat) (x:Int) (w W:World):Prop where
 os:W.os=w.os
 tape:W.tape=w.tape
 output:W.output=w.output
 size:w.heap.size<=W.heap.size
 block:∀k,k<n₀->k≠rb->W.heap[k]?=w.heap[k]?
 cell:∃e,W.heap[rb]?=some (.cells #[.int .i64 x] e (0,0))
set_option maxHeartbeats 4000000 in
def aor {a:Act} {w:World} {Q:Exit->Act->World->Prop} {lb:Array Value} {L:Do Int} {rb:Nat} {e0:TypeId} {v0:Value} {p q r:String}
 (O:SeqStopsK Fence.wide 1 Tryz.prog 207 lb (fun x:Int=>#[.int .i64 x]) (Below w.heap.size) (fun xs=>xs=L) (fun i=>i <+: L) L.length w)
 (hg:a.tmps.getD 48 undef=.func (.func 207) #[] lb) (h2:a.tmps.getD 2 undef=.pointer (some ⟨rb,0,none⟩)) (hsz:78<=a.tmps.size)
 (U:w.heap[rb]?=some (.cells #[v0] e0 (0,0)))
 (z:∀D W,(∀x∈L,x=0)->Below w.heap.size w W->w.heap.size<=D->W.heap[D]?=some (.deferred (some []))->Q .normal {a with defers:=mark D::a.defers} W)
 (m:∀D W x,L.find? (fun e=>e != 0)=some x->Put1 w.heap.size rb x w W->w.heap.size<=D->W.heap[D]?=some (.deferred (some []))->Q .ret {a with defers:=mark D::a.defers} W) :
 (Code.rangeFunc (.tmp 48) #[49] (ae3 p) (anF q r)).wpIn Fence.wide 2 Tryz.prog Q a w:=by
 have X:∀f,Fence.wide.fn f:=fun _=>trivial;have R:=ĥ U
 refine wpIn_rangeFunc_ownF (α:=Int) (encs:=fun x=>#[.int .i64 x]) (Kp:=Below w.heap.size) (S:=fun xs=>xs=L) (Sp:=fun i=>i <+: L) (N:=L.length) (w0:=w) rfl (by omega) hg trivial (fun args w=>?eg) O
  (fun h k=>h.trans k) (fun W l o o' hl ho hc hw=>belowK_b (dh _) W l o o' hl ho hc hw) (Below.refl _ _) (fun _=>rfl)
  (fun i W=>(∀x∈i,x=0)/\Below w.heap.size w W)
  (fun c i W=>c=.ret/\∃j x,i=j++[x]/\(∀x∈j,x=0)/\x≠0/\Put1 w.heap.size rb x w W)
  ?hI ?hIx ⟨by simp,Below.refl _ _⟩ (fun x=>{tmps:=(a.tmps.setIfInBounds 49 (.int .i64 x)).setIfInBounds 5 (.int .i64 x),defers:=[]}) ?hassign ?hbody ?z ?m
 case eg=>simp[callFunc,Sem.run_bind,run_program,Result.andThen_ok,Tryz.func207,plain 207 _ Tryz.func207,show Tryz.f207.body.isNone=false from rfl]; rfl
 case hI =>
  intro s W W' row ⟨E,h2⟩ g hr;exact⟨E,g.os.trans h2.os,g.tape.trans h2.tape,g.output.trans h2.output,dE h2.size g.size,fun k A=>(g.block k (dB A h2.size) (fun e=>by have:=(hr k e.symm).1; omega)).trans (h2.block k A)⟩
 case hIx =>
  intro c s W W' row ⟨E,j,x,h3,h4,h5,C⟩ g hr;have hb:∀k,k<w.heap.size->W'.heap[k]?=W.heap[k]?:=fun k A=>g.block k (dB A C.size) (fun e=>by have:=(hr k e.symm).1; omega)
  exact⟨E,j,x,h3,h4,h5,g.os.trans C.os,g.tape.trans C.tape,g.output.trans C.output,dE C.size g.size,fun k A G=>(hb k A).trans (C.block k A G),by
   obtain⟨e,he⟩:=C.cell
   exact⟨e,(hb rb R).trans he⟩⟩
 case hassign =>
  intro l x W K hK
  have hf:((#[49]:Array Tmp).zip #[Value.int .i64 x]).foldl (fun t (p,v)=>t.setIfInBounds p v) a.tmps=a.tmps.setIfInBounds 49 (.int .i64 x):=by simp
  rw[hf];refine wpIn_region ?_;rw[show ∀o:Oper,List.range (#[o]:Array Oper).size=[0] from fun _=>rfl,wpOpsIn_cons];refine GQ (d:=5) (u:=.int .i64 x) (w':=W) X rfl rfl rfl (by simp) ?_ hK;show Result.ok (Next.value ((a.tmps.setIfInBounds 49 (.int .i64 x)).getD 49 undef)) W=_;rw[ku,if_pos ⟨rfl,by omega⟩]
 case hbody =>
  intro l i x W ⟨E,hbel⟩ hpre;refine wpIn_block (wpIn_seq (wpIn_region ?_));rw[show ∀o p:Oper,List.range (#[o,p]:Array Oper).size=[0,1] from fun _ _=>rfl,wpOpsIn_cons]
  refine GQ (d:=50) (u:=.int .i64 x) (w':=W) X rfl rfl rfl (by simp) (by
   show Result.ok (Next.value (((a.tmps.setIfInBounds 49 (.int .i64 x)).setIfInBounds 5 (.int .i64 x)).getD 5 undef)) W=_
   rw[ku,if_pos ⟨rfl,by simp; omega⟩]) ?_
  rw[wpOpsIn_cons]
  refine GQ (d:=51) (u:=.bool (x != 0)) (w':=W) X rfl rfl rfl (by simp) (by
   show((do let u <-(do eqGuard .neq 38 (.tmp 50) (.const (.int .i64 0)) ((((a.tmps.setIfInBounds 49 (.int .i64 x)).setIfInBounds 5 (.int .i64 x)).setIfInBounds 50 (.int .i64 x)).getD 50 undef) (.int .i64 0); binOp .neq 38 ((((a.tmps.setIfInBounds 49 (.int .i64 x)).setIfInBounds 5 (.int .i64 x)).setIfInBounds 50 (.int .i64 x)).getD 50 undef) (.int .i64 0)); pure (.value u)):Sem Next).run Tryz.prog W=_;rw[ku,if_pos ⟨rfl,by simp; omega⟩]
   simp[eqGuard,binOp,Op.intCmp]) ?_
  show Code.wpIn (Fence.wide.inRound l) (2-1-1) Tryz.prog (Code.cond (.tmp 51) _ .skip) _ {tmps:=((((a.tmps.setIfInBounds 49 (.int .i64 x)).setIfInBounds 5 (.int .i64 x)).setIfInBounds 50 (.int .i64 x)).setIfInBounds 51 (.bool (x != 0))),defers:=[]} W;obtain⟨T,B⟩:∃T,T=((((a.tmps.setIfInBounds 49 (.int .i64 x)).setIfInBounds 5 (.int .i64 x)).setIfInBounds 50 (.int .i64 x)).setIfInBounds 51 (.bool (x != 0))):=⟨_,rfl⟩;rw[<-B]
  have J:T.getD 51 undef=.bool (x != 0):=by rw[B,ku,if_pos ⟨rfl,by simp; omega⟩]
  have t5:T.getD 5 undef=.int .i64 x:=by rw[B,ku,if_neg (by simp),ku,if_neg (by simp),ku,if_pos ⟨rfl,by simp; omega⟩]
  have t2:T.getD 2 undef=.pointer (some ⟨rb,0,none⟩):=by rw[B,ku,if_neg (by simp),ku,if_neg (by simp),ku,if_neg (by simp),ku,if_neg (by simp),h2]
  have tsz:78<=T.size:=by rw[B]; simpa using hsz
  clear B
  by_cases Y:x=0
  ·have I:Act.eval {tmps:=T,defers:=[]} (.tmp 51)=.bool false:=J.trans (by simp[Y]);refine wpIn_cond_false I (wpIn_skip ?_);simp only[Exit.inBlock,ownPostK];exact⟨KeepsOthers.refl _,Below.refl _ _,fun y hy=>(dl.1 hy).elim (E y) (fun h=>by rw[dq] at h; rw[h,Y]),hbel⟩
  ·have I:Act.eval {tmps:=T,defers:=[]} (.tmp 51)=.bool true:=J.trans (by simp[Y]);refine wpIn_cond_true I (wpIn_seq (wpIn_region ?_));rw[show ∀o p:Oper,List.range (#[o,p]:Array Oper).size=[0,1] from fun _ _=>rfl,wpOpsIn_cons]
   have e5:(execOp (Act.eval {tmps:=T,defers:=[]}) {dst:=some 52,op:=.move (.tmp 5),type:=38,pos:=r,after:=#[],guard:=none}).run Tryz.prog W=.ok (.value (.int .i64 x)) W:=by
    show Result.ok (Next.value (T.getD 5 undef)) W=_;rw[t5]
   refine GQ (d:=52) (u:=.int .i64 x) (w':=W) X rfl rfl rfl (by simp) e5 ?_;rw[wpOpsIn_cons];have hW:W.heap[rb]?=some (.cells #[v0] e0 (0,0)):=(hbel.block rb R).trans U
   letI:Ghost:=(Gk (fun _=>False) [] (none))
   have hst:=zA (P:=Tryz.prog) (w:=W) (t:=38) (u:=.int .i64 x) (n:=1) (b:=rb) (o:=0) (by kernel_rfl) rfl hW (by simp) (by simp[Value.cells,Value.oneCell'])
   have M:(storeVar 38 ⟨rb,0,none⟩ (.int .i64 x)).run Tryz.prog W=.ok () (W.setRow rb #[.int .i64 x]):=by simpa[Value.cells] using hst
   have Z:(T.setIfInBounds 52 (.int .i64 x)).getD 52 undef=.int .i64 x:=by rw[ku,if_pos ⟨rfl,by omega⟩]
   have t2':(T.setIfInBounds 52 (.int .i64 x)).getD 2 undef=.pointer (some ⟨rb,0,none⟩):=by rw[ku,if_neg (by simp),t2]
   have e6:(execOp (Act.eval {tmps:=T.setIfInBounds 52 (.int .i64 x),defers:=[]}) {dst:=none,op:=.store 38 (.tmp 2) (.tmp 52),type:=0,pos:=r,after:=#[{on:=0,ground:=.data},{on:=0,ground:=.phase}],guard:=none}).run Tryz.prog W=.ok .skip (W.setRow rb #[.int .i64 x]):=by
    show((do Instr.storeAt 38 ((T.setIfInBounds 52 (.int .i64 x)).getD 2 undef) ((T.setIfInBounds 52 (.int .i64 x)).getD 52 undef); pure .skip):Sem Next).run Tryz.prog W=_;rw[Z,t2'];simp[Instr.storeAt,Instr.sureAddr,M]
   refine agQ (w':=W.setRow rb #[.int .i64 x]) X rfl rfl rfl (by simp) e6 ?_;refine wpIn_ret ?_;simp only[Exit.inBlock,ownPostK];refine⟨⟨by simp,fun k o A ho=>?_⟩,trivial,i,x,rfl,E,Y,hbel.os,hbel.tape,hbel.output,by simpa using hbel.size,fun k A G=>(setRow_other _ _ _ _ G).trans (hbel.block k A),⟨_,setRow_heap _ _ _ _ _ _ hW⟩⟩
   by_cases V:k=rb
   ·subst V; rw[hW] at A; cases A; simp[Obj.isCells] at ho
   ·rw[setRow_other _ _ _ _ V]; exact A
 case z =>
  intro D xs W hD hS ⟨E,hbel⟩ H;subst hS;exact z D W E hbel hD H
 case m =>
  intro D c i W hD hS ⟨hc,j,x,h3,h4,h5,C⟩ H;subst hc;refine wpIn_ret (m D W x ?_ C hD H);obtain⟨t,rfl⟩:=hS;rw[h3,dp,List.find?_append]
  have:List.find? (fun e=>e != 0) j=none:=ew.2 fun y hy=>by simp[h4 y hy]
  rw[this];simp[h5]
end Go.Proofs.ZzM
end

noncomputable section
set_option maxRecDepth 100000
namespace Go.Proofs.ZzM
open Go Go.Am Go.RowKit
noncomputable def fstC:Code->Code
 |.seq a _=>a
 |c=>c
noncomputable def sndC:Code->Code
 |.seq _ b=>b
 |c=>c
noncomputable def ai5:Nat->Code->Code
 |0,c=>fstC c
 |n+1,c=>ai5 n (sndC c)
noncomputable def amK:Nat->Code->Code
 |0,c=>c
 |n+1,c=>amK n (sndC c)
noncomputable def ckB:Code:=Tryz.f72.body.getD .skip
noncomputable def ckA5:Code:=fstC (amK 5 ckB |> fstC)
noncomputable def ckRF:Code:=sndC (amK 5 ckB |> fstC)
noncomputable def WG:Code:=sndC (amK 5 ckB)
noncomputable def ckPre:Code:=.seq (ai5 0 ckB) (.seq (ai5 1 ckB) (.seq (ai5 2 ckB) (.seq (ai5 3 ckB) (.seq (ai5 4 ckB) ckA5))))
def an0:Tryz.f72.body=some (.seq (ai5 0 ckB) (.seq (ai5 1 ckB) (.seq (ai5 2 ckB) (.seq (ai5 3 ckB) (.seq (ai5 4 ckB) (.seq (.seq ckA5 ckRF) WG)))))):=by kernel_rfl
noncomputable def ck_pt:Do (Nat×û):=[(136,GN),(143,xo),(141,vC),(142,zQ)]
noncomputable def ckE (ρ:Type):Env ρ:=Ù ck_pt []
abbrev ckR:Type:=Int ⊕ (Do AV×Do Blk)
noncomputable def akp (S:St):CK Int:=match vx Tryz.prog Tryz.f72 S with
 |some v=>aot [tI] S.h v
 |none=>none
noncomputable def ckK (e:Exit) (S:St):CK ckR:=match e with
 |.ret=>match akp S with
  |some n=>some (.inl n)
  |none=>none
 |.normal=>match decide (78<=S.t.length) with
  |true=>some (.inr ([lk S.t 1,lk S.t 2,lk S.t 48],S.h))
  |false=>none
 |_=>none
noncomputable def ckH (x:b6) (s:kw) (n:Int):Do Blk :=
 [.cells (flat È x),.cells [.int .i64 n],.cells (flat È x),.cells [.mp tI Ö s],.cells [.fn (.func 204) [] [.box 3 0]]]
noncomputable def ckM (x:b6):CK ckR :=
 Å (Λ x.1 (0:Int) (1000000:Int)) fun r1=>ifb (!r1) (some (.inl 1)) (ifb (igt (Õ x.2.1) (12:Int)) (some (.inl 2)) (ifb (igt (Õ x.2.2.1) (40:Int)) (some (.inl 2)) (ifb (igt (Õ x.2.2.2.1) (12:Int)) (some (.inl 2)) (ifb (igt (Õ x.2.2.2.2.1) (40:Int)) (some (.inl 2)) (ifb (igt (Õ x.2.2.2.2.2) (10:Int)) (some (.inl 2))
  (Å (Ż x) fun r2=>ifb (ine r2 (0:Int)) (some (.inl r2)) (Å (Ł x) fun a=>some (.inr ([.box 0 0,.box 1 0,.fn (.func 207) [] [.box 2 0,.box 4 0,.box 3 0]],ckH x a 0)))))))))
def ck_pre (x:b6):goC (ckE ckR) (Ţ (ckE ckR) 10) 72 [] 0 0 ckPre {t:=aec [È] x++List.replicate 77 .any,h:=[]} ckK=ckM x:=by kernel_rfl
noncomputable def amS (ρ:Type):Env ρ:={ckE ρ with inl:=fun _=>false}
noncomputable def ckS (x:b6):CK Int :=
 Å (sq x) fun c=>ifb (igt (Õ c) (59:Int)) (some (2:Int)) (ck ((2:Int)*(Õ x.2.1)) fun n6=>ck ((Õ c)-(Õ x.2.1)) fun f=>ck ((2:Int)*f) fun e=>ck (n6+e) fun d=>ck ((2:Int)*(Õ x.2.2.2.2.1)) fun b=>ck (d+b) fun a=>ifb (igt a (300:Int)) (some (2:Int)) (some (0:Int)))
noncomputable def ckK2 (e:Exit) (S:St):CK Int:=match e with
 |.ret=>match lk S.t 2 with
  |.box 1 0=>match lkB S.h 1 with
   |.cells [.int .i64 n]=>some n
   |_=>none
  |_=>none
 |_=>none
def ck_suf (x:b6) (s:kw):goC (amS Int) (Ţ (amS Int) 10) 72 [] 0 0 WG {t:=[.any,.box 0 0,.box 1 0]++List.replicate 75 .any,h:=ckH x s 0} ckK2=ckS x:=by kernel_rfl
def amR (x:b6):η x=match ckM x with
 |none=>none
 |some (.inl n)=>some n
 |some (.inr _)=>Å (Ł x) fun s=>aaw (pj x s) some (ckS x):=by
 unfold η Rw ckM ckS
 cases Λ x.1 (0:Int) (1000000:Int) with
 |none=>rfl
 |some r1 =>
 cases r1 with
 |false=>rfl
 |true =>
 simp only[Å,ifb,dV]
 cases igt (Õ x.2.1) (12:Int) with
 |true=>rfl
 |false =>
 cases igt (Õ x.2.2.1) (40:Int) with
 |true=>rfl
 |false =>
 cases igt (Õ x.2.2.2.1) (12:Int) with
 |true=>rfl
 |false =>
 cases igt (Õ x.2.2.2.2.1) (40:Int) with
 |true=>rfl
 |false =>
 cases igt (Õ x.2.2.2.2.2) (10:Int) with
 |true=>rfl
 |false =>
 cases Ż x with
 |none=>rfl
 |some r2 =>
 simp only
 cases ine r2 (0:Int) with
 |true=>rfl
 |false =>
 cases Ł x with
 |none=>rfl
 |some a=>rfl
def ao3 {x:b6} {q:Do AV×Do Blk} (h:ckM x=some (.inr q)):((x.2.2.1:Do a8).length<=1000/\(x.2.2.2.1:Do so).length<=1000/\(x.2.2.2.2.1:Do im).length<=1000/\(x.2.2.2.2.2:Do a8).length<=1000) /\
 ∃s,Ł x=some s/\q=([.box 0 0,.box 1 0,.fn (.func 207) [] [.box 2 0,.box 4 0,.box 3 0]],ckH x s 0):=by
 unfold ckM at h
 cases h0:Λ x.1 (0:Int) (1000000:Int) with
 |none=>rw[h0] at h; cases h
 |some r1 =>
 rw[h0] at h
 cases r1 with
 |false=>cases h
 |true =>
 simp only[Å,ifb,dV] at h
 cases g:igt (Õ x.2.1) (12:Int) with
 |true=>rw[g] at h; cases h
 |false =>
 rw[g] at h
 cases h2:igt (Õ x.2.2.1) (40:Int) with
 |true=>rw[h2] at h; cases h
 |false =>
 rw[h2] at h
 cases c:igt (Õ x.2.2.2.1) (12:Int) with
 |true=>rw[c] at h; cases h
 |false =>
 rw[c] at h
 cases b:igt (Õ x.2.2.2.2.1) (40:Int) with
 |true=>rw[b] at h; cases h
 |false =>
 rw[b] at h
 cases a:igt (Õ x.2.2.2.2.2) (10:Int) with
 |true=>rw[a] at h; cases h
 |false =>
 rw[a] at h
 cases f:Ż x with
 |none=>rw[f] at h; cases h
 |some r2 =>
 rw[f] at h;simp only at h
 cases e:ine r2 (0:Int) with
 |true=>rw[e] at h; cases h
 |false =>
 rw[e] at h
 cases d:Ł x with
 |none=>rw[d] at h; cases h
 |some i =>
 rw[d] at h
 have lt:∀{α:Type} (l:Do α) (n:Nat),igt (Õ l) (n:Int)=false->l.length<=n:=by
  intro α l n h;unfold Õ at h;rw[O7] at h;simp only[igt,gt_iff_lt,decide_eq_false_iff_not] at h;omega
 simp only[Option.some.injEq,Sum.inr.injEq] at h;exact⟨⟨by have:=lt x.2.2.1 40 h2; omega,by have:=lt x.2.2.2.1 12 c; omega,by have:=lt x.2.2.2.2.1 40 b; omega,by have:=lt x.2.2.2.2.2 10 a; omega⟩,i,rfl,h.symm⟩
def GY {α β:Type} {f:α->CK β}:∀{l:Do α} {m:Do β},Pd f l=some m->m.length=l.length/\∀(i:Nat) (a:α),l[i]?=some a->∃b,m[i]?=some b/\f a=some b
 |[],m,h=>by cases h; exact⟨rfl,fun i a ha=>by simp at ha⟩
 |a::l,m,h=>by
  unfold Pd at h
  cases ha:f a with
  |none=>rw[ha] at h; cases h
  |some b =>
   rw[ha] at h
   cases d:Pd f l with
   |none=>rw[d] at h; cases h
   |some j =>
    rw[d] at h;cases h;obtain⟨g,h2⟩:=GY d;refine⟨by simp[g],fun i c e=>?_⟩
    cases i with
    |zero=>simp at e; subst e; exact⟨b,by simp,ha⟩
    |succ i=>simpa using h2 i c (by simpa using e)
def NM (l:Do Int):upE (fun j=>l[j]?.getD 0) l.length=l:=by
 unfold upE;refine List.ext_getElem (by simp) fun i a h2=>?_;simp at a;simp[a]
def CR.below {a:Nat} {w W:World} {av:Nat->Prop} (hb:Below a w W) (d:w.heap.size<=a) {t:Ty} {x:Val t} {vs:Do Value} (h:CR w av t x vs):CR W av t x vs :=
 h.keep fun b c ha=>⟨hb.block b (dB c d),ha⟩
def OC {w:World} {av:Nat->Prop} {xs:Do (Int×Int)} {v:Value} (h:CR w av (.slice Ã) xs [v]):∃base cap b off,v=.slice base xs.length cap/\(0<xs.length->base=some ⟨b,off,none⟩/\b<w.heap.size) /\
 ∀j,j<xs.length->w.cell? ⟨b,off+j*2,none⟩=some (.int .i64 (xs[j]?.getD (0,0)).1)/\w.cell? ⟨b,off+j*2+1,none⟩=some (.int .i64 (xs[j]?.getD (0,0)).2):=by
 obtain⟨base,cap,e,r,a⟩:=h;cases e;rcases a with a|⟨b,off,hb,f,d,a⟩
 ·refine⟨base,cap,0,0,rfl,fun h=>?_,fun j c=>?_⟩
  ·rw[show xs=[] from a] at h; simp at h
  ·rw[show xs=[] from a] at c; simp at c
 ·refine⟨base,cap,b,off,rfl,fun _=>⟨hb,d⟩,fun j c=>?_⟩;obtain⟨us,k,h2⟩:=a j xs[j] (df c);obtain⟨u1,u2,o,i,g⟩:=k;have m:u1=[.int .i64 xs[j].1]:=i;have l:u2=[.int .i64 xs[j].2]:=g;subst m l o;have s:(Ã).size=2:=rfl;rw[s] at h2;have q:=h2 0 _ rfl;have p:=h2 1 _ rfl;rw[df c];exact⟨by simpa using q,by simpa[Nat.add_assoc] using p⟩
end Go.Proofs.ZzM
end

noncomputable section
set_option maxRecDepth 100000
namespace Go.Proofs.ZzM
open Go Go.Am Go.RowKit
section
variable {w W W':World}
abbrev noG:Nat->Prop:=fun _=>False
def Zf (w:World) (n:Int):mg w noG tI n (.int .i64 n):=⟨[.int .i64 n],rfl,rfl⟩
def aoG {a:Nat} {b:Value} {e:TypeId} {s:kw} (h:w.heap[a]?=some (.cells #[b] e (0,0))) (c:CR w noG (.map tI Ö) s [b]):mg w noG (.ptr (.map tI Ö)) s (.pointer (some ⟨a,0,none⟩)):=by
 letI:Ghost:=(Gk (fun _=>False) [] (none))
 exact⟨[.pointer (some ⟨a,0,none⟩)],⟨a,0,[b],rfl,id,ĥ h,c,CellsAt.of_cells h⟩,rfl⟩
def aos {y:Int} {u:Value} (h:RR w noG [tI] y u):u=.int .i64 y:=by
 obtain⟨us,a,rfl⟩:=h;have:us=[.int .i64 y]:=a;rw[this]; rfl
def amx (e:∀b,b<W.heap.size->W'.heap[b]?=W.heap[b]?) (h2:W.heap.size<=W'.heap.size) (d:W'.os=W.os) (c:W'.tape=W.tape) (a:W'.output=W.output):W.grownBy W' none :=
 ⟨d,c,a,h2,fun b hb _=>e b hb⟩
def ZD {f:Nat} {p:û} (d:jo Tryz.prog f p) (a:p.rs=[tI]) {x:Val (tyL p.ts)} {y:Int} (c:p.F x=some (a▸(show Val (tyL [tI]) from y))) {vals:Do Value} (ha:AL W noG p.ts x vals) :
 CallsIn Fence.wide 0 Tryz.prog f vals.toArray W fun e b=>e=.returned (.int .i64 y)/\W.grownBy b none:=by
 obtain⟨ts,rs,F⟩:=p;dsimp only at a c ha x;subst a;refine(d noG x y c W vals (fun _ h=>h.elim) ha).2.mono fun e w' ⟨u,h0,l,h2,k,j,i,g⟩=>⟨?_,amx h2 k j i g⟩;rw[h0,aos l]
def Z6 {s:kw} {a b y:Int} (i:ł a b s=some y) {c:Nat} {f:Value} {e:TypeId} (h:W.heap[c]?=some (.cells #[f] e (0,0))) (g:CR W noG (.map tI Ö) s [f]) :
 CallsIn Fence.wide 0 Tryz.prog 204 #[.int .i64 a,.int .i64 b,.pointer (some ⟨c,0,none⟩)] W fun e d=>e=.returned (.int .i64 y)/\W.grownBy d none :=
 ZD aet rfl (x:=(a,b,s)) (y:=y) i (vals:=[.int .i64 a,.int .i64 b,.pointer (some ⟨c,0,none⟩)]) ⟨_,_,rfl,Zf _ _,_,_,rfl,Zf _ _,_,rfl,aoG h g⟩
def ajg {a:Value} {s:kw} (b:CR W noG (.map tI Ö) s [a]):mg W noG (.map tI Ö) s a:=⟨[a],b,rfl⟩
def agc {x:b6} {cs:Array Value} (hb:CR W noG È x cs.toList):mg W noG È x (.agg cs):=⟨cs.toList,hb,by show Value.agg cs=Value.agg cs.toList.toArray; rw[Array.toArray_toList]⟩
def ajq {x:b6} {s:kw} {i y:Int} (d:ζ x s i=some y) {a:Value} {cs:Array Value} (hb:CR W noG È x cs.toList) (c:CR W noG (.map tI Ö) s [a]) :
 CallsIn Fence.wide 0 Tryz.prog 208 #[.agg cs,a,.int .i64 i] W fun e b=>e=.returned (.int .i64 y)/\W.grownBy b none :=
 ZD ZM rfl (x:=(x,s,i)) (y:=y) d (vals:=[.agg cs,a,.int .i64 i]) ⟨_,_,rfl,agc hb,_,_,rfl,ajg c,_,rfl,Zf _ _⟩
def act {x:b6} {s:kw} {i y:Int} (d:Ň x s i=some y) {a:Value} {cs:Array Value} (hb:CR W noG È x cs.toList) (c:CR W noG (.map tI Ö) s [a]) :
 CallsIn Fence.wide 0 Tryz.prog 209 #[.agg cs,a,.int .i64 i] W fun e b=>e=.returned (.int .i64 y)/\W.grownBy b none :=
 ZD NG rfl (x:=(x,s,i)) (y:=y) d (vals:=[.agg cs,a,.int .i64 i]) ⟨_,_,rfl,agc hb,_,_,rfl,ajg c,_,rfl,Zf _ _⟩
end
def qX {w:World} {av:Nat->Prop} {t:Ty} {xs:Do (Val t)} {vs:Do Value} (h:CR w av (.slice t) xs vs):∃base cap,vs=[.slice base xs.length cap]:=by
 obtain⟨base,cap,e,_⟩:=h;exact⟨base,cap,e⟩
def al0 {x:b6} {s:kw} {E A z D:Do Int} (h1:Pd (fun u=>ł u.1 u.2 s) (x.2.2.1:Do (Int×Int))=some E) (h2:Pd (fun i=>ζ x s i) (zr (x.2.2.2.1:Do so).length)=some A)
 (h3:Pd (fun i=>Ň x s i) (zr (x.2.2.2.2.1:Do im).length)=some z) (h4:Pd (fun u=>ł u.1 u.2 s) (x.2.2.2.2.2:Do (Int×Int))=some D)
 (o:(x.2.2.1:Do a8).length<=1000/\(x.2.2.2.1:Do so).length<=1000/\(x.2.2.2.2.1:Do im).length<=1000/\(x.2.2.2.2.2:Do a8).length<=1000)
 {w:World} {bb tb Q:Nat} {te te2 te3:TypeId} {cb:Array Value} {mv:Value} (Z:w.heap[bb]?=some (.cells cb te (0,0))) (M:CR w noG È x cb.toList) (Y:w.heap[tb]?=some (.cells #[.func (.func 204) #[] #[.pointer (some ⟨Q,0,none⟩)]] te2 (0,0)))
 (B:w.heap[Q]?=some (.cells #[mv] te3 (0,0))) (C:CR w noG (.map tI Ö) s [mv]) :
 SeqStopsK Fence.wide 1 Tryz.prog 207 #[.pointer (some ⟨bb,0,none⟩),.pointer (some ⟨tb,0,none⟩),.pointer (some ⟨Q,0,none⟩)] (fun x:Int=>#[.int .i64 x]) (Below w.heap.size) (fun xs=>xs=E++(A++(z++D))) (fun m=>m <+: (E++(A++(z++D)))) (E++(A++(z++D))).length w:=by
 intro l J Jx W d hJ hJx hY h0;obtain⟨fl,r0,e0,hfl,hr0⟩:=id M;obtain⟨ga,r1,e1,hga,hr1⟩:=hr0;obtain⟨us,r2,e2,G,hr2⟩:=hr1;obtain⟨lo,r3,e3,hlo,hr3⟩:=hr2;obtain⟨co,ko,e4,hco,I⟩:=hr3;obtain⟨f1,f2,e5,hf1,hf2⟩:=hfl;have e6:f1=[.int .i64 x.1.1]:=hf1;have e7:f2=[.int .i64 x.1.2]:=hf2;obtain⟨gab,gac,e8⟩:=qX hga;obtain⟨U,T,e9⟩:=qX hlo;obtain⟨cob,coc,e10⟩:=qX hco;obtain⟨usb0,usc0,O⟩:=qX G;obtain⟨kob0,koc0,N⟩:=qX I;rw[O] at G;rw[N] at I;obtain⟨S,R,ub,uo,e13,H,hU⟩:=OC G;obtain⟨X,V,kb,kof,e14,K,hK⟩:=OC I;rw[e13] at O;rw[e14] at N
 have L:cb=#[.int .i64 x.1.1,.int .i64 x.1.2,.slice gab (x.2.1:Do nm).length gac,.slice S (x.2.2.1:Do a8).length R,.slice U (x.2.2.2.1:Do so).length T,.slice cob (x.2.2.2.2.1:Do im).length coc,.slice X (x.2.2.2.2.2:Do a8).length V]:=by
  rw[<-eT,e0,e1,e2,e3,e4,e5,e6,e7,e8,e9,e10,O,N];rfl
 obtain⟨g1,q1⟩:=GY h1;obtain⟨g2,q2⟩:=GY h2;obtain⟨g3,q3⟩:=GY h3;obtain⟨g4,q4⟩:=GY h4
 have gl2:A.length=(x.2.2.2.1:Do so).length:=by rw[g2]; simp[zr]
 have gl3:z.length=(x.2.2.2.2.1:Do im).length:=by rw[g3]; simp[zr]
 have up1:upE (fun j=>E[j]?.getD 0) (x.2.2.1:Do a8).length=E:=by rw[<-g1]; exact NM E
 have up2:upE (fun j=>A[j]?.getD 0) (x.2.2.2.1:Do so).length=A:=by rw[<-gl2]; exact NM A
 have up3:upE (fun j=>z[j]?.getD 0) (x.2.2.2.2.1:Do im).length=z:=by rw[<-gl3]; exact NM z
 have up4:upE (fun j=>D[j]?.getD 0) (x.2.2.2.2.2:Do a8).length=D:=by rw[<-g4]; exact NM D
 have at1:∀{xs:Do (Int×Int)} {q:Do Int},(∀(i:Nat) (a:Int×Int),xs[i]?=some a->∃b,q[i]?=some b/\ł a.1 a.2 s=some b)->∀j,j<xs.length->ł (xs[j]?.getD (0,0)).1 (xs[j]?.getD (0,0)).2 s=some (q[j]?.getD 0):=by
  intro xs q hq j k;obtain⟨b,hb,hf⟩:=hq j xs[j] (df k);rw[df k,hb];exact hf
 have at2:∀{n:Nat} {q:Do Int} {f:Int->CK Int},(∀(i:Nat) (a:Int),(zr n)[i]?=some a->∃b,q[i]?=some b/\f a=some b)->∀j,j<n->f (j:Int)=some (q[j]?.getD 0):=by
  intro n q f hq j k;obtain⟨b,hb,hf⟩:=hq j j (by simp[zr,k]);rw[hb]; exact hf
 have c:∀{W':World},Below w.heap.size W W'->Below w.heap.size w W':=fun h=>d.trans h;have g:∀{W':World} {p:Addr} {v:Value},Below w.heap.size w W'->w.cell? p=some v->p.block<w.heap.size->W'.cell? p=some v:=fun {W'} {p} {v} h hc hp=>(h.cell (p:=p) hp).trans hc;have lb:=ĥ Z;have lt:=ĥ Y;have q:=ĥ B
 have:=ama te 1 (by omega) l w.heap.size bb tb Q (.int .i64 x.1.1) (.int .i64 x.1.2) (.slice gab (x.2.1:Do nm).length gac) mv lb lt q
  ub uo (x.2.2.1:Do a8).length R kb kof (x.2.2.2.2.2:Do a8).length V S X U cob (x.2.2.2.1:Do so).length T (x.2.2.2.2.1:Do im).length coc H K
  (fun j=>(x.2.2.1:Do (Int×Int))[j]?.getD (0,0)) (fun j=>(x.2.2.2.2.2:Do (Int×Int))[j]?.getD (0,0)) (fun j=>E[j]?.getD 0) (fun j=>A[j]?.getD 0) (fun j=>z[j]?.getD 0) (fun j=>D[j]?.getD 0)
  o.1 o.2.1 o.2.2.1 o.2.2.2 W ((d.block bb lb).trans (by rw[Z,L])) (g d (by simp[World.cell?,Y]) lt) (g d (by simp[World.cell?,B]) q)
  (fun j k=>⟨g d (hU j k).1 (H (by omega)).2,g d (hU j k).2 (H (by omega)).2⟩) (fun j k=>⟨g d (hK j k).1 (K (by omega)).2,g d (hK j k).2 (K (by omega)).2⟩)
  (fun j k W' t=>Z6 (at1 q1 j k) (((c t).block Q q).trans B) (CR.below (c t) (dh _) C))
  (fun j k W' t=>Z6 (at1 q4 j k) (((c t).block Q q).trans B) (CR.below (c t) (dh _) C))
  (fun j k W' t=>ajq (at2 q2 j k) (by have:=CR.below (c t) (dh _) M; rwa [L] at this) (CR.below (c t) (dh _) C))
  (fun j k W' t=>act (at2 q3 j k) (by have:=CR.below (c t) (dh _) M; rwa [L] at this) (CR.below (c t) (dh _) C))
  J Jx (fun m W1 W2 k hg=>hJ m W1 W2 none k hg (fun r e=>by cases e)) (fun m W1 W2 k hg=>hJx m W1 W2 none k hg (fun r e=>by cases e))
  (fun m y W1 k hl=>hY m y W1 k (by simp only[di]; omega)) h0 d.size
 rw[up1,up2,up3,up4] at this;exact this
end Go.Proofs.ZzM
end

noncomputable section
set_option maxRecDepth 100000
namespace Go.Proofs.ZzM
open Go Go.Am Go.RowKit
section
variable [Ghost] {ρ:Type} {ν:Nat->Value} {w:World}
def peel (k:Ghost.Q=none) {E:Env ρ} {call:Do Nat->Bool->Nat->Do AV->Do Blk->(AV->Do Blk->CK ρ)->CK ρ} {L:Nat} (s:ng E L call) (t:xe E L call) (p:E.joins=fun _ _ _ _=>none) {fid:Nat} {path:Do Nat} (m:path.length+2=L) {x y c:Code} {bid n:Nat} {S:St} {K:Exit->St->CK ρ} {r:ρ} {a:Act} {Q:Exit->Act->World->Prop}
 (q:∀z∈ß bid x,uQ E path fid z.1 z.2) (e:goC E call fid path 0 bid (.seq x y) S K=some r) (H:Sim ν S a w)
 (o:∀ν' b d w',Sim ν' b d w'->Ev 0 ν S.h w ν' b.h w'->goC E call fid path 0 bid y b K=some r->c.wpIn Fence.wide n E.P Q d w')
 (i:∀ν' b d w' e,e≠.normal->Sim ν' b d w'->Ev 0 ν S.h w ν' b.h w'->K e b=some r->Q e d w'):(Code.seq x c).wpIn Fence.wide n E.P Q a w:=by
 simp only[goC,p] at e;have j:=wI s t m x bid S _ ν a w q e H (d9 _);rw[afU k] at j;refine wpIn_seq (wpIn_wide.2 (wpIn_wide.1 (wpIn_mono j fun u d w' ha=>?_)));obtain⟨ν',b,g,h2,A,v,f⟩:=ha
 cases u with
 |normal=>exact o ν' b d w' g h2 f
 |exit id=>exact i ν' b d w' _ (by simp) g h2 f
 |goto l=>exact i ν' b d w' _ (by simp) g h2 f
 |ret=>exact i ν' b d w' _ (by simp) g h2 f
 |panic ch=>exact i ν' b d w' _ (by simp) g h2 f
 |outgrown=>exact i ν' b d w' _ (by simp) g h2 f
end
def aiC {T:Array Value} {rb:Nat} {n:Int} {e:TypeId} {W:World} (h2:T.getD 2 undef=.pointer (some ⟨rb,0,none⟩)) (f:W.heap[rb]?=some (.cells #[.int .i64 n] e (0,0))):(results Tryz.f72 T).run Tryz.prog W=.ok (.int .i64 n) W:=by
 letI:Ghost:=(Gk (fun _=>False) [] (none))
 have d:(loadVar 38 ⟨rb,0,none⟩).run Tryz.prog W=.ok (.int .i64 n) W:=by
  have:=run_loadVar (P:=Tryz.prog) (w:=W) (t:=38) (agg:=false) (n:=1) (by kernel_rfl) (us:=[.int .i64 n]) rfl (fun _=>rfl) (a:=⟨rb,0,none⟩) (fun j v b=>by
   have:=CellsAt.of_cells f j v (by simpa using b)
   cases j with
   |zero=>simpa[Addr.add] using this
   |succ j=>simp at b)
  exact this
 have c:Tryz.f72.results=#[.cell 2 38]:=by kernel_rfl
 unfold results;rw[c,Array.mapM_eq_mapM_toList];simp only[Sem.run_bind,Sem.run_map,List.mapM_cons,List.mapM_nil,h2,asAddr,Sem.run_pure,Result.andThen_ok,d];rfl
@[reducible] def gck (G:Nat->Prop) (M:Nat):Ghost:=(Gh G).re G [] none M
def ao9 [Ghost] {ν:Nat->Value} {h:Do Blk} {w:World} {x:b6} {us:Do Value} (a:ē (VRc ν h w) (flat È x) us):CR w noG È x us:=by
 have e:Û È (flat È x)=some x:=rfl;have h2:ē (VRs w (Av ν h)) (flat È x) us:=a.mono fun c u b=>b.1.data;exact CR.mono (fun _ d=>d.elim) (Ģ e h2)
def EK (G:Nat->Prop) (y:Int) (w:World) (e:Ending) (w':World):Prop :=
 ∃u,e=.returned u/\RR w' G [tI] y u/\(∀b,b<w.heap.size->w'.heap[b]?=w.heap[b]?)/\w.heap.size<=w'.heap.size/\w'.os=w.os/\w'.tape=w.tape/\w'.output=w.output
def af1 {G:Nat->Prop} {y:Int} {w0 w:World} {a:Act} {ms:Do Nat} {rb:Nat} {e:TypeId} (hd:a.defers=ms.map mk1) (q:ms.Nodup) (i:∀k∈ms,w.heap[k]?=some (.deferred (some []))/\w0.heap.size<=k) (h2:a.tmps.getD 2 undef=.pointer (some ⟨rb,0,none⟩)) (g:w.heap[rb]?=some (.cells #[.int .i64 y] e (0,0)))
 (hb:∀b,b<w0.heap.size->w.heap[b]?=w0.heap[b]?) (c:w0.heap.size<=w.heap.size) (v:w.os=w0.os) (u:w.tape=w0.tape) (t:w.output=w0.output):LeavesInM Fence.wide 2 Tryz.prog Tryz.f72 a.tmps (EK G y w0) a.defers .returning w:=by
 rw[hd]
 have d:rb∉ms:=fun h=>by rw[(i rb h).1] at g; cases g
 refine uF ms w q (fun k s=>(i k s).1) fun w2 p o m l j=>?_;exact⟨.int .i64 y,aiC h2 ((j rb d).trans g),.int .i64 y,rfl,⟨[.int .i64 y],rfl,rfl⟩,fun b f=>(j b fun r=>by have:=(i b r).2; omega).trans (hb b f),by rw[p]; exact c,o.trans v,m.trans u,l.trans t⟩
def ao4 (S:St):ckK .ret S=(akp S).map .inl:=by
 unfold ckK
 cases akp S<;>rfl
def ahp (S:St):ckK .normal S=if decide (78<=S.t.length)=true then some (.inr ([lk S.t 1,lk S.t 2,lk S.t 48],S.h)) else none:=by
 unfold ckK
 cases decide (78<=S.t.length)<;>rfl
def lZ [Ghost] {ρ:Type} {E:Env ρ} (h0:E.loops=lJ []) (c:E.ranges=fun _ _ _ _ _ _ _=>none) {path:Do Nat} {fid bid:Nat} {b:LI}:uQ E path fid bid b:=by
 cases b with
 |lp b=>exact fun m S K r ν a w e=>by rw[h0] at e; cases e
 |rf g ps x y=>exact fun m S K r ν a w e=>by rw[c] at e; cases e
def anZ {ρ:Type} (E:Env ρ) (e:E.P.follows .mixedOrders=true) (a:∀[Ghost],lh E->JF E) (h0:E.loops=lJ []) (g:E.ranges=fun _ _ _ _ _ _ _=>none) (d:E.yld=none) [Ghost]:ng E 2 (Ţ E 10) :=
 sv a (fun L call b=>nZ e L call b) (fun n h b _ _ path f fn c _ _ _ z _=>lZ h0 g) 10 (dh _) (jz d)
noncomputable def aox:Code->String
 | .region _ ops _ => ((ops[0]?).map fun o => o.pos).getD ""
 | _ => ""
noncomputable def rfA:Code->Code
 |.block _ (.rangeFunc _ _ a _)=>a
 |_=>.skip
noncomputable def rfB:Code->Code
 |.block _ (.rangeFunc _ _ _ (.block _ (.seq a _)))=>a
 |_=>.skip
noncomputable def rfC:Code->Code
 |.block _ (.rangeFunc _ _ _ (.block _ (.seq _ (.cond _ (.seq a _) _))))=>a
 |_=>.skip
def ao2:ckRF=Code.block 0 (Code.rangeFunc (.tmp 48) #[49] (ae3 (aox (rfA ckRF))) (anF (aox (rfB ckRF)) (aox (rfC ckRF)))):=by kernel_rfl
def anY:∀e∈ck_pt,jo Tryz.prog e.1 e.2:=Á SJ (Á Ge (Á CN (Á SK Æ)))
def akq {e:Exit} {S:St} {n:Int} (h:ckK2 e S=some n):e=.ret/\lk S.t 2=.box 1 0/\lkB S.h 1=.cells [.int .i64 n]:=by
 unfold ckK2 at h
 split at h
 ·split at h
  ·rename_i h2
   split at h
   ·rename_i a;cases h;exact⟨rfl,h2,a⟩
   ·cases h
  ·cases h
 ·cases h
def acb [Ghost] {ν:Nat->Value} {h:Do Blk} {w:World} {n:Int} {id:Nat} (H:HR ν h w) (d:lkB h id=.cells [.int .i64 n]):∃b e,ν id=.pointer (some ⟨b,0,none⟩)/\w.heap[b]?=some (.cells #[.int .i64 n] e (0,0)):=by
 have a:=H.blk id;rw[d] at a;obtain⟨b,c,e,k,h2,j⟩:=a;obtain⟨u,i,g⟩:=j.one;have f:u=.int .i64 n:=g.1;refine⟨b,e,k,?_⟩;rw[h2]
 have:c=#[.int .i64 n]:=by rw[<-eT,i,f]
 rw[this]
def LC [Ghost] {ν:Nat->Value} {h:Do Blk} {w:World} {id off:Nat} {v:Value} {b:Nat} (a:VR ν h w (.box id off) v) (hb:ν id=.pointer (some ⟨b,0,none⟩)):v=.pointer (some ⟨b,off,none⟩):=by
 obtain⟨cs,e,d,h2,c⟩:=a;rw[hb] at h2;cases h2;exact c
def ao1 {G:Nat->Prop} {x:b6} {s:kw} {y:Int} (U:ckS x=some y) {ν:Nat->Value} {w0 w6 W:World} {a:Act} (H:@HR (gck G w0.heap.size) ν (ckH x s 0) w6) (hb:Below w6.heap.size w6 W) {ms:Do Nat} (hd:a.defers=ms.map mk1) (T:ms.Nodup) (C:∀k∈ms,W.heap[k]?=some (.deferred (some []))/\w0.heap.size<=k) (p:78<=a.tmps.size)
 (K:@VR (gck G w0.heap.size) ν (ckH x s 0) w6 (.box 0 0) (a.tmps.getD 1 undef)) (t2:@VR (gck G w0.heap.size) ν (ckH x s 0) w6 (.box 1 0) (a.tmps.getD 2 undef))
 (h0:∀b,b<w0.heap.size->w6.heap[b]?=w0.heap[b]?/\¬Gp ν (ckH x s 0) b) (B:w0.heap.size<=w6.heap.size) (q:w6.os=w0.os) (X:w6.tape=w0.tape) (V:w6.output=w0.output) :
 WG.wpIn Fence.wide 2 Tryz.prog (bodyPostM Fence.wide 2 Tryz.prog Tryz.f72 (EK G y w0)) a W:=by
 have D:∀b,Gp ν (ckH x s 0) b->b<w6.heap.size:=fun b I=>@HR.ltA (gck G w0.heap.size) _ _ _ H b (.inl I)
 have v:∃b,ν 0=.pointer (some ⟨b,0,none⟩)/\a.tmps.getD 1 undef=.pointer (some ⟨b,0,none⟩):=by
  obtain⟨cs,b,_,h2,q⟩:=K;exact⟨b,h2,q⟩
 have u:∃b,ν 1=.pointer (some ⟨b,0,none⟩)/\a.tmps.getD 2 undef=.pointer (some ⟨b,0,none⟩):=by
  obtain⟨cs,b,_,h2,q⟩:=t2;exact⟨b,h2,q⟩
 letI:Ghost:=gck G w0.heap.size
 have H1:HR ν (ckH x s 0) w6:=H;have H2:HR ν (ckH x s 0) W:=(H1.grow (fun b f=>hb.block b f) hb.size hb.os hb.tape hb.output 0).2;have g:∀L call,ng (amS Int) L call->xe (amS Int) L call:=nZ hmix;have E:(amS Int).loops=lJ []:=rfl;have d:ng (amS Int) 2 (Ţ (amS Int) 10):=anZ (amS Int) hmix (fun {_} _=>F8 anY (amS Int) rfl rfl rfl rfl rfl (ő rfl) (mU rfl) (jz rfl)) rfl rfl rfl;have law:=ck_suf x s;rw[U] at law
 have A:Sim ν {t:=[.any,.box 0 0,.box 1 0]++List.replicate 75 .any,h:=ckH x s 0} a W:=by
  refine⟨⟨⟨ms,hd.trans (dC _).symm,T,C⟩,fun l I=>(by cases I),d9 _,dE B hb.size⟩,by simpa using p,fun i=>?_,H2⟩;simp only[Wc];rcases i with _|_|_|i
  ·trivial
  ·obtain⟨b,j,c⟩:=v;exact⟨_,b,rfl,j,c⟩
  ·obtain⟨b,j,c⟩:=u;exact⟨_,b,rfl,j,c⟩
  ·trivial
 refine wpIn_wide.2 (wpIn_wide.1 (wpIn_mono (wI d (g _ _ d) rfl WG 0 _ _ ν a W (fun z _=>lZ E rfl) law A (d9 _)) fun e Z w' ha=>?_));obtain⟨ν',S',j,c,_,_,Y⟩:=ha;obtain⟨rfl,S,R⟩:=akq Y;obtain⟨rb,te,r1,r2⟩:=acb j.heap R;have J:=j.tmps 2;rw[S] at J;have M:=LC J r1;obtain⟨⟨N,m1,Q,O⟩,_⟩:=j.defers;refine af1 (w:=w') (a:=Z) (G:=G) (y:=y) (w0:=w0) (rb:=rb) (m1.trans (dC _)) Q O M r2 (fun b f=>?_) (by have:=c.size; have:=hb.size; omega) (c.os.trans (hb.os.trans q)) (c.tape.trans (hb.tape.trans X)) (c.output.trans (hb.output.trans V));have r:=h0 b f
 have o:b<w6.heap.size:=by omega
 have m:b<W.heap.size:=by have:=hb.size; omega
 exact(c.keep b m r.2).1.trans ((hb.block b o).trans r.1)
set_option maxHeartbeats 2000000 in
def ahq (G:Nat->Prop) (x:b6) (y:Int) (r:η x=some y) (w:World) (vals:Do Value) (hG:∀b,G b->b<w.heap.size) (hAL:AL w G [È] x vals) :
 (∃fn c,Tryz.prog.funcs[72]?=some fn/\fn.body=some c)/\CallsIn Fence.wide 0 Tryz.prog 72 vals.toArray w (EK G y w):=by
 rw[amR] at r
 letI:Ghost:=gck G w.heap.size
 have hpt:=anY;have hdraw:∀L call,ng (ckE ckR) L call->xe (ckE ckR) L call:=nZ hmix;have h0:(ckE ckR).loops=lJ []:=rfl;have m:ng (ckE ckR) 2 (Ţ (ckE ckR) 10):=anZ (ckE ckR) hmix (fun {_} _=>F8 hpt (ckE ckR) rfl rfl rfl rfl rfl (ő rfl) (mU rfl) (jz rfl)) rfl rfl rfl;have hD:=hdraw _ _ m;have H:HR (fun _=>undef) [] w:=⟨fun _=>trivial,fun _ _ _ h=>(by cases h),hG,fun _ _ h=>(by cases h)⟩;have hav:∀b,Av (fun _=>undef) [] b->G b:=fun b hb=>hb.elim (fun⟨_,h,_⟩=>by cases h) id;have C:ē (VR (fun _=>undef) [] w) (aec [È] x) vals:=AL.VR (hAL.mono hav);refine⟨⟨Tryz.f72,_,Tryz.func72,an0⟩,?_⟩
 have hlen:vals.length=1:=by
  have:=C.length;simpa[aec,aj0] using this.symm
 cases hM:ckM x with
 |none=>rw[hM] at r; cases r
 |some r0 =>
 rw[hM] at r;have law:=ck_pre x;rw[hM] at law;refine callsIn_wide.2 (callsIn_wide.1 (callsIn_of_wp_marks (n:=2) Tryz.func72 an0 trivial ?_ (R:=EK G y w)))
 have hS:Sim (fun _=>undef) {t:=aec [È] x++List.replicate 77 .any,h:=[]} {tmps:=vals.toArray++Array.replicate (Tryz.f72.ntmps-vals.toArray.size) undef,defers:=[]} w:=by
  refine⟨⟨⟨[],rfl,gH,fun _ h=>(by cases h)⟩,fun l hl=>(by cases hl),d9 _,dh _⟩,?_,fun i=>?_,H⟩
  ·have:Tryz.f72.ntmps=78:=by kernel_rfl
   have hl2:(aec [È] x).length=1:=rfl;simp[this,hlen,hl2]
  ·simp only[Wc];rcases dw i (aec [È] x).length with hi|hi
   ·have:=ē.lk (R:=VR (fun _=>undef) [] w) (fun _=>trivial) i C
    have hv:i<vals.length:=by rw[<-C.length]; exact hi
    have h2:(vals.toArray++Array.replicate (Tryz.f72.ntmps-vals.toArray.size) undef).getD i undef=vals.getD i undef:=by
     simp[eN,gb,hv]
    rw[h2]; exact this
   ·rw[aml _ _ hi]; trivial
 -- the ways out ahead of the loop
 have out:∀ν' N Y w' e,e≠.normal->Sim ν' N Y w'->Ev 0 (fun _=>undef) [] w ν' N.h w'->ckK e N=some r0->bodyPostM Fence.wide 2 Tryz.prog Tryz.f72 (EK G y w) e Y w':=by
  intro ν' N Y w' e K q E d
  cases e with
  |normal=>exact(K rfl).elim
  |ret =>
   rw[ao4] at d
   cases hr:akp N with
   |none=>rw[hr] at d; cases d
   |some n =>
    rw[hr,eo] at d;cases d
    have hyn:n=y:=by simpa using r
    subst hyn;unfold akp at hr
    split at hr
    ·rename_i v hv;show LeavesInM _ _ _ _ _ _ Y.defers _ _;obtain⟨⟨ms,m1,m2,m3⟩,_,m4,m5⟩:=q.defers;rw[show Y.defers=ms.map mk1 from m1.trans (dC _)];refine uF ms w' m2 (fun k d=>(m3 k d).1) fun w2 q1 q2 q3 q4 q5=>?_
     have hk2:∀(b:Nat) (o:Obj),w'.heap[b]?=some o->VE o=true\/b<(gck G w.heap.size).B->w2.heap[b]?=some o:=fun b o hb hd=>by
      have hbm:b∉ms:=fun hm=>by
       rw[(m3 b hm).1] at hb; cases hb;rcases hd with hd|hd
       ·cases hd
       ·exact absurd hd (Nat.not_lt_zero _)
      rw[q5 b hbm]; exact hb
     have KG:nf (gck G w.heap.size) ν' N.h w' (gck G w.heap.size).G w2:=nf.nds q2 q3 q4 (by omega) hk2
     have sim2:Sim ν' N {Y with defers:=[]} w2:=⟨⟨⟨[],rfl,gH,fun _ h=>(by cases h)⟩,fun l hl=>(by cases hl),d9 _,by rw[q1]; exact m5⟩,q.len,fun i=>VR.step (g:=gck G w.heap.size) (D:=[]) (Q:=none) (M:=w.heap.size) KG (q.tmps i),
      HR.step (g:=gck G w.heap.size) (D:=[]) (Q:=none) (M:=w.heap.size) KG (fun b hb=>by rw[q1]; exact q.heap.ghlt b hb) (fun b hb hg=>by obtain⟨id,h1,h2⟩:=hb; exact q.heap.ghne id b h1 h2 hg) q.heap⟩
     obtain⟨u,r1,r2⟩:=Vc sim2 hv;exact⟨u,r1,u,rfl,ae4 sim2.heap [tI] r2 hr,fun b hb=>(q5 b fun hm=>by have m7:w.heap.size<=b:=(m3 b hm).2; omega).trans (E.keep b hb fun⟨_,h,_⟩=>by cases h).1,by rw[q1]; exact E.size,q2.trans E.os,q3.trans E.tape,q4.trans E.output⟩
    ·cases hr
  |exit id=>cases d
  |goto l=>cases d
  |panic ch=>cases d
  |outgrown=>cases d
 have I:∀{U:Nat->Value} {h₁:Do Blk} {w₁:World},Ev 0 (fun _=>undef) [] w U h₁ w₁->∀ν' N Y w' e,e≠.normal->Sim ν' N Y w'->Ev 0 U h₁ w₁ ν' N.h w'->ckK e N=some r0->bodyPostM Fence.wide 2 Tryz.prog Tryz.f72 (EK G y w) e Y w' :=
  fun hE ν' N Y w' e K q E d=>out ν' N Y w' e K q (hE.trans E (dh _)) d
 refine peel rfl m hD rfl rfl (fun z _=>lZ h0 rfl) law hS (fun ν1 S1 a1 w1 s1 e1 k1=>?_) out;refine peel rfl m hD rfl rfl (fun z _=>lZ h0 rfl) k1 s1 (fun ν2 S2 a2 w2 s2 e2 k2=>?_) (I e1);have t2:=e1.trans e2 (dh _);refine peel rfl m hD rfl rfl (fun z _=>lZ h0 rfl) k2 s2 (fun ν3 S3 a3 w3 s3 e3 k3=>?_) (I t2);have t3:=t2.trans e3 (dh _);refine peel rfl m hD rfl rfl (fun z _=>lZ h0 rfl) k3 s3 (fun ν4 S4 a4 w4 s4 e4 k4=>?_) (I t3);have t4:=t3.trans e4 (dh _);refine peel rfl m hD rfl rfl (fun z _=>lZ h0 rfl) k4 s4 (fun ν5 S5 a5 w5 s5 e5 k5=>?_) (I t4);have t5:=t4.trans e5 (dh _);refine wpIn_seq (wpIn_seq (wpIn_wide.2 (wpIn_wide.1 (wpIn_mono (wI m hD rfl ckA5 0 S5 _ ν5 a5 w5 (fun z _=>lZ h0 rfl) k5 s5 (d9 _)) fun e' Z w6 ha=>?_))));obtain⟨ν,S,V,e6,_,_,k6⟩:=ha;have J:=t5.trans e6 (dh _)
 have f:∀e,e≠.normal->ckK e S=some r0->Exit.then (Code.wpIn Fence.wide 2 Tryz.prog WG (bodyPostM Fence.wide 2 Tryz.prog Tryz.f72 (EK G y w))) (bodyPostM Fence.wide 2 Tryz.prog Tryz.f72 (EK G y w)) e Z w6:=by
  intro e K d;have:=out ν S Z w6 e K V J d
  cases e<;>first|exact(K rfl).elim|exact this
 cases e' with
 |exit id=>exact f _ (by simp) k6
 |goto l=>exact f _ (by simp) k6
 |ret=>exact f _ (by simp) k6
 |panic ch=>exact f _ (by simp) k6
 |outgrown=>exact f _ (by simp) k6
 |normal =>
 clear f;rw[ahp] at k6
 split at k6<;>try (cases k6; done)
 rename_i h78
 have h78':78<=S.t.length:=by simpa using h78
 cases k6;obtain⟨hlens,s,hs,hq⟩:=ao3 hM;simp only[Prod.mk.injEq,List.cons.injEq,and_true] at hq;obtain⟨⟨q1,q2,q48⟩,qh⟩:=hq
 have X:aaw (pj x s) some (ckS x)=some y:=by
  simp only at r;rw[hs] at r;exact r
 -- what the errors are
 obtain⟨L,O,hLy⟩:∃L,pj x s=some L/\(match L.find? (fun e=>e != 0) with|some e=>some e|none=>ckS x)=some y:=by
  unfold aaw at X
  cases hl:pj x s with
  |none=>rw[hl] at X; cases X
  |some L=>rw[hl] at X; exact⟨L,rfl,X⟩
 obtain⟨l1,l2,l3,l4,m1,m2,m3,m4,rfl⟩:∃l1 l2 l3 l4,Pd (fun u=>ł u.1 u.2 s) (x.2.2.1:Do (Int×Int))=some l1/\Pd (fun i=>ζ x s i) (zr (x.2.2.2.1:Do so).length)=some l2 /\
  Pd (fun i=>Ň x s i) (zr (x.2.2.2.2.1:Do im).length)=some l3/\Pd (fun u=>ł u.1 u.2 s) (x.2.2.2.2.2:Do (Int×Int))=some l4/\L=l1++(l2++(l3++l4)):=by
  unfold pj at O
  cases m1:Pd (fun u=>ł u.1 u.2 s) (x.2.2.1:Do (Int×Int)) with
  |none=>rw[m1] at O; cases O
  |some l1 =>
  rw[m1] at O
  cases m2:Pd (fun i=>ζ x s i) (zr (x.2.2.2.1:Do so).length) with
  |none=>simp only[Å,m2] at O; cases O
  |some l2 =>
  cases m3:Pd (fun i=>Ň x s i) (zr (x.2.2.2.2.1:Do im).length) with
  |none=>simp only[Å,m2,m3] at O; cases O
  |some l3 =>
  cases m4:Pd (fun u=>ł u.1 u.2 s) (x.2.2.2.2.2:Do (Int×Int)) with
  |none=>simp only[Å,m2,m3,m4] at O; cases O
  |some l4 =>
  simp only[Å,m2,m3,m4] at O;cases O;exact⟨l1,l2,l3,l4,rfl,rfl,rfl,rfl,rfl⟩
 -- the blocks
 obtain⟨T,Hh⟩:=S;dsimp only at q1 q2 q48 qh h78';subst qh;have p1:=V.tmps 1;have p2:=V.tmps 2;have p48:=V.tmps 48;dsimp only at p1 p2 p48;rw[q1] at p1;rw[q2] at p2;rw[q48] at p48;obtain⟨rb,te1,n1,hrb⟩:=acb (id:=1) (n:=0) V.heap rfl;have hB2:BR ν (ckH x s 0) w6 2 (.cells (flat È x)):=V.heap.blk 2;have hB3:BR ν (ckH x s 0) w6 3 (.cells [.mp tI Ö s]):=V.heap.blk 3;have hB4:BR ν (ckH x s 0) w6 4 (.cells [.fn (.func 204) [] [.box 3 0]]):=V.heap.blk 4;obtain⟨bb,cb,te,n2,hbb,hb2⟩:=hB2;obtain⟨sb,cs3,te3,n3,hsb,hb3⟩:=hB3;obtain⟨tb,cs4,te2,n4,htb,hb4⟩:=hB4;obtain⟨mv,z3,hm3⟩:=hb3.one;obtain⟨fv,z4,hm4⟩:=hb4.one;have hmv:CR w6 noG (.map tI Ö) s [mv]:=CR.mono (fun _ hf=>hf.elim) (show CR w6 (Av ν (ckH x s 0)) (.map tI Ö) s [mv] from hm3.1)
 have hc3:cs3=#[mv]:=by rw[<-eT,z3]
 have hfv:fv=.func (.func 204) #[] #[.pointer (some ⟨sb,0,none⟩)]:=by
  obtain⟨fs,cs,h1,h2,h3⟩:=hm4.1
  have e1:fs=#[]:=by rw[<-eT]; exact h2.nil_left
  obtain⟨u,e2,h4⟩:=h3.one;have e3:u=.pointer (some ⟨sb,0,none⟩):=LC (w:=w6) (id:=3) (off:=0) h4 n3
  have e4:cs=#[.pointer (some ⟨sb,0,none⟩)]:=by rw[<-eT,e2,e3]
  rw[h1,e1,e4]
 have hc4:cs4=#[fv]:=by rw[<-eT,z4]
 rw[hc3] at hsb;rw[hc4,hfv] at htb
 have hg:Z.tmps.getD 48 undef=.func (.func 207) #[] #[.pointer (some ⟨bb,0,none⟩),.pointer (some ⟨tb,0,none⟩),.pointer (some ⟨sb,0,none⟩)]:=by
  obtain⟨fs,cs,h1,h2,h3⟩:=p48
  have e1:fs=#[]:=by rw[<-eT]; exact h2.nil_left
  have hl:=h3.length
  obtain⟨u1,u2,u3,e2⟩:∃u1 u2 u3,cs.toList=[u1,u2,u3]:=by
   rcases hcs:cs.toList with _|⟨u1,_|⟨u2,_|⟨u3,_|⟨u4,t⟩⟩⟩⟩<;>rw[hcs] at hl<;>simp at hl
   exact⟨u1,u2,u3,rfl⟩
  rw[e2] at h3;have e3:u1=.pointer (some ⟨bb,0,none⟩):=LC (w:=w6) (id:=2) (off:=0) h3.1 n2;have e4:u2=.pointer (some ⟨tb,0,none⟩):=LC (w:=w6) (id:=4) (off:=0) h3.2.1 n4;have e5:u3=.pointer (some ⟨sb,0,none⟩):=LC (w:=w6) (id:=3) (off:=0) h3.2.2.1 n3;rw[h1,e1];congr 1;rw[<-eT,e2,e3,e4,e5]
 have hseq:=al0 m1 m2 m3 m4 hlens hbb (ao9 hb2) htb hsb hmv;have h2:=LC p2 n1;have hsz:78<=Z.tmps.size:=dE h78' V.len
 have A:∀b,b<w.heap.size->w6.heap[b]?=w.heap[b]?/\¬Gp ν (ckH x s 0) b:=fun b hb=>J.keep b hb fun⟨_,h,_⟩=>by cases h
 obtain⟨⟨ms,m1',m2',p⟩,_⟩:=V.defers;have hdef:Z.defers=ms.map mk1:=m1'.trans (dC _);show ckRF.wpIn Fence.wide 2 Tryz.prog (Exit.then (WG.wpIn Fence.wide 2 Tryz.prog (bodyPostM Fence.wide 2 Tryz.prog Tryz.f72 (EK G y w))) (bodyPostM Fence.wide 2 Tryz.prog Tryz.f72 (EK G y w))) Z w6;rw[ao2];refine wpIn_block (aor hseq hg h2 hsz hrb (fun D W hall hbel hDl hDo=>?_) (fun D W z hz j hDl hDo=>?_))
 ·have hck:ckS x=some y:=by
   have:(l1++(l2++(l3++l4))).find? (fun e=>e != 0)=none:=ew.2 fun z hz=>by rw[hall z hz]; simp
   rw[this] at hLy;exact hLy
  have hDn:D∉ms:=fun hm=>by have:=ĥ (p D hm).1; omega
  exact ao1 (s:=s) (ms:=D::ms) hck V.heap hbel (by show mark D::Z.defers=_; rw[hdef]; rfl) (fE.2 ⟨hDn,m2'⟩) (fun k d=>by
   rcases dm.1 d with rfl|d
   ·exact⟨hDo,dE J.size hDl⟩
   ·exact⟨(hbel.block k (ĥ (p k d).1)).trans (p k d).1,(p k d).2⟩) hsz p1 p2 A J.size J.os J.tape J.output
 ·have hzy:z=y:=by
   rw[hz] at hLy;simpa using hLy
  subst hzy;obtain⟨te5,hcell⟩:=j.cell;have hlb:=ĥ hrb;have hlive:Gp ν (ckH x s 0) rb:=⟨1,rfl,by rw[n1]; rfl⟩
  have hDn:D∉ms:=fun hm=>by have:=ĥ (p D hm).1; omega
  exact af1 (a:={Z with defers:=mark D::Z.defers}) (w:=W) (ms:=D::ms) (by show mark D::Z.defers=_; rw[hdef]; rfl) (fE.2 ⟨hDn,m2'⟩) (fun k d=>by
   rcases dm.1 d with rfl|d
   ·exact⟨hDo,dE J.size hDl⟩
   ·exact⟨(j.block k (ĥ (p k d).1) (fun e=>by have h9:=(p k d).1; rw[e,hrb] at h9; cases h9)).trans (p k d).1,(p k d).2⟩) h2 hcell
   (fun b hb=>(j.block b (by have:=J.size; omega) (fun e=>(A b hb).2 (e▸hlive))).trans (A b hb).1) (by have:=J.size; have:=j.size; omega) (j.os.trans J.os) (j.tape.trans J.tape) (j.output.trans J.output)
def BN:jo Tryz.prog 72 vE:=fun G x y hF w vals hG hAL=>ahq G x y hF w vals hG hAL
end Go.Proofs.ZzM
end

noncomputable section
namespace Go.Proofs
open Go.RowKit
attribute [local go_sem] Oper.semAt_some
def agl (w:World) (o o':Obj):((w.alloc o).alloc o').heap[w.heap.size+1]?=some o':=by
 simp only[World.alloc];rw[show w.heap.size+1=(w.heap.push o).size from(Array.size_push _).symm];exact Array.getElem?_push_size
def ale (w:World) (o o':Obj):((w.alloc o).alloc o').heap[w.heap.size]?=some o:=by
 simp only[World.alloc];rw[Array.getElem?_push_lt (by rw[Array.size_push]; omega),Array.getElem_push_eq]
def acN (w:World) (o o':Obj) (b:Nat) (hb:b<w.heap.size):((w.alloc o).alloc o').heap[b]?=w.heap[b]?:=by
 simp only[World.alloc];rw[Array.getElem?_push_lt (by simp; omega),Array.getElem_push_lt hb,Array.getElem?_eq_getElem hb]
def an1 {W:World} {b:Nat} {f e d c a:Value} {t:TypeId} (h:W.heap[b]?=some (.cells #[f,e,d,c,a] t (0,0))) :
 W.cell? ⟨b,0,none⟩=some f/\W.cell? ⟨b,1,none⟩=some e/\W.cell? ⟨b,2,none⟩=some d/\W.cell? ⟨b,3,none⟩=some c/\W.cell? ⟨b,4,none⟩=some a/\∀j,W.frozen? ⟨b,j,none⟩=false:=by
 refine⟨?_,?_,?_,?_,?_,fun j=>?_⟩<;>simp only[World.cell?,World.frozen?,h]<;>rfl
def set5 {W:World} {b:Nat} {c0 e d c a:Value} {k j i g f:Value} {t:TypeId} (h:W.heap[b]?=some (.cells #[k,j,i,g,f] t (0,0))) :
 (((((W.setCell ⟨b,0,none⟩ c0).setCell ⟨b,1,none⟩ e).setCell ⟨b,2,none⟩ d).setCell ⟨b,3,none⟩ c).setCell ⟨b,4,none⟩ a)=W.setRow b #[c0,e,d,c,a]:=by
 rw[setCell_eq_setRow W b 0 _ t (0,0) c0 h,setCell_eq_setRow _ b 1 _ t (0,0) e (setRow_heap _ _ _ _ t _ h),setRow_setRow,setCell_eq_setRow _ b 2 _ t (0,0) d (setRow_heap _ _ _ _ t _ h),setRow_setRow,
  setCell_eq_setRow _ b 3 _ t (0,0) c (setRow_heap _ _ _ _ t _ h),setRow_setRow,setCell_eq_setRow _ b 4 _ t (0,0) a (setRow_heap _ _ _ _ t _ h),setRow_setRow]
 rfl
def agH {T:Array Value} {b:Nat} {c0 g f d c:Int} {e:TypeId} {W:World} (h2:T.getD 2 undef=.pointer (some ⟨b,0,none⟩)) (m:W.heap[b]?=some (.cells #[.int .i64 c0,.int .i64 g,.int .i64 f,.int .i64 d,.int .i64 c] e (0,0))):(results Tryz.f220 T).run Tryz.prog W=.ok (.agg #[.int .i64 c0,.int .i64 g,.int .i64 f,.int .i64 d,.int .i64 c]) W:=by
 letI:Go.Am.Ghost:=Go.Am.Gh fun _=>False
 have k:(loadVar 250 ⟨b,0,none⟩).run Tryz.prog W=.ok (.agg #[.int .i64 c0,.int .i64 g,.int .i64 f,.int .i64 d,.int .i64 c]) W:=by
  have:=Go.Am.run_loadVar (P:=Tryz.prog) (w:=W) (t:=250) (agg:=true) (n:=5) (by kernel_rfl) (us:=[.int .i64 c0,.int .i64 g,.int .i64 f,.int .i64 d,.int .i64 c]) rfl (fun h=>by cases h) (a:=⟨b,0,none⟩) (fun j v l=>by
   have:=Go.Am.CellsAt.of_cells m j v (by simpa using l)
   have ha:(⟨b,0,none⟩:Addr).add j=⟨b,j,none⟩:=by unfold Addr.add; split<;>simp_all
   rw[ha]; simpa using this)
  exact this
 have i:Tryz.f220.results=#[.cell 2 250]:=by kernel_rfl
 unfold results;rw[i,Array.mapM_eq_mapM_toList];simp only[Sem.run_bind,Sem.run_map,List.mapM_cons,List.mapM_nil,h2,asAddr,Sem.run_pure,Result.andThen_ok,k];rfl
set_option maxRecDepth 100000 in
set_option maxHeartbeats 1000000 in
def al4 (v:Value) (w:World) (c0 c1 c2 c3 c4:Int) (n:Int)
 (hcopy : ∀ W, (∀ b, b < w.heap.size -> W.heap[b]? = w.heap[b]?) -> W.heap[w.heap.size + 1]? = some (.cells #[.int .i64 0, .int .i64 0, .int .i64 0, .int .i64 0, .int .i64 0] 250 (0, 0)) -> (Builtin.copy_ #[51, 51] 3 #[.slice (some ⟨w.heap.size + 1, 0, none⟩) 5 5, v]).run Tryz.prog W = .ok (.int .i64 n) (W.setRow (w.heap.size + 1) #[.int .i64 c0, .int .i64 c1, .int .i64 c2, .int .i64 c3, .int .i64 c4])) :
  CallsIn Fence.wide 0 Tryz.prog 220 #[v] w fun e W'=>e=.returned (.agg #[.int .i64 c0,.int .i64 c1,.int .i64 c2,.int .i64 c3,.int .i64 c4])/\(∀b,b<w.heap.size->W'.heap[b]?=w.heap[b]?)/\w.heap.size<=W'.heap.size/\W'.os=w.os/\W'.tape=w.tape/\W'.output=w.output:=by
 refine callsIn_of_wp Tryz.func220 rfl trivial ?_ rfl;simp only[Tryz.ntmps220,fR,dr,dR,Nat.reduceAdd,Nat.reduceSub,Array.replicate_succ,Array.replicate_zero,List.push_toArray,gX,fq,eE]
 gi_wp2
 rw[hcopy _ (acN _ _ _) (agl _ _ _)];generalize hW:World.setRow _ _ _=W1
 have g1:W1.heap[w.heap.size+1]?=some (.cells #[.int .i64 c0,.int .i64 c1,.int .i64 c2,.int .i64 c3,.int .i64 c4] 250 (0,0)):=by
  rw[<-hW]; exact setRow_heap _ _ _ _ 250 _ (agl _ _ _)
 have g2:W1.heap[w.heap.size]?=some (.cells #[.int .i64 0,.int .i64 0,.int .i64 0,.int .i64 0,.int .i64 0] 250 (0,0)):=by
  rw[<-hW,setRow_other _ _ _ _ (by omega)]; exact ale _ _ _
 have g3:∀b,b<w.heap.size->W1.heap[b]?=w.heap[b]?:=fun b hb=>by
  rw[<-hW,setRow_other _ _ _ _ (by omega)]; exact acN _ _ _ b hb
 have g4:W1.os=w.os/\W1.tape=w.tape/\W1.output=w.output/\W1.heap.size=w.heap.size+2:=by
  rw[<-hW]; refine⟨rfl,rfl,rfl,?_⟩;rw[size_setRow]; simp only[World.alloc,Array.size_push]
 clear hW hcopy;obtain⟨l0,l1,l2,l3,l4,_⟩:=an1 g1;obtain⟨z0,z1,z2,z3,z4,zf⟩:=an1 g2
 gi_wp2
 rw[set5 g2];refine bodyPost_ret (agH rfl (setRow_heap _ _ _ _ 250 _ g2)) rfl ?_;exact⟨rfl,fun b hb=>(setRow_other _ _ _ _ (by omega)).trans (g3 b hb),by rw[size_setRow]; omega,g4.1,g4.2.1,g4.2.2.1⟩
end Go.Proofs
namespace Go.Proofs.ZzM
open Go Go.Am Go.Proofs
noncomputable def aop (xs:Do Int):(#[Value.int .i64 0,.int .i64 0,.int .i64 0,.int .i64 0,.int .i64 0].toList.take 0++(xs.take 5).map (Value.int .i64 ·)++#[Value.int .i64 0,.int .i64 0,.int .i64 0,.int .i64 0,.int .i64 0].toList.drop (0+((xs.take 5).map (Value.int .i64 ·)).length)).toArray =
 #[.int .i64 (xs.getD 0 0),.int .i64 (xs.getD 1 0),.int .i64 (xs.getD 2 0),.int .i64 (xs.getD 3 0),.int .i64 (xs.getD 4 0)]:=by
 rcases xs with _|⟨a,_|⟨b,_|⟨c,_|⟨d,_|⟨e,r⟩⟩⟩⟩⟩<;>rfl
def aku:jo Tryz.prog 220 aaF:=by
 intro G x y C w vals J q;obtain⟨v,rfl,us,o,m⟩:=q;change Do Int at x;obtain⟨base,cap,rfl,r,d⟩:=o;have m:v=.slice base (x:Do Int).length cap:=m;subst m;have z:y=((x:Do Int).getD 0 0,(x:Do Int).getD 1 0,(x:Do Int).getD 2 0,(x:Do Int).getD 3 0,(x:Do Int).getD 4 0):=(Option.some.inj C).symm;refine⟨⟨Tryz.f220,_,Tryz.func220,rfl⟩,?_⟩
 have c:∀W:World,(∀b,b<w.heap.size->W.heap[b]?=w.heap[b]?)->W.heap[w.heap.size+1]?=some (.cells #[.int .i64 0,.int .i64 0,.int .i64 0,.int .i64 0,.int .i64 0] 250 (0,0)) ->
  (Builtin.copy_ #[51,51] 3 #[.slice (some ⟨w.heap.size+1,0,none⟩) 5 5,.slice base (x:Do Int).length cap]).run Tryz.prog W=.ok (.int .i64 ((((x:Do Int).take 5).map (Value.int .i64 ·)).length:Nat)) (W.setRow (w.heap.size+1) #[.int .i64 ((x:Do Int).getD 0 0),.int .i64 ((x:Do Int).getD 1 0),.int .i64 ((x:Do Int).getD 2 0),.int .i64 ((x:Do Int).getD 3 0),.int .i64 ((x:Do Int).getD 4 0)]):=by
  intro W g a;rcases d with h0|⟨b,off,rfl,B,hb,p⟩
  ·have h0:x=([]:Do Int):=h0;subst h0;rw[run_copy_none W 51 51 3 3 _ _ 5 5 _ _ (by kernel_rfl) (by kernel_rfl) (by simp)];exact congrArg _ (setRow_self W _ _ 250 (0,0) a).symm
  ·have:=run_copy_row Tryz.prog W 51 51 3 3 (w.heap.size+1) 0 5 5 ⟨b,off,none⟩ (x:Do Int).length cap _ 250 (((x:Do Int).take 5).map (Value.int .i64 ·)) (by kernel_rfl) (by kernel_rfl) a (by simp[Nat.min_comm]) (fun j u i=>by
    rw[eZ] at i
    cases f:((x:Do Int).take 5)[j]? with
    |none=>rw[f] at i; cases i
    |some n =>
     rw[f] at i;cases i
     have l:(x:Do Int)[j]?=some n:=by
      rw[eF] at f
      split at f
      ·exact f
      ·cases f
     obtain⟨us,k,t⟩:=p j n l;have k:us=[.int .i64 n]:=k;subst k;have s:=t 0 _ rfl
     have ha:(⟨b,off,none⟩:Addr).add j=⟨b,off+j,none⟩:=by unfold Addr.add; split<;>simp_all
     rw[ha,World.cell?_of_block (w:=w) (by exact g b hb)]
     simpa[Ty.size] using s) (by simp; omega) (fun u A=>by
    obtain⟨n,_,rfl⟩:=dF.1 A
    rfl)
   rw[aop] at this;exact this
 refine(al4 _ w _ _ _ _ _ _ c).mono fun e w' h=>?_;obtain⟨rfl,I,h2,H,E,D⟩:=h;refine⟨_,rfl,?_,I,h2,H,E,D⟩;subst z;exact⟨[.int .i64 _,.int .i64 _,.int .i64 _,.int .i64 _,.int .i64 _],⟨[_],_,rfl,rfl,[_],_,rfl,rfl,[_],_,rfl,rfl,[_],_,rfl,rfl,rfl⟩,rfl⟩
end Go.Proofs.ZzM
end

noncomputable section
set_option maxRecDepth 100000
namespace Go.Proofs.ZzM
open Go Go.Am
def ahs:ZP 15 Vi:=zt (s9 _) Æ rfl (Á ML (Á MK Æ)) fun x=>Tg x some
def aht:ZP 16 Vj:=zt (Aa _) Æ rfl (Á MM Æ) fun x=>Th x some
def akX:ZP 269 aa5:=zt (F4 _) (Á BN (Á Ge (Á JA Æ))) rfl (Á Rs Æ) fun x=>Y4 x some
def ana:ZP 226 afq:=zt (V8 _) (Á aga (Á akX Æ)) rfl Æ fun x=>ab1 x some
def akw:ZP 156 aaH:=zt (lP _) (Á ana Æ) rfl (Á PA (Á Pz (Á Py (Á Px (Á Pw Æ))))) fun x=>XK x some
def lg:ZP 80 jH:=zt (xB _) (Á BN (Á akw Æ)) rfl (Á PQ (Á PR Æ)) fun x=>XV x some
def j6:ZP 135 ű:=zt (Ş _) Æ rfl (Á mF Æ) fun x=>nM x some
def acE:ZP 147 LX:=zt (EC _) (Á j6 Æ) rfl Æ fun x=>Ny x some
def am8:ZP 247 afo:=zt (Ce _) (Á oa Æ) rfl (Á UB (Á UA Æ)) fun x=>abW x some
def NF:ZP 261 yT:=zt (uz _) Æ rfl Æ fun x=>Db x some
def BM:ZP 264 vB:=zt (FS _) (Á Jz Æ) rfl (Á Q6 Æ) fun x=>YH x some
def SH:ZP 312 EX:=zt (Ia _) (Á af8 (Á akS Æ)) rfl Æ fun x=>Q8 x some
def ao7:ZP 296 aiR:=zt (abQ _) (Á BM (Á SH Æ)) rfl Æ fun x=>adT x some
def ZL:ZP 262 GM:=zt (Bn _) (Á ao7 Æ) rfl Æ fun x=>K4 x some
def aes:ZP 320 adp:=zt (abP _) Æ rfl Æ fun x=>adR x some
def EI:ZP 313 Du:=zt (y0 _) (Á BM (Á aes Æ)) rfl Æ fun x=>Ic x some
def akU:ZP 316 aiS:=zt (abS _) (Á BM (Á SH Æ)) rfl Æ fun x=>adV x some
def akT:jo Tryz.prog 297 aa2:=aiI (FU _) (abR _) (fun {_}=>F8 (Á Jz (Á EI (Á akU (Á aes Æ)))) (FU _) rfl rfl rfl rfl rfl (ő rfl) (mU rfl) (jz rfl)) (fun {_}=>libN (Á Jz (Á EI (Á akU (Á aes Æ)))) _) rfl hmix (tab:=xX _) rfl Æ (us:=Mj) rfl (Á (by kernel_rfl) Æ) (nw fun x=>YM x some)
def ZK:ZP 263 GK:=zt (Bm _) (Á akT Æ) rfl Æ fun x=>K3 x some
def ahL:ZP 215 VB:=zt (Mn _) (Á Ge (Á Ol (Á NF (Á ZL (Á ZK Æ))))) rfl Æ fun x=>UG x some
def akW:ZP 216 aa4:=zt (Rq _) Æ rfl Æ fun x=>YX x some
def acD:ZP 265 O2:=zt (Ra _) Æ rfl Æ fun x=>YK x some
def am5:ZP 217 afl:=zt (V6 _) (Á BM (Á acD Æ)) rfl Æ fun x=>abT x some
def akV:ZP 218 aa3:=zt (Rf _) (Á BM (Á acD Æ)) rfl Æ fun x=>YN x some
def am6:ZP 248 afm:=zt (V7 _) (Á ahL (Á akW (Á am5 (Á akV Æ)))) rfl Æ fun x=>abU x some
def am7:ZP 132 afn:=zt (wB _) (Á SJ (Á acE (Á Ol (Á af9 (Á am8 (Á am6 Æ)))))) rfl (Á Uy (Á Uz (Á Ux Æ))) fun x=>abV x some
def CO:ZP 66 vD:=zt (Mo _) (Á BN (Á am7 Æ)) rfl Æ fun x=>UK x some
def SB:ZP 105 JX:=zt (Ph _) (Á wW Æ) rfl (Á XF Æ) fun x=>adx x some
def SD:ZP 183 zJ:=zt (nB _) (Á SB Æ) rfl (Á Af Æ) fun x=>Fh x some
def mW:jo Tryz.prog 104 j8:=Xb (ų _) (fun {_}=>F8 (Á SB (Á SD Æ)) (ų _) rfl rfl rfl rfl rfl (ő rfl) (mU rfl) (jz rfl)) hmix rfl (Á Fg (Á Ff (Á Fe (Á Fc Æ)))) (nw fun x=>Kg x some)
def af7:ZP 196 Xl:=zt (VT _) Æ rfl Æ fun x=>abM x some
def Jy:ZP 126 zN:=zt (FR _) (Á af7 Æ) rfl (Á Q4 Æ) fun x=>YG x some
def BL:ZP 127 sX:=zt (ξ _) Æ rfl (Á H4 (Á HZ (Á HX (Á HY (Á HW Æ))))) fun x=>Nq x some
def UZ:ZP 155 Ds:=zt (yY _) (Á Jy (Á BL Æ)) rfl Æ fun x=>H7 x some
def BI:ZP 79 sW:=zt (DH _) (Á CO (Á mW (Á UZ Æ))) rfl Æ fun x=>MT x some
def WH:ZP 116 JY:=zt (ta _) Æ rfl (Á MO (Á MP Æ)) fun x=>Tj x some
def SI:ZP 234 zO:=zt (wA _) Æ rfl Æ fun x=>FV x some
def wZ:ZP 180 nA:=zt (rV _) (Á SI Æ) rfl Æ fun x=>Bl x some
def WI:ZP 179 JZ:=zt (L3 _) (Á WH (Á wZ Æ)) rfl Æ fun x=>Tp x some
def qF:XOk Tryz.prog 273 (.row ą):=W6 (r:=ą) (ù _) (fun {_}=>F8 (Á WI Æ) (ù _) rfl rfl rfl rfl rfl (ő rfl) (mU rfl) (jz rfl)) hmix rfl (Á mh (Á mi Æ)) (fun xs x m=>m9 xs x m some)
def BJ:XOk Tryz.prog 300 (.row į):=W6 (r:=į) (Ă _) (fun {_}=>F8 Æ (Ă _) rfl rfl rfl rfl rfl (ő rfl) (mU rfl) (jz rfl)) hmix rfl (Á rC (Á rB (Á rD (Á rA Æ)))) (fun xs x m=>uY xs x m some)
noncomputable def qE {a:(Val (.slice (.slice (.slice tI))))->Int->Int->Int->bl->CK ((Val (.slice (.slice (.slice tI))))×bl)} (b:XOk Tryz.prog 274 (.row ⟨(.slice (.slice tI)),[tI,tI,tI],179,Â,fun(xs:(Val (.slice (.slice (.slice tI))))) (x:rm) (m:bl)=>a xs x.1 x.2.1 x.2.2 m⟩)):XOk Tryz.prog 274 (.row ⟨(.slice (.slice tI)),[tI,tI,tI],179,Â,fun(xs:(Val (.slice (.slice (.slice tI))))) (x:rm) (m:bl)=>ħ a xs x.1 x.2.1 x.2.2 m some⟩):=W6 (r:=⟨(.slice (.slice tI)),[tI,tI,tI],179,Â,fun(xs:(Val (.slice (.slice (.slice tI))))) (x:rm) (m:bl)=>ħ a xs x.1 x.2.1 x.2.2 m some⟩) (Ê a _) (fun {_}=>F8 (Á WI Æ) (Ê a _) rfl rfl rfl rfl rfl (ő rfl) (Zx (Á b (Á BJ Æ)) rfl) (jz rfl)) hmix (tab:=jL a _) rfl (Á pz (Á pw (Á pv (Á pu (Á pr Æ))))) (fun xs x m=>rr _ xs x m some)
def jZ:∀n:Nat,XOk Tryz.prog 274 (.row ⟨(.slice (.slice tI)),[tI,tI,tI],179,Â,fun(xs:(Val (.slice (.slice (.slice tI))))) (x:rm) (m:bl)=>Ħ n xs x.1 x.2.1 x.2.2 m⟩)
 |0=>anq.mk (by intro _ _ _ _ _ _ h; cases h)
 |n+1=>qE (jZ n)
def yK:XOk Tryz.prog 274 (.row mn):=jZ 100
def pn:XOk Tryz.prog 233 (.row ģ):=W6 (r:=ģ) (ė _) (fun {_}=>F8 Æ (ė _) rfl rfl rfl rfl rfl (ő rfl) (Zx (Á qF (Á yK Æ)) rfl) (jz rfl)) hmix rfl (Á rz (Á rt (Á ru Æ))) (fun xs x m=>uX xs x m some)
def af3:jo Tryz.prog 81 Xg:=OQ (iH _) (fun {_}=>F8 (Á BI Æ) (iH _) rfl rfl rfl rfl rfl (ő rfl) (Zx (Á pn Æ) rfl) (jz rfl)) hmix rfl (Á TD (Á TC Æ)) (rtab:=PC _) rfl (Á (TB Ss) Æ) (Á TA Æ) (nw fun x=>abq x some)
def ao5:ZP 19 aiP:=zt (abv _) (Á lg (Á af3 Æ)) rfl Æ fun x=>adD x some
def Jt:jo Tryz.prog 96 B5:=OQ (j9 _) (fun {_}=>F8 Æ (j9 _) rfl rfl rfl rfl rfl (ő rfl) (Zx (Á pn Æ) rfl) (jz rfl)) hmix rfl Æ (rtab:=Pk _) rfl (Á (Tn Ss) Æ) (Á Tm Æ) (nw fun x=>abo x some)
def yJ:ZP 82 pS:=zt (rk _) (Á BI (Á Jt Æ)) rfl (Á Fs Æ) fun x=>Ki x some
def akA:ZP 20 aaK:=zt (PM _) (Á lg (Á yJ Æ)) rfl Æ fun x=>XQ x some
def yL:ZP 35 pT:=zt (rS _) Æ rfl (Á FH Æ) fun x=>KI x some
def MB:ZP 26 zM:=zt (vc _) (Á yL Æ) rfl (Á HH Æ) fun x=>M3 x some
def Ju:ZP 88 zK:=zt (Fp _) Æ rfl (Á Pn Æ) fun x=>XI x some
def ahM:ZP 91 VC:=zt (Mp _) (Á Ol (Á WL Æ)) rfl Æ fun x=>UM x some
def ZE:ZP 28 GD:=zt (mB _) (Á lg (Á yJ (Á Ju (Á ahM (Á iB Æ))))) rfl (Á Fv (Á Fu Æ)) fun x=>Kk x some
def af2:ZP 87 Xf:=zt (B9 _) (Á iB Æ) rfl (Á Tr (Á Tq Æ)) fun x=>abp x some
def amW:ZP 29 afc:=zt (Ca _) (Á lg (Á yJ (Á af2 (Á mX Æ)))) rfl (Á TJ (Á TI Æ)) fun x=>abu x some
def ahw:ZP 98 Vm:=zt (Ar _) Æ rfl (Á MU Æ) fun x=>TE x some
def acB:ZP 30 LW:=zt (ļ _) (Á BI (Á lg (Á af2 (Á Jt (Á ahw (Á wZ Æ)))))) rfl (Á Hs (Á Ht (Á Hr (Á Ho (Á Hm (Á Hl (Á Hk (Á Hn Æ)))))))) fun x=>MV x some
def af4:ZP 40 Xh:=zt (VK _) (Á lg (Á Jt Æ)) rfl Æ fun x=>abt x some
def akY:ZP 68 aa6:=zt (Ru _) (Á BN (Á j6 (Á SJ Æ))) rfl Æ fun x=>Y6 x some
def am9:ZP 69 afp:=zt (Lb _) (Á BN Æ) rfl (Á UL Æ) fun x=>ab0 x some
def akP:ZP 133 aaZ:=zt (FQ _) (Á Jy (Á BL (Á af7 Æ))) rfl (Á QT Æ) fun x=>YD x some
def ahK:ZP 134 VA:=zt (jR _) Æ rfl (Á Nw (Á Nv (Á Nu (Á Ns (Á Nt Æ))))) fun x=>Up x some
def akQ:ZP 185 aa0:=zt (xW _) (Á akP (Á ahK Æ)) rfl (Á QW (Á QV Æ)) fun x=>YE x some
def ahv:ZP 106 Vl:=zt (L4 _) (Á CO (Á akY (Á am9 (Á akQ Æ)))) rfl Æ fun x=>Ts x some
def ahy:ZP 42 Vo:=zt (tG _) (Á lg (Á af3 (Á Ju (Á mW (Á SB (Á ahv Æ)))))) rfl (Á MX (Á MW Æ)) fun x=>TH x some
def akv:jo Tryz.prog 154 aaG:=OQ (ι _) (fun {_}=>F8 (Á aku Æ) (ι _) rfl rfl rfl rfl rfl (ő rfl) (mU rfl) (jz rfl)) hmix rfl (Á Pu Æ) (rtab:=L5 _) rfl (Á (Ps akr) Æ) (Á Pr Æ) (nw fun x=>XJ x some)
def Jv:ZP 78 zL:=zt (PI _) (Á lg (Á akv Æ)) rfl Æ fun x=>XN x some
def aky:ZP 49 adn:=zt (abr _) (Á Jv (Á Ju (Á SB Æ))) rfl Æ fun x=>adB x some
def akO:ZP 128 aaY:=zt (KW _) Æ rfl (Á adO (Á adM (Á adL (Á adN Æ)))) fun x=>ajh x some
def akR:ZP 64 aa1:=zt (lS _) (Á Jy (Á BL (Á akO Æ))) rfl (Á Q3 (Á QY (Á QZ (Á Q0 (Á Q2 Æ))))) fun x=>YF x some
def akz:ZP 59 aaJ:=zt (Fw _) (Á akR (Á CO (Á lg (Á Jt (Á mW Æ))))) rfl (Á PK Æ) fun x=>XP x some
def aer:ZP 188 O1:=zt (xS _) Æ rfl (Á KV Æ) fun x=>QQ x some
def am4:ZP 189 afk:=zt (KS _) Æ rfl (Á Uo Æ) fun x=>abL x some
def U0:ZP 122 Dt:=zt (yZ _) (Á Jy (Á aer (Á am4 Æ))) rfl Æ fun x=>H9 x some
def UW:ZP 60 Dp:=zt (pq _) (Á CO (Á lg (Á Jt (Á mW (Á U0 Æ))))) rfl (Á C4 Æ) fun x=>Hw x some
def acA:ZP 77 LV:=zt (Dw _) Æ rfl Æ fun x=>MN x some
def aen:ZP 17 OX:=zt (G0 _) (Á ao5 (Á akA (Á MB (Á ZE (Á amW (Á acB (Á yL (Á af4 (Á ahy (Á aky (Á akz (Á UW (Á acA Æ))))))))))))) rfl Æ fun x=>Pf x some
def LB:ZP 109 EV:=zt (abB _) Æ rfl Æ fun x=>adH x some
def Jw:ZP 45 B7:=zt (VM _) (Á LB Æ) rfl Æ fun x=>abD x some
def amZ:ZP 181 aff:=zt (KL _) Æ rfl (Á Ug Æ) fun x=>abC x some
def acC:ZP 102 OZ:=zt (FL _) (Á amZ Æ) rfl (Á Qz Æ) fun x=>Yk x some
def ZI:ZP 194 NS:=zt (VL _) (Á acC Æ) rfl Æ fun x=>abz x some
def akF:ZP 191 aaP:=zt (xL _) (Á ZI Æ) rfl (Á Qf (Á Qe Æ)) fun x=>X9 x some
def LA:ZP 124 B6:=zt (iZ _) (Á akF Æ) rfl (Á Nj (Á Ni (Á Nh (Á Nd (Á Nf (Á Ng Æ)))))) fun x=>Ud x some
def ahE:ZP 111 Vu:=zt (A4 _) (Á LA Æ) rfl (Á Nk Æ) fun x=>Uf x some
def wY:ZP 33 qZ:=zt (FN _) Æ rfl (Á QD Æ) fun x=>Yn x some
def SF:ZP 85 GI:=zt (FK _) Æ rfl (Á Qx Æ) fun x=>Yj x some
def akG:ZP 239 aaQ:=zt (FF _) Æ rfl (Á Qh Æ) fun x=>Ya x some
def akK:ZP 192 aaU:=zt (FJ _) (Á wY (Á SF (Á akG Æ))) rfl (Á Qv Æ) fun x=>Yi x some
def af5:ZP 270 Xj:=zt (KQ _) Æ rfl (Á Um Æ) fun x=>abI x some
def af6:ZP 271 Xk:=zt (VS _) Æ rfl Æ fun x=>abK x some
def SG:ZP 319 EW:=zt (HT _) (Á af5 (Á af6 Æ)) rfl Æ fun x=>QJ x some
def am3:ZP 306 afj:=zt (VQ _) (Á SG Æ) rfl Æ fun x=>abJ x some
def am1:ZP 307 afh:=zt (VO _) Æ rfl Æ fun x=>abG x some
def am0:ZP 286 afg:=zt (VN _) (Á am3 (Á am1 Æ)) rfl Æ fun x=>abF x some
def ahC:ZP 287 Vs:=zt (L9 _) (Á wY Æ) rfl Æ fun x=>T0 x some
def akM:ZP 308 aaW:=zt (QM _) Æ rfl Æ fun x=>Yq x some
def am2:ZP 309 afi:=zt (VP _) (Á SG Æ) rfl Æ fun x=>abH x some
def ahI:ZP 288 Vy:=zt (Me _) (Á akM (Á am2 Æ)) rfl Æ fun x=>Ul x some
def aeq:ZP 240 O0:=zt (HS _) (Á ZI (Á am0 (Á ahC (Á ahI Æ)))) rfl Æ fun x=>QC x some
def ahF:ZP 241 Vv:=zt (Mc _) Æ rfl Æ fun x=>Ui x some
def ao6:ZP 289 aiQ:=zt (abE _) Æ rfl Æ fun x=>adJ x some
def akN:ZP 242 aaX:=zt (QO _) (Á ao6 Æ) rfl Æ fun x=>Yw x some
def akL:ZP 290 aaV:=zt (QK _) Æ rfl Æ fun x=>Yp x some
def ahJ:ZP 243 Vz:=zt (Mg _) (Á akL Æ) rfl Æ fun x=>Un x some
def akH:ZP 199 aaR:=zt (Qj _) (Á aeq (Á ahF (Á akN (Á ahJ Æ)))) rfl Æ fun x=>Yf x some
def amY:ZP 131 afe:=zt (wo _) (Á ahE (Á LA (Á akK (Á ZI (Á akH Æ))))) rfl (Á T5 (Á T6 (Á T4 Æ))) fun x=>abA x some
def uP:ZP 160 oA:=zt (D2 _) Æ rfl Æ fun x=>M9 x some
def ahH:ZP 227 Vx:=zt (Md _) (Á af5 (Á af6 Æ)) rfl Æ fun x=>Uk x some
def ahD:ZP 161 Vt:=zt (Ma _) (Á Jw (Á LB (Á uP (Á ahH Æ)))) rfl Æ fun x=>T1 x some
def wX:ZP 166 qL:=zt (Mb _) (Á wY Æ) rfl Æ fun x=>T7 x some
def akE:ZP 162 aaO:=zt (FB _) (Á Jw (Á wX Æ)) rfl (Á P9 Æ) fun x=>X7 x some
def ahB:ZP 163 Vr:=zt (oU _) (Á LB (Á uP (Á wX Æ))) rfl (Á Nb (Á Na (Á Nc Æ))) fun x=>TZ x some
def akJ:ZP 228 aaT:=zt (FI _) (Á LB Æ) rfl (Á Qq Æ) fun x=>Yh x some
def ahA:ZP 164 Vq:=zt (L8 _) (Á Jw (Á LB (Á uP (Á akJ Æ)))) rfl Æ fun x=>TY x some
def ZJ:ZP 165 GH:=zt (jO _) (Á wY (Á SF (Á acC (Á wX Æ)))) rfl (Á FE (Á FD (Á FC Æ))) fun x=>KE x some
def ahG:ZP 83 Vw:=zt (l8 _) (Á Jw (Á LA (Á amY (Á uP (Á ahD (Á akE (Á ahB (Á ahA (Á ZJ (Á wX Æ)))))))))) rfl (Á Np (Á Nn (Á No (Á Nl Æ)))) fun x=>Uj x some
def amX:ZP 84 afd:=zt (wm _) (Á wY (Á LB (Á wX Æ))) rfl (Á TP (Á TO (Á TN Æ))) fun x=>abw x some
def WK:ZP 21 J1:=zt (tQ _) (Á ahG (Á amX (Á SF Æ))) rfl (Á M7 (Á M8 Æ)) fun x=>TW x some
def aep:ZP 38 Xi:=zt (P8 _) Æ rfl (Á X6 Æ) fun x=>adF x some
def WJ:ZP 22 J0:=zt (tP _) (Á aep Æ) rfl (Á M5 (Á M6 Æ)) fun x=>TV x some
def ZH:ZP 25 GG:=zt (rP _) (Á MB Æ) rfl (Á FA Æ) fun x=>Kv x some
def ZF:ZP 41 GF:=zt (As _) (Á Jv (Á mW Æ)) rfl Æ fun x=>Km x some
def ahx:ZP 48 Vn:=zt (L6 _) (Á Jv (Á WH Æ)) rfl Æ fun x=>TF x some
def akx:ZP 117 aaI:=zt (Ft _) (Á SB Æ) rfl (Á PG Æ) fun x=>XM x some
def akB:ZP 50 aaL:=zt (PO _) (Á Jv (Á Ju (Á akx Æ))) rfl Æ fun x=>XR x some
def NE:ZP 118 yS:=zt (ud _) (Á yL Æ) rfl Æ fun x=>Da x some
def UY:ZP 119 Dr:=zt (pC _) Æ rfl (Á C9 Æ) fun x=>HO x some
def akI:ZP 51 aaS:=zt (nO _) (Á NE (Á UY Æ)) rfl (Á Qo (Á Qn (Á Qm (Á Ql Æ)))) fun x=>Yg x some
def SE:ZP 56 EU:=zt (qe _) Æ rfl (Á Kt (Á Ku Æ)) fun x=>PX x some
noncomputable def ND {a:r8->CK th} (b:jo Tryz.prog 120 ⟨[(.slice tI)],[(.slice (.slice tI))],fun(x:r8)=>a x⟩):jo Tryz.prog 120 ⟨[(.slice tI)],[(.slice (.slice tI))],fun(x:r8)=>nN a x some⟩:=Xb (p:=⟨[(.slice tI)],[(.slice (.slice tI))],fun(x:r8)=>nN a x some⟩) (Į a _) (fun {_}=>libN (Á b Æ) _) hmix (tab:=AB a _) rfl (Á Kq (Á Kr Æ)) (nw fun x=>PW x some)
def BK:∀n:Nat,jo Tryz.prog 120 ⟨[(.slice tI)],[(.slice (.slice tI))],fun(x:r8)=>qY n x⟩
 |0=>by intro _ _ _ h; cases h
 |n+1=>ND (BK n)
def aeo:jo Tryz.prog 120 OY:=BK 100
def akD:ZP 52 aaN:=zt (lR _) (Á SE (Á aeo Æ)) rfl (Á P0 (Á P1 (Á P2 (Á PY (Á PZ Æ))))) fun x=>X5 x some
def ahu:ZP 53 Vk:=zt (L1 _) (Á WK (Á WJ (Á wY (Á Jw Æ)))) rfl Æ fun x=>Ti x some
def ZG:ZP 54 NR:=zt (Ks _) (Á aep Æ) rfl (Á TQ Æ) fun x=>abx x some
def ahz:ZP 55 Vp:=zt (AE _) (Á aep Æ) rfl (Á M4 Æ) fun x=>TU x some
def akC:ZP 121 aaM:=zt (xF _) (Á ZG Æ) rfl (Á PT (Á PU Æ)) fun x=>XW x some
def UX:ZP 57 Dq:=zt (Θ _) (Á ZG (Á akC Æ)) rfl (Á C8 (Á C7 (Á C6 (Á C5 Æ)))) fun x=>HF x some
def c_w7_SwapWays:ZP 8 pR:=zt (Ab _) (Á ahs (Á aht (Á aen (Á WK (Á WJ (Á ZH (Á af4 (Á ZF (Á ahx (Á aky (Á akB (Á akI (Á akD (Á ahu (Á ZG (Á ahz (Á SE (Á UX Æ)))))))))))))))))) rfl Æ fun x=>Kc x some
end Go.Proofs.ZzM
end
