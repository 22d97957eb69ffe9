/- lemmas -/
import Derived.Test.YtenljaeklhlanaaGreatAmD
import Derived.Test.YtenljaeklhlanaaGreatAmE
import Derived.Ground.NamesProg
import Derived.Ground.Names2Prog
import Derived.KernelRfl
import Derived.Test.YtenljaeklhlanaaGreatMdMA
import Derived.Test.YtenljaeklhlanaaGreatMdKC
import Derived.Test.YtenljaeklhlanaaGreatMdPA
import Derived.RangeFuncBox
import Derived.Lib.SliceRun
import Derived.RangeFuncLeaves
import Derived.WalkKit
import Derived.OwnWalkIn
import Derived.TacticsInMore
import Derived.LoopNIn
import Derived.LoopIn
import Derived.Test.YtenljaeklhlanaaGreatProg
import Derived.RangeFuncFrom
import Derived.RangeFuncRecord
import Derived.Laws.CopyRow
import Derived.Laws.IdiomCopy
import Derived.Test.YtenljaeklhlanaaGreatAmA
import Derived.Test.YtenljaeklhlanaaGreatMdKB
import Derived.Test.YtenljaeklhlanaaGreatMdKA
set_option linter.all false
noncomputable section
namespace Go.Proofs
open Go.Shelf
def Tryz.laysSort_ren:Go.Shelf.Ren:=⟨fun|189=>133|125=>180|257=>179|128=>222|129=>223|294=>213|295=>214|296=>215|297=>216|298=>217|299=>218|216=>219|300=>220|301=>221|328=>250|329=>251|330=>252|331=>253|332=>254|215=>171|343=>268|n=>n,fun|28=>34|3=>3|46=>115|0=>0|51=>261|53=>263|4=>4|183=>254|182=>253|131=>203|5=>5|9=>9|218=>284|222=>288|228=>297|229=>298|n=>n,fun|n=>n⟩
def Tryz.laysSort:Go.Proofs.Lays.n189 Tryz.prog Tryz.laysSort_ren:={
 mixed:=by kernel_rfl
 f125:=Tryz.func180.trans (congrArg some (by kernel_rfl))
 f128:=Tryz.func222.trans (congrArg some (by kernel_rfl))
 f129:=Tryz.func223.trans (congrArg some (by kernel_rfl))
 f189:=Tryz.func133.trans (congrArg some (by kernel_rfl))
 f215:=Tryz.func171.trans (congrArg some (by kernel_rfl))
 f216:=Tryz.func219.trans (congrArg some (by kernel_rfl))
 f257:=Tryz.func179.trans (congrArg some (by kernel_rfl))
 f294:=Tryz.func213.trans (congrArg some (by kernel_rfl))
 f295:=Tryz.func214.trans (congrArg some (by kernel_rfl))
 f296:=Tryz.func215.trans (congrArg some (by kernel_rfl))
 f297:=Tryz.func216.trans (congrArg some (by kernel_rfl))
 f298:=Tryz.func217.trans (congrArg some (by kernel_rfl))
 f299:=Tryz.func218.trans (congrArg some (by kernel_rfl))
 f300:=Tryz.func220.trans (congrArg some (by kernel_rfl))
 f301:=Tryz.func221.trans (congrArg some (by kernel_rfl))
 f328:=Tryz.func250.trans (congrArg some (by kernel_rfl))
 f329:=Tryz.func251.trans (congrArg some (by kernel_rfl))
 f330:=Tryz.func252.trans (congrArg some (by kernel_rfl))
 f331:=Tryz.func253.trans (congrArg some (by kernel_rfl))
 f332:=Tryz.func254.trans (congrArg some (by kernel_rfl))
 f343:=Tryz.func268.trans (congrArg some (by kernel_rfl))
 t0:=Tryz.underlying0
 a0:=Tryz.isAgg0
 z0:=Tryz.sizeOf0
 v0:=Tryz.zeroValue0
 t3:=Tryz.underlying3
 a3:=Tryz.isAgg3
 z3:=Tryz.sizeOf3
 v3:=Tryz.zeroValue3
 t4:=Tryz.underlying4
 a4:=Tryz.isAgg4
 z4:=Tryz.sizeOf4
 v4:=Tryz.zeroValue4
 t5:=Tryz.underlying5
 a5:=Tryz.isAgg5
 z5:=Tryz.sizeOf5
 v5:=Tryz.zeroValue5
 t9:=Tryz.underlying9
 a9:=Tryz.isAgg9
 z9:=Tryz.sizeOf9
 v9:=Tryz.zeroValue9
 t28:=Tryz.underlying34
 a28:=Tryz.isAgg34
 z28:=Tryz.sizeOf34
 v28:=Tryz.zeroValue34
 t46:=Tryz.underlying115
 a46:=Tryz.isAgg115
 z46:=Tryz.sizeOf115
 v46:=Tryz.zeroValue115
 t51:=Tryz.underlying261
 a51:=Tryz.isAgg261
 z51:=Tryz.sizeOf261
 v51:=Tryz.zeroValue261
 t53:=Tryz.underlying263
 a53:=Tryz.isAgg263
 z53:=Tryz.sizeOf263
 v53:=Tryz.zeroValue263
 t131:=Tryz.underlying203
 a131:=Tryz.isAgg203
 z131:=Tryz.sizeOf203
 v131:=Tryz.zeroValue203
 t182:=Tryz.underlying253
 a182:=Tryz.isAgg253
 z182:=Tryz.sizeOf253
 v182:=Tryz.zeroValue253
 t183:=Tryz.underlying254
 a183:=Tryz.isAgg254
 z183:=Tryz.sizeOf254
 v183:=Tryz.zeroValue254
 t218:=Tryz.underlying284
 a218:=Tryz.isAgg284
 z218:=Tryz.sizeOf284
 v218:=Tryz.zeroValue284
 t222:=Tryz.underlying288
 a222:=Tryz.isAgg288
 z222:=Tryz.sizeOf288
 v222:=Tryz.zeroValue288
 t228:=Tryz.underlying297
 a228:=Tryz.isAgg297
 z228:=Tryz.sizeOf297
 v228:=Tryz.zeroValue297
 t229:=Tryz.underlying298
 a229:=Tryz.isAgg298
 z229:=Tryz.sizeOf298
 v229:=Tryz.zeroValue298}
def Tryz.laysCompact_ren:Go.Shelf.Ren:=⟨fun|20=>242|n=>n,fun|22=>34|3=>3|4=>4|0=>0|n=>n,fun|n=>n⟩
def Tryz.laysCompact:Go.Proofs.Lays2.n20 Tryz.prog Tryz.laysCompact_ren:={
 mixed:=by kernel_rfl
 f20:=Tryz.func242.trans (congrArg some (by kernel_rfl))
 t0:=Tryz.underlying0
 a0:=Tryz.isAgg0
 z0:=Tryz.sizeOf0
 v0:=Tryz.zeroValue0
 t3:=Tryz.underlying3
 a3:=Tryz.isAgg3
 z3:=Tryz.sizeOf3
 v3:=Tryz.zeroValue3
 t4:=Tryz.underlying4
 a4:=Tryz.isAgg4
 z4:=Tryz.sizeOf4
 v4:=Tryz.zeroValue4
 t22:=Tryz.underlying34
 a22:=Tryz.isAgg34
 z22:=Tryz.sizeOf34
 v22:=Tryz.zeroValue34
 i3:=by kernel_rfl}
end Go.Proofs
namespace Go.Proofs.ZzM
open Go Go.Am
def hmix:Tryz.prog.follows .mixedOrders=true:=by kernel_rfl
def plain_ : (Tryz.prog.funcs.toList.all fun fn => !(fn.name == "runtime.NumGoroutine")) = true := by kernel_rfl
def plain (f : Nat) (fn : Func) (h : Tryz.prog.funcs[f]? = some fn) : (fn.name == "runtime.NumGoroutine") = false := by
 have:=dI.1 plain_ fn (df (i:=f) (by simpa using h));simpa using this
def amt:Tryz.laysSort_ren.f 189=133:=by kernel_rfl
def aed:Tryz.laysCompact_ren.f 20=242:=by kernel_rfl
section
variable [Ghost] {ρ:Type}
def sortOk (f:Nat) (a:TH f=true) (h:CK Blk) (x:AV) (K:AV->CK Blk->BY ρ) (q:ρ) (e:Uk h x K=some q) (ν:Nat->Value) (w:World) (u:Value) (H:HR ν h w) (b:VR ν h w x u):IA Tryz.prog f ν h w [u] K q:=by
 have c:f=133:=by
  unfold TH at a
  split at a
  ·rfl
  ·cases a
 subst c;have:=amj Tryz.laysSort e H b ⟨_,rfl⟩
 rwa [amt] at this
def aij (f:Nat) (a:vV f=true) (h:CK Blk) (x:AV) (K:AV->CK Blk->BY ρ) (q:ρ) (e:qt h x K=some q) (ν:Nat->Value) (w:World) (u:Value) (H:HR ν h w) (b:VR ν h w x u):IA Tryz.prog f ν h w [u] K q:=by
 have c:f=242:=by
  unfold vV at a
  split at a
  ·rfl
  ·cases a
 subst c;have:=ae1 Tryz.laysCompact e H b ⟨_,rfl⟩
 rwa [aed] at this
def amZ:J1 Tryz.prog JB:=by
 intro g c fz S nid x v d e ν w u H a b hd;unfold JB at c
 split at c
 ·exact BV Tryz.func103 (T:=27) (by kernel_rfl) (by kernel_rfl) e H a b hd
 ·exact BV Tryz.func131 (T:=24) (by kernel_rfl) (by kernel_rfl) e H a b hd
 ·exact BV Tryz.func165 (T:=34) (by kernel_rfl) (by kernel_rfl) e H a b hd
 ·exact BV Tryz.func247 (T:=25) (by kernel_rfl) (by kernel_rfl) e H a b hd
 ·exact BV Tryz.func248 (T:=26) (by kernel_rfl) (by kernel_rfl) e H a b hd
 ·exact BV Tryz.func249 (T:=28) (by kernel_rfl) (by kernel_rfl) e H a b hd
 ·cases c
def Cq {c:CK (Nat×ý)} (h:∀e∈c,iU Tryz.prog e.1 e.2) (E:Env ρ) (b:E.P=Tryz.prog) (l:E.pure=aa6 c) (h2:E.sort=TH) (k:E.compact=vV) (j:E.clone=JB) (i:ZV E) (g:∀f X,E.ext f=some X->afB E.P f X) (d:lz E):Iy E:=by
 constructor
 ·intro f p a;rw[l] at a;rw[b];exact h (f,p) (TX a)
 ·intro f a;rw[h2] at a;rw[b];exact sortOk f a
 ·intro f a;rw[k] at a;rw[b];exact aij f a
 ·rw[b]; exact plain
 ·rw[b,j]; exact amZ
 ·exact i
 ·exact d
 ·exact g
def libN {a:CK (Nat×ý)} (h:∀e∈a,iU Tryz.prog e.1 e.2) (tab:CK (ö ρ)):Iy (Ø a tab):=Cq h _ rfl rfl rfl rfl rfl (Ś rfl) (lN rfl) (iV rfl)
end
abbrev ZP (f:Nat) (p:ý):Prop:=iU Tryz.prog f p
def zt {f:Nat} {p:ý} {a:CK (Nat×ý)} {tab:CK (ö (Val (tyL p.rs)))} (E:Env (Val (tyL p.rs))) (c:∀e∈a,iU Tryz.prog e.1 e.2) (d:E=Ø a tab) (b:∀x∈tab,x.Ok E) (law:∀x:Val (tyL p.ts),topK E f (aba p.ts x) (fun h v=>Ä (ams p.rs h v) some)=p.F x):iU Tryz.prog f p:=by
 subst d;exact LU (Ø a tab) (fun {_}=>libN c _) hmix (tab:=tab) rfl b (lV law)
end Go.Proofs.ZzM
end

noncomputable section
set_option maxRecDepth 100000
namespace Go.Proofs.ZzM
open Go Go.Am
def mU:ZP 52 jA:=zt (kM _) Ã rfl (Á vE (Á vD Ã)) fun x=>by kernel_rfl
noncomputable def RP {n:Nat} (b:lB Tryz.prog ⟨206,(.slice tI),(.slice tI),Z1 n⟩):lB Tryz.prog ⟨206,(.slice tI),(.slice tI),Z1 (n+1)⟩:=VB ⟨206,(.slice tI),(.slice tI),Z1 (n+1)⟩ (fun al=>ą al (Z1 n) _) rfl (fun _=>rfl) (fun _=>rfl) (fun _ {_} a=>Cq (Á mU Ã) _ rfl rfl rfl rfl rfl (Ś rfl) (lN rfl) a) hmix (fun al=>Hw (E:=ą al (Z1 n) _) hmix (tab:=yj al (Z1 n) _) rfl (Á FW Ã) (rtab:=zA al (Z1 n) _) rfl (Á (FV b) Ã) (Á FU Ã)) (fun m xs h=>(KQ m (Z1 (n+1))).trans (agD h))
def Ii:∀n:Nat,lB Tryz.prog ⟨206,(.slice tI),(.slice tI),Z1 n⟩
 |0=>⟨rfl,fun _ _ m xs h=>(Nat.not_lt_zero _ (aca (n:=0) (l:=m) (xs:=xs) h).1).elim⟩
 |n+1=>RP (Ii n)
def aiw:lB Tryz.prog Po:=(Ii 10).mono fun _ _ h=>aei h
noncomputable def LG {n:Nat} (b:lB Tryz.prog ⟨168,(.slice ĝ),(.slice (.slice tI)),Z2 n⟩):lB Tryz.prog ⟨168,(.slice ĝ),(.slice (.slice tI)),Z2 (n+1)⟩:=VB ⟨168,(.slice ĝ),(.slice (.slice tI)),Z2 (n+1)⟩ (fun al=>ð al (Z2 n) _) rfl (fun _=>rfl) (fun _=>rfl) (fun _ {_} a=>Cq Ã _ rfl rfl rfl rfl rfl (Ś rfl) (lN rfl) a) hmix (fun al=>Hw (E:=ð al (Z2 n) _) hmix (tab:=td al (Z2 n) _) rfl Ã (rtab:=vf al (Z2 n) _) rfl (Á (Cf b) (Á (Cj aiw) Ã)) (Á Ce (Á Ci Ã))) (fun m xs h=>(F9 m (Z2 (n+1))).trans (abj h))
def AY:∀n:Nat,lB Tryz.prog ⟨168,(.slice ĝ),(.slice (.slice tI)),Z2 n⟩
 |0=>⟨rfl,fun _ _ m xs h=>(Nat.not_lt_zero _ (acb (n:=0) (l:=m) (xs:=xs) h).1).elim⟩
 |n+1=>LG (AY n)
def PY:lB Tryz.prog rO:=(AY 10).mono fun _ _ h=>Zv h
def aiv:lB Tryz.prog Hy:=VB Hy (fun al=>Ď al (fun _=>none) _) rfl (fun _=>rfl) (fun _=>rfl) (fun _ {_} a=>Cq Ã _ rfl rfl rfl rfl rfl (Ś rfl) (lN rfl) a) hmix (fun _=>L5 hmix rfl (Á sw Ã) rfl) (fun m xs h=>(vB m Bv).trans (afU h))
def B0:ZP 152 uU:=zt (YV _) Ã rfl Ã fun x=>by kernel_rfl
def nS:ZP 163 lW:=zt (YS _) Ã rfl Ã fun x=>by kernel_rfl
def Ip:ZP 197 zd:=zt (aaM _) (Á nS Ã) rfl Ã fun x=>by kernel_rfl
def adE:ZP 264 UD:=zt (aeC _) Ã rfl Ã fun x=>by kernel_rfl
def aiW:ZP 265 aao:=zt (YO _) Ã rfl (Á Vo Ã) fun x=>by kernel_rfl
def Io:ZP 236 FD:=zt (aaK _) (Á adE (Á aiW Ã)) rfl Ã fun x=>by kernel_rfl
def abx:ZP 195 M9:=zt (Hl _) (Á B0 (Á nS (Á Ip (Á Io Ã)))) rfl Ã fun x=>Pe x some
def Qe:ZP 153 ze:=zt (vP _) (Á abx Ã) rfl (Á AE Ã) fun x=>by kernel_rfl
def E5:ZP 154 wK:=zt (G0 _) Ã rfl (Á Js Ã) fun x=>by kernel_rfl
def ww:ZP 107 nr:=zt (rz _) Ã rfl (Á wT Ã) fun x=>by kernel_rfl
def iz:ZP 51 ũ:=zt (yC _) (Á ww Ã) rfl Ã fun x=>by kernel_rfl
def adF:ZP 202 UE:=zt (Jv _) (Á iz Ã) rfl (Á RG (Á RF Ã)) fun x=>by kernel_rfl
def Qd:ZP 156 FG:=zt (EP _) (Á adF Ã) rfl (Á Pb (Á Pc Ã)) fun x=>by kernel_rfl
def uK:ZP 198 nX:=zt (LB _) Ã rfl Ã fun x=>by kernel_rfl
def abw:ZP 196 aaq:=zt (Vq _) (Á Ip (Á uK Ã)) rfl Ã fun x=>by kernel_rfl
def Wf:ZP 200 UF:=zt (mM _) (Á B0 (Á nS (Á uK Ã))) rfl (Á ES (Á ER Ã)) fun x=>Jw x some
def T9:ZP 105 I0:=zt (Ku _) (Á nS Ã) rfl (Á LC Ã) fun x=>by kernel_rfl
def Mq:ZP 106 FH:=zt (Ju _) (Á iz Ã) rfl (Á RE (Á RD Ã)) fun x=>by kernel_rfl
def adG:ZP 204 UG:=zt (Tw _) (Á nS Ã) rfl (Á RH Ã) fun x=>by kernel_rfl
def LK:ZP 201 KK:=zt (ť _) (Á mU (Á T9 (Á Mq (Á B0 (Á nS (Á Ip (Á uK (Á adG Ã)))))))) rfl (Á yG (Á yE (Á yF (Á yD Ã)))) fun x=>Cp x some
end Go.Proofs.ZzM
end

noncomputable section
namespace Go.Proofs
open Go.RowKit
attribute [local go_sem] Oper.semAt_some
noncomputable def upE (f:Nat->Int) (k:Nat):CK Int:=(List.range k).map f
def sG (f:Nat->Int) (k:Nat):upE f (k+1)=upE f k++[f k]:=by simp[upE,fE]
def Be (f:Nat->Int) (k:Nat):(upE f k).length=k:=by simp[upE]
def LO (f:Nat->Int) {j k:Nat} (h:j<=k):upE f j <+: upE f k:=by
 have:k=j+(k-j):=by omega
 rw[this,upE,upE,List.range_add,fc];exact eo _ _
set_option maxRecDepth 100000 in
set_option maxHeartbeats 1000000 in
noncomputable def aj5 (te:TypeId) (n:Nat) (hn:1<=n) (l n₀ bb tb sb:Nat) (flo fhi ga mv:Value) (hbb:bb<n₀) (htb:tb<n₀) (hsb:sb<n₀)
 (ub uo ul uc kb ko kl kc:Nat) (ubase kbase lbase cbase:BY Addr) (ll lc cl cc:Nat) (hub:0<ul->ubase=some ⟨ub,uo,none⟩/\ub<n₀) (hkb:0<kl->kbase=some ⟨kb,ko,none⟩/\kb<n₀)
 (U K:Nat->Int×Int) (eU eL eC eK:Nat->Int)
 (hul:ul<=1000) (hll:ll<=1000) (hcl:cl<=1000) (hkl:kl<=1000)
 (W:World) (hb0:W.heap[bb]?=some (.cells #[flo,fhi,ga,.slice ubase ul uc,.slice lbase ll lc,.slice cbase cl cc,.slice kbase kl kc] te (0,0)))
 (ht:W.cell? ⟨tb,0,none⟩=some (.func (.func 196) #[] #[.pointer (some ⟨sb,0,none⟩)])) (hs:W.cell? ⟨sb,0,none⟩=some mv)
 (hU:∀j,j<ul->W.cell? ⟨ub,uo+j*2,none⟩=some (.int .i64 (U j).1)/\W.cell? ⟨ub,uo+j*2+1,none⟩=some (.int .i64 (U j).2))
 (hK:∀j,j<kl->W.cell? ⟨kb,ko+j*2,none⟩=some (.int .i64 (K j).1)/\W.cell? ⟨kb,ko+j*2+1,none⟩=some (.int .i64 (K j).2))
 (cU:∀j,j<ul->∀W',Below n₀ W W'->CallsIn Fence.wide (n-1) Tryz.prog 196 #[.int .i64 (U j).1,.int .i64 (U j).2,.pointer (some ⟨sb,0,none⟩)] W' fun e W''=>e=.returned (.int .i64 (eU j))/\W'.grownBy W'' none)
 (cK:∀j,j<kl->∀W',Below n₀ W W'->CallsIn Fence.wide (n-1) Tryz.prog 196 #[.int .i64 (K j).1,.int .i64 (K j).2,.pointer (some ⟨sb,0,none⟩)] W' fun e W''=>e=.returned (.int .i64 (eK j))/\W'.grownBy W'' none)
 (cL:∀j,j<ll->∀W',Below n₀ W W'->CallsIn Fence.wide (n-1) Tryz.prog 200 #[.agg #[flo,fhi,ga,.slice ubase ul uc,.slice lbase ll lc,.slice cbase cl cc,.slice kbase kl kc],mv,.int .i64 j] W' fun e W''=>e=.returned (.int .i64 (eL j))/\W'.grownBy W'' none)
 (cC:∀j,j<cl->∀W',Below n₀ W W'->CallsIn Fence.wide (n-1) Tryz.prog 201 #[.agg #[flo,fhi,ga,.slice ubase ul uc,.slice lbase ll lc,.slice cbase cl cc,.slice kbase kl kc],mv,.int .i64 j] W' fun e W''=>e=.returned (.int .i64 (eC j))/\W'.grownBy W'' none)
 (J Jx:CK Int->World->Prop) (hJ:∀pre W W',J pre W->W.grownBy W' none->J pre W') (hJx:∀pre W W',Jx pre W->W.grownBy W' none->Jx pre W')
 (hY:∀pre x W,J pre W->pre.length<ul+(ll+(cl+kl))->YieldAt Fence.wide (n-1) Tryz.prog l #[.int .i64 x] W fun e W' =>
  (e=.returned (.bool true)/\J (pre++[x]) W'/\Below n₀ W W')\/(e=.returned (.bool false)/\Jx (pre++[x]) W'))
 (h0 : J [] W) (hn₀ : n₀ <= W.heap.size) :
  CallsIn Fence.wide n Tryz.prog 199 #[.func (.yield l) #[] #[],.pointer (some ⟨bb,0,none⟩),.pointer (some ⟨tb,0,none⟩),.pointer (some ⟨sb,0,none⟩)] W fun e W'=>(∃v,e=.returned v) /\
   ((∃xs,xs=upE eU ul++(upE eL ll++(upE eC cl++upE eK kl))/\J xs W')\/(∃pre,(pre <+: upE eU ul++(upE eL ll++(upE eC cl++upE eK kl)))/\Jx pre W')):=by
 have grown_alloc:∀(X:World) (o:Obj),X.grownBy (X.alloc o) none:=fun X o=>World.grownBy_alloc X o none
 have bel:∀{X Y:World},Below n₀ W X->X.grownBy Y none->Below n₀ W Y:=fun {X Y} h g =>
  ⟨g.os.trans h.os,g.tape.trans h.tape,g.output.trans h.output,dw h.size g.size,fun k hk=>(g.block k (dz (dz hk hn₀) h.size) (by simp)).trans (h.block k hk)⟩
 have hc:∀{X:World},Below n₀ W X->X.heap[bb]?=some (.cells #[flo,fhi,ga,.slice ubase ul uc,.slice lbase ll lc,.slice cbase cl cc,.slice kbase kl kc] te (0,0)):=fun h=>(h.block bb hbb).trans hb0;refine callsIn_of_wp Tryz.func199 rfl trivial ?_ rfl;simp only[Tryz.ntmps199,fO,dk,dK,Nat.reduceAdd,Nat.reduceSub,Array.replicate_succ,Array.replicate_zero,List.push_toArray,gP,d8,fe]
 have hb3:W.cell? ⟨bb,3,none⟩=some (.slice ubase ul uc):=by simp[World.cell?,hb0]
 gi_wp2
 gi_loopw [14] (fun i wr=>∃k:Nat,k<=ul/\i=.int .i64 k/\J (upE eU k) wr/\Below n₀ W wr)
  (fun i _=>ul-(intOf i).toNat)
 case atStart=>exact⟨0,ee _,rfl,h0,Below.refl _ _⟩
 case round =>
  obtain⟨k,hk,rfl,hJs,hnx⟩:=hrel
  by_cases hlt:k<ul
  ·obtain⟨rfl,hlu⟩:=hub (by omega);have hu1:=(hnx.cell (p:=⟨ub,uo+k*2,none⟩) hlu).trans (hU k hlt).1;have hu2:=(hnx.cell (p:=⟨ub,uo+k*2+1,none⟩) hlu).trans (hU k hlt).2;have ht':=(hnx.cell (p:=⟨tb,0,none⟩) htb).trans ht;have hta:∀o,(wr.alloc o).cell? ⟨tb,0,none⟩=some (.func (.func 196) #[] #[.pointer (some ⟨sb,0,none⟩)]):=fun o=>Lib.cell?_alloc_some _ ht'
   gi_wp2
   refine⟨trivial,(cU k hlt _ (bel hnx (grown_alloc _ _))).mono ?_⟩;rintro e W2 ⟨rfl,hg2⟩;obtain⟨fn,tmps,assign,body,hy,hR⟩:=hY _ (eU k) W2 (hJ _ _ _ (hJ _ _ _ hJs (grown_alloc _ _)) hg2) (by rw[Be]; omega);have hb2:=bel (bel hnx (grown_alloc _ _)) hg2
   gi_wp2
   refine hR.mono ?_;rintro e W3 (⟨rfl,hJ3,hk3⟩|⟨rfl,hJx3⟩)
   ·gi_wp2
    go_roundw
    case rel=>exact⟨k+1,by omega,by simp,by rw[sG]; exact hJ3,hb2.trans hk3⟩
    case measure=>simp[intOf]; omega
   ·gi_wp2
    refine bodyPost_ret (results_none rfl _ _ _) rfl ?_;refine⟨⟨_,rfl⟩,.inr ⟨_,?_,hJx3⟩⟩;rw[<-sG];exact(LO eU (by omega)).trans (eo _ _)
  ·obtain rfl:ul=k:=by omega
   have hb4:wr.cell? ⟨bb,4,none⟩=some (.slice lbase ll lc):=by simp[World.cell?,hc hnx]
   gi_wp2
   gi_loopw [31] (fun i wr=>∃k:Nat,k<=ll/\i=.int .i64 k/\J (upE eU ul++upE eL k) wr/\Below n₀ W wr)
    (fun i _=>ll-(intOf i).toNat)
   case atStart=>exact⟨0,ee _,rfl,by simpa[upE] using hJs,hnx⟩
   case round =>
    clear hJs hnx;obtain⟨k,hk,rfl,hJs,hnx⟩:=hrel
    by_cases hlt:k<ll
    ·have q0:wr.cell? ⟨bb,0,none⟩=some flo:=by simp[World.cell?,hc hnx]
     have q1:wr.cell? ⟨bb,1,none⟩=some fhi:=by simp[World.cell?,hc hnx]
     have q2:wr.cell? ⟨bb,2,none⟩=some ga:=by simp[World.cell?,hc hnx]
     have q3:wr.cell? ⟨bb,3,none⟩=some (.slice ubase ul uc):=by simp[World.cell?,hc hnx]
     have q4:wr.cell? ⟨bb,4,none⟩=some (.slice lbase ll lc):=by simp[World.cell?,hc hnx]
     have q5:wr.cell? ⟨bb,5,none⟩=some (.slice cbase cl cc):=by simp[World.cell?,hc hnx]
     have q6:wr.cell? ⟨bb,6,none⟩=some (.slice kbase kl kc):=by simp[World.cell?,hc hnx]
     have hs':=(hnx.cell (p:=⟨sb,0,none⟩) hsb).trans hs
     gi_wp2
     refine⟨trivial,(cL k hlt _ hnx).mono ?_⟩;rintro e W2 ⟨rfl,hg2⟩;obtain⟨fn,tmps,assign,body,hy,hR⟩:=hY _ (eL k) W2 (hJ _ _ _ hJs hg2) (by simp only[dc,Be]; omega);have hb2:=bel hnx hg2
     gi_wp2
     refine hR.mono ?_;rintro e W3 (⟨rfl,hJ3,hk3⟩|⟨rfl,hJx3⟩)
     ·gi_wp2
      go_roundw
      case rel=>exact⟨k+1,by omega,by simp,by rw[sG,<-di]; exact hJ3,hb2.trans hk3⟩
      case measure=>simp[intOf]; omega
     ·gi_wp2
      refine bodyPost_ret (results_none rfl _ _ _) rfl ?_;refine⟨⟨_,rfl⟩,.inr ⟨_,?_,hJx3⟩⟩;rw[di,<-sG];exact(eZ _).2 ((LO eL (by omega)).trans (eo _ _))
    ·obtain rfl:ll=k:=by omega
     have hb5:wr.cell? ⟨bb,5,none⟩=some (.slice cbase cl cc):=by simp[World.cell?,hc hnx]
     gi_wp2
     gi_loopw [45] (fun i wr=>∃k:Nat,k<=cl/\i=.int .i64 k/\J (upE eU ul++upE eL ll++upE eC k) wr/\Below n₀ W wr)
      (fun i _=>cl-(intOf i).toNat)
     case atStart=>exact⟨0,ee _,rfl,by simpa[upE] using hJs,hnx⟩
     case round =>
      clear hJs hnx;obtain⟨k,hk,rfl,hJs,hnx⟩:=hrel
      by_cases hlt:k<cl
      ·have q0:wr.cell? ⟨bb,0,none⟩=some flo:=by simp[World.cell?,hc hnx]
       have q1:wr.cell? ⟨bb,1,none⟩=some fhi:=by simp[World.cell?,hc hnx]
       have q2:wr.cell? ⟨bb,2,none⟩=some ga:=by simp[World.cell?,hc hnx]
       have q3:wr.cell? ⟨bb,3,none⟩=some (.slice ubase ul uc):=by simp[World.cell?,hc hnx]
       have q4:wr.cell? ⟨bb,4,none⟩=some (.slice lbase ll lc):=by simp[World.cell?,hc hnx]
       have q5:wr.cell? ⟨bb,5,none⟩=some (.slice cbase cl cc):=by simp[World.cell?,hc hnx]
       have q6:wr.cell? ⟨bb,6,none⟩=some (.slice kbase kl kc):=by simp[World.cell?,hc hnx]
       have hs':=(hnx.cell (p:=⟨sb,0,none⟩) hsb).trans hs
       gi_wp2
       refine⟨trivial,(cC k hlt _ hnx).mono ?_⟩;rintro e W2 ⟨rfl,hg2⟩;obtain⟨fn,tmps,assign,body,hy,hR⟩:=hY _ (eC k) W2 (hJ _ _ _ hJs hg2) (by simp only[dc,Be]; omega);have hb2:=bel hnx hg2
       gi_wp2
       refine hR.mono ?_;rintro e W3 (⟨rfl,hJ3,hk3⟩|⟨rfl,hJx3⟩)
       ·gi_wp2
        go_roundw
        case rel=>exact⟨k+1,by omega,by simp,by rw[sG,<-di]; exact hJ3,hb2.trans hk3⟩
        case measure=>simp[intOf]; omega
       ·gi_wp2
        refine bodyPost_ret (results_none rfl _ _ _) rfl ?_;refine⟨⟨_,rfl⟩,.inr ⟨_,?_,hJx3⟩⟩;rw[di,<-sG]
        exact by rw[di]; exact(eZ _).2 ((eZ _).2 ((LO eC (by omega)).trans (eo _ _)))
      ·obtain rfl:cl=k:=by omega
       have hb6:wr.cell? ⟨bb,6,none⟩=some (.slice kbase kl kc):=by simp[World.cell?,hc hnx]
       gi_wp2
       gi_loopw [59] (fun i wr=>∃k:Nat,k<=kl/\i=.int .i64 k/\J ((upE eU ul++upE eL ll++upE eC cl)++upE eK k) wr/\Below n₀ W wr)
        (fun i _=>kl-(intOf i).toNat)
       case atStart=>exact⟨0,ee _,rfl,by simpa[upE] using hJs,hnx⟩
       case round =>
        clear hJs hnx;obtain⟨k,hk,rfl,hJs,hnx⟩:=hrel
        by_cases hlt:k<kl
        ·obtain⟨rfl,hlk⟩:=hkb (by omega);have hu1:=(hnx.cell (p:=⟨kb,ko+k*2,none⟩) hlk).trans (hK k hlt).1;have hu2:=(hnx.cell (p:=⟨kb,ko+k*2+1,none⟩) hlk).trans (hK k hlt).2;have ht':=(hnx.cell (p:=⟨tb,0,none⟩) htb).trans ht;have hta:∀o,(wr.alloc o).cell? ⟨tb,0,none⟩=some (.func (.func 196) #[] #[.pointer (some ⟨sb,0,none⟩)]):=fun o=>Lib.cell?_alloc_some _ ht'
         gi_wp2
         refine⟨trivial,(cK k hlt _ (bel hnx (grown_alloc _ _))).mono ?_⟩;rintro e W2 ⟨rfl,hg2⟩;obtain⟨fn,tmps,assign,body,hy,hR⟩:=hY _ (eK k) W2 (hJ _ _ _ (hJ _ _ _ hJs (grown_alloc _ _)) hg2) (by simp only[dc,Be]; omega);have hb2:=bel (bel hnx (grown_alloc _ _)) hg2
         gi_wp2
         refine hR.mono ?_;rintro e W3 (⟨rfl,hJ3,hk3⟩|⟨rfl,hJx3⟩)
         ·gi_wp2
          go_roundw
          case rel=>exact⟨k+1,by omega,by simp,by rw[sG,<-di]; exact hJ3,hb2.trans hk3⟩
          case measure=>simp[intOf]; omega
         ·gi_wp2
          refine bodyPost_ret (results_none rfl _ _ _) rfl ?_;refine⟨⟨_,rfl⟩,.inr ⟨_,?_,hJx3⟩⟩;rw[di,<-sG,di,di];exact(eZ _).2 ((eZ _).2 ((eZ _).2 (LO eK (by omega))))
        ·obtain rfl:kl=k:=by omega
         gi_wp2
         go_end0
         exact⟨⟨_,rfl⟩,.inl ⟨_,rfl,by simpa[di] using hJs⟩⟩
end Go.Proofs
end

noncomputable section
set_option maxRecDepth 100000
namespace Go.Proofs.ZzM
open Go Go.Am Go.RowKit
def ab7 (p:String):Code:=.region 10 #[{dst:=some 5,op:=.assign (.tmp 49),type:=37,pos:=p,after:=#[],guard:=none}] false
def alG (q r:String):Code:=.block 1 (.seq (.region 11 #[{dst:=some 50,op:=.move (.tmp 5),type:=37,pos:=q,after:=#[],guard:=none},{dst:=some 51,op:=.binOp .neq 37 (.tmp 50) (.const (.int .i64 0)) 37,type:=4,pos:=q,after:=#[{on:=0,ground:=.data}],guard:=none}] false)
 (.cond (.tmp 51) (.seq (.region 12 #[{dst:=some 52,op:=.move (.tmp 5),type:=37,pos:=r,after:=#[],guard:=none},{dst:=none,op:=.store 37 (.tmp 2) (.tmp 52),type:=0,pos:=r,after:=#[{on:=0,ground:=.data},{on:=0,ground:=.phase}],guard:=none}] false) .ret) .skip))
section
variable {P:Program} {F:Fence} {n:Nat}
def FJ {b:Array Oper} {i d:Nat} {o:Oper} {u:Value} {w w':World} {a:Act} {next:Act->World->Prop} {Q:Exit->Act->World->Prop} (m:∀f,F.fn f) (j:b[i]?=some o) (l:o.guard=none) (hd:o.dst=some d) (g:∀c,o.op≠.defer c)
 (e:(execOp a.eval o).run P w=.ok (.value u) w') (k:next (a.put (some d) u) w'):wpOpIn F n P b Q i next a w:=by
 unfold wpOpIn;rw[j]
 have h:Region.wanted o (yielded b a.tmps)=true:=by simp[Region.wanted,l]
 simp only[h,if_true];refine⟨fun _ _=>m _,?_⟩;rw[Oper.semAt_eq _ _ _ g,e];rw[<-hd] at k;exact k
def aek {b:Array Oper} {i:Nat} {o:Oper} {w w':World} {a:Act} {next:Act->World->Prop} {Q:Exit->Act->World->Prop} (l:∀f,F.fn f) (h:b[i]?=some o) (j:o.guard=none) (hd:o.dst=none) (e:∀c,o.op≠.defer c)
 (d:(execOp a.eval o).run P w=.ok .skip w') (k:next a w'):wpOpIn F n P b Q i next a w:=by
 unfold wpOpIn;rw[h]
 have g:Region.wanted o (yielded b a.tmps)=true:=by simp[Region.wanted,j]
 simp only[g,if_true];refine⟨fun _ _=>l _,?_⟩;rw[Oper.semAt_eq _ _ _ e,d];show next (a.put o.dst undef) w';rw[hd];exact k
end
def kr (T:Array Value) (i j:Nat) (v:Value):(T.setIfInBounds i v).getD j undef=if i=j/\i<T.size then v else T.getD j undef:=by
 simp only[eE,fV]
 by_cases h:i=j
 ·subst h
  by_cases h2:i<T.size
  ·simp[h2]
  ·simp[h2]
 ·simp[h]
noncomputable def mark (D:Nat):Deferred:={target:=.collected D,args:=#[]}
structure Put1 (n₀ rb:Nat) (x:Int) (w W:World):Prop where
 os:W.os=w.os
 tape:W.tape=w.tape
 output:W.output=w.output
 size:w.heap.size<=W.heap.size
 block:∀k,k<n₀->k≠rb->W.heap[k]?=w.heap[k]?
 cell:∃e,W.heap[rb]?=some (.cells #[.int .i64 x] e (0,0))
set_option maxHeartbeats 4000000 in
def amq {a:Act} {w:World} {Q:Exit->Act->World->Prop} {lb:Array Value} {L:CK Int} {rb:Nat} {e0:TypeId} {v0:Value} {p q r:String}
 (O:SeqStopsK Fence.wide 1 Tryz.prog 199 lb (fun x:Int=>#[.int .i64 x]) (Below w.heap.size) (fun xs=>xs=L) (fun i=>i <+: L) L.length w)
 (hg:a.tmps.getD 48 undef=.func (.func 199) #[] lb) (h2:a.tmps.getD 2 undef=.pointer (some ⟨rb,0,none⟩)) (hsz:78<=a.tmps.size)
 (U:w.heap[rb]?=some (.cells #[v0] e0 (0,0)))
 (z:∀D W,(∀x∈L,x=0)->Below w.heap.size w W->w.heap.size<=D->W.heap[D]?=some (.deferred (some []))->Q .normal {a with defers:=mark D::a.defers} W)
 (m:∀D W x,L.find? (fun e=>e != 0)=some x->Put1 w.heap.size rb x w W->w.heap.size<=D->W.heap[D]?=some (.deferred (some []))->Q .ret {a with defers:=mark D::a.defers} W) :
 (Code.rangeFunc (.tmp 48) #[49] (ab7 p) (alG q r)).wpIn Fence.wide 2 Tryz.prog Q a w:=by
 have X:∀f,Fence.wide.fn f:=fun _=>trivial;have R:=ĥ U
 refine wpIn_rangeFunc_ownF (α:=Int) (encs:=fun x=>#[.int .i64 x]) (Kp:=Below w.heap.size) (S:=fun xs=>xs=L) (Sp:=fun i=>i <+: L) (N:=L.length) (w0:=w) rfl (by omega) hg trivial (fun args w=>?eg) O
  (fun h k=>h.trans k) (fun W l o o' hl ho hc hw=>belowK_b (cZ _) W l o o' hl ho hc hw) (Below.refl _ _) (fun _=>rfl)
  (fun i W=>(∀x∈i,x=0)/\Below w.heap.size w W)
  (fun c i W=>c=.ret/\∃j x,i=j++[x]/\(∀x∈j,x=0)/\x≠0/\Put1 w.heap.size rb x w W)
  ?hI ?hIx ⟨by simp,Below.refl _ _⟩ (fun x=>{tmps:=(a.tmps.setIfInBounds 49 (.int .i64 x)).setIfInBounds 5 (.int .i64 x),defers:=[]}) ?hassign ?hbody ?z ?m
 case eg=>simp[callFunc,Sem.run_bind,run_program,Result.andThen_ok,Tryz.func199,plain 199 _ Tryz.func199,show Tryz.f199.body.isNone=false from rfl]; rfl
 case hI =>
  intro s W W' row ⟨E,h2⟩ g hr;exact⟨E,g.os.trans h2.os,g.tape.trans h2.tape,g.output.trans h2.output,dw h2.size g.size,fun k A=>(g.block k (dz A h2.size) (fun e=>by have:=(hr k e.symm).1; omega)).trans (h2.block k A)⟩
 case hIx =>
  intro c s W W' row ⟨E,j,x,h3,h4,h5,C⟩ g hr;have hb:∀k,k<w.heap.size->W'.heap[k]?=W.heap[k]?:=fun k A=>g.block k (dz A C.size) (fun e=>by have:=(hr k e.symm).1; omega)
  exact⟨E,j,x,h3,h4,h5,g.os.trans C.os,g.tape.trans C.tape,g.output.trans C.output,dw C.size g.size,fun k A G=>(hb k A).trans (C.block k A G),by
   obtain⟨e,he⟩:=C.cell
   exact⟨e,(hb rb R).trans he⟩⟩
 case hassign =>
  intro l x W K hK
  have hf:((#[49]:Array Tmp).zip #[Value.int .i64 x]).foldl (fun t (p,v)=>t.setIfInBounds p v) a.tmps=a.tmps.setIfInBounds 49 (.int .i64 x):=by simp
  rw[hf];refine wpIn_region ?_;rw[show ∀o:Oper,List.range (#[o]:Array Oper).size=[0] from fun _=>rfl,wpOpsIn_cons];refine FJ (d:=5) (u:=.int .i64 x) (w':=W) X rfl rfl rfl (by simp) ?_ hK;show Result.ok (Next.value ((a.tmps.setIfInBounds 49 (.int .i64 x)).getD 49 undef)) W=_;rw[kr,if_pos ⟨rfl,by omega⟩]
 case hbody =>
  intro l i x W ⟨E,hbel⟩ hpre;refine wpIn_block (wpIn_seq (wpIn_region ?_));rw[show ∀o p:Oper,List.range (#[o,p]:Array Oper).size=[0,1] from fun _ _=>rfl,wpOpsIn_cons]
  refine FJ (d:=50) (u:=.int .i64 x) (w':=W) X rfl rfl rfl (by simp) (by
   show Result.ok (Next.value (((a.tmps.setIfInBounds 49 (.int .i64 x)).setIfInBounds 5 (.int .i64 x)).getD 5 undef)) W=_
   rw[kr,if_pos ⟨rfl,by simp; omega⟩]) ?_
  rw[wpOpsIn_cons]
  refine FJ (d:=51) (u:=.bool (x != 0)) (w':=W) X rfl rfl rfl (by simp) (by
   show((do let u <-(do eqGuard .neq 37 (.tmp 50) (.const (.int .i64 0)) ((((a.tmps.setIfInBounds 49 (.int .i64 x)).setIfInBounds 5 (.int .i64 x)).setIfInBounds 50 (.int .i64 x)).getD 50 undef) (.int .i64 0); binOp .neq 37 ((((a.tmps.setIfInBounds 49 (.int .i64 x)).setIfInBounds 5 (.int .i64 x)).setIfInBounds 50 (.int .i64 x)).getD 50 undef) (.int .i64 0)); pure (.value u)):Sem Next).run Tryz.prog W=_;rw[kr,if_pos ⟨rfl,by simp; omega⟩]
   simp[eqGuard,binOp,Op.intCmp]) ?_
  show Code.wpIn (Fence.wide.inRound l) (2-1-1) Tryz.prog (Code.cond (.tmp 51) _ .skip) _ {tmps:=((((a.tmps.setIfInBounds 49 (.int .i64 x)).setIfInBounds 5 (.int .i64 x)).setIfInBounds 50 (.int .i64 x)).setIfInBounds 51 (.bool (x != 0))),defers:=[]} W;obtain⟨T,B⟩:∃T,T=((((a.tmps.setIfInBounds 49 (.int .i64 x)).setIfInBounds 5 (.int .i64 x)).setIfInBounds 50 (.int .i64 x)).setIfInBounds 51 (.bool (x != 0))):=⟨_,rfl⟩;rw[<-B]
  have J:T.getD 51 undef=.bool (x != 0):=by rw[B,kr,if_pos ⟨rfl,by simp; omega⟩]
  have t5:T.getD 5 undef=.int .i64 x:=by rw[B,kr,if_neg (by simp),kr,if_neg (by simp),kr,if_pos ⟨rfl,by simp; omega⟩]
  have t2:T.getD 2 undef=.pointer (some ⟨rb,0,none⟩):=by rw[B,kr,if_neg (by simp),kr,if_neg (by simp),kr,if_neg (by simp),kr,if_neg (by simp),h2]
  have tsz:78<=T.size:=by rw[B]; simpa using hsz
  clear B
  by_cases Y:x=0
  ·have I:Act.eval {tmps:=T,defers:=[]} (.tmp 51)=.bool false:=J.trans (by simp[Y]);refine wpIn_cond_false I (wpIn_skip ?_);simp only[Exit.inBlock,ownPostK];exact⟨KeepsOthers.refl _,Below.refl _ _,fun y hy=>(dg.1 hy).elim (E y) (fun h=>by rw[dj] at h; rw[h,Y]),hbel⟩
  ·have I:Act.eval {tmps:=T,defers:=[]} (.tmp 51)=.bool true:=J.trans (by simp[Y]);refine wpIn_cond_true I (wpIn_seq (wpIn_region ?_));rw[show ∀o p:Oper,List.range (#[o,p]:Array Oper).size=[0,1] from fun _ _=>rfl,wpOpsIn_cons]
   have e5:(execOp (Act.eval {tmps:=T,defers:=[]}) {dst:=some 52,op:=.move (.tmp 5),type:=37,pos:=r,after:=#[],guard:=none}).run Tryz.prog W=.ok (.value (.int .i64 x)) W:=by
    show Result.ok (Next.value (T.getD 5 undef)) W=_;rw[t5]
   refine FJ (d:=52) (u:=.int .i64 x) (w':=W) X rfl rfl rfl (by simp) e5 ?_;rw[wpOpsIn_cons];have hW:W.heap[rb]?=some (.cells #[v0] e0 (0,0)):=(hbel.block rb R).trans U
   letI:Ghost:=(Gk (fun _=>False) [] (none))
   have hst:=yT (P:=Tryz.prog) (w:=W) (t:=37) (u:=.int .i64 x) (n:=1) (b:=rb) (o:=0) (by kernel_rfl) rfl hW (by simp) (by simp[Value.cells,Value.oneCell'])
   have M:(storeVar 37 ⟨rb,0,none⟩ (.int .i64 x)).run Tryz.prog W=.ok () (W.setRow rb #[.int .i64 x]):=by simpa[Value.cells] using hst
   have Z:(T.setIfInBounds 52 (.int .i64 x)).getD 52 undef=.int .i64 x:=by rw[kr,if_pos ⟨rfl,by omega⟩]
   have t2':(T.setIfInBounds 52 (.int .i64 x)).getD 2 undef=.pointer (some ⟨rb,0,none⟩):=by rw[kr,if_neg (by simp),t2]
   have e6:(execOp (Act.eval {tmps:=T.setIfInBounds 52 (.int .i64 x),defers:=[]}) {dst:=none,op:=.store 37 (.tmp 2) (.tmp 52),type:=0,pos:=r,after:=#[{on:=0,ground:=.data},{on:=0,ground:=.phase}],guard:=none}).run Tryz.prog W=.ok .skip (W.setRow rb #[.int .i64 x]):=by
    show((do Instr.storeAt 37 ((T.setIfInBounds 52 (.int .i64 x)).getD 2 undef) ((T.setIfInBounds 52 (.int .i64 x)).getD 52 undef); pure .skip):Sem Next).run Tryz.prog W=_;rw[Z,t2'];simp[Instr.storeAt,Instr.sureAddr,M]
   refine aek (w':=W.setRow rb #[.int .i64 x]) X rfl rfl rfl (by simp) e6 ?_;refine wpIn_ret ?_;simp only[Exit.inBlock,ownPostK];refine⟨⟨by simp,fun k o A ho=>?_⟩,trivial,i,x,rfl,E,Y,hbel.os,hbel.tape,hbel.output,by simpa using hbel.size,fun k A G=>(setRow_other _ _ _ _ G).trans (hbel.block k A),⟨_,setRow_heap _ _ _ _ _ _ hW⟩⟩
   by_cases V:k=rb
   ·subst V; rw[hW] at A; cases A; simp[Obj.isCells] at ho
   ·rw[setRow_other _ _ _ _ V]; exact A
 case z =>
  intro D xs W hD hS ⟨E,hbel⟩ H;subst hS;exact z D W E hbel hD H
 case m =>
  intro D c i W hD hS ⟨hc,j,x,h3,h4,h5,C⟩ H;subst hc;refine wpIn_ret (m D W x ?_ C hD H);obtain⟨t,rfl⟩:=hS;rw[h3,di,List.find?_append]
  have:List.find? (fun e=>e != 0) j=none:=ew.2 fun y hy=>by simp[h4 y hy]
  rw[this];simp[h5]
end Go.Proofs.ZzM
end

noncomputable section
set_option maxRecDepth 100000
namespace Go.Proofs.ZzM
open Go Go.Am Go.RowKit
noncomputable def fstC:Code->Code
 |.seq a _=>a
 |c=>c
noncomputable def sndC:Code->Code
 |.seq _ b=>b
 |c=>c
noncomputable def agO:Nat->Code->Code
 |0,c=>fstC c
 |n+1,c=>agO n (sndC c)
noncomputable def akJ:Nat->Code->Code
 |0,c=>c
 |n+1,c=>akJ n (sndC c)
noncomputable def ckB:Code:=Tryz.f96.body.getD .skip
noncomputable def ckA5:Code:=fstC (akJ 5 ckB |> fstC)
noncomputable def ckRF:Code:=sndC (akJ 5 ckB |> fstC)
noncomputable def T5:Code:=sndC (akJ 5 ckB)
noncomputable def ckPre:Code:=.seq (agO 0 ckB) (.seq (agO 1 ckB) (.seq (agO 2 ckB) (.seq (agO 3 ckB) (.seq (agO 4 ckB) ckA5))))
def al1:Tryz.f96.body=some (.seq (agO 0 ckB) (.seq (agO 1 ckB) (.seq (agO 2 ckB) (.seq (agO 3 ckB) (.seq (agO 4 ckB) (.seq (.seq ckA5 ckRF) T5)))))):=by kernel_rfl
noncomputable def ck_pt:CK (Nat×ý):=[(156,FG),(154,wK),(152,uU),(153,ze)]
noncomputable def ckE (ρ:Type):Env ρ:=Ø ck_pt []
abbrev ckR:Type:=Int ⊕ (CK AV×CK Blk)
noncomputable def ait (S:St):BY Int:=match uO Tryz.prog Tryz.f96 S with
 |some v=>ams [tI] S.h v
 |none=>none
noncomputable def ckK (e:Exit) (S:St):BY ckR:=match e with
 |.ret=>match ait S with
  |some n=>some (.inl n)
  |none=>none
 |.normal=>match decide (78<=S.t.length) with
  |true=>some (.inr ([lk S.t 1,lk S.t 2,lk S.t 48],S.h))
  |false=>none
 |_=>none
noncomputable def ckH (x:b6) (s:kw) (n:Int):CK Blk :=
 [.cells (flat Ë x),.cells [.int .i64 n],.cells (flat Ë x),.cells [.mp tI Ù s],.cells [.fn (.func 196) [] [.box 3 0]]]
noncomputable def ckM (x:b6):BY ckR :=
 Ä (Ξ x.1 (0:Int) (1000000:Int)) fun r1=>ifb (!r1) (some (.inl 1)) (ifb (igt (Õ x.2.1) (12:Int)) (some (.inl 2)) (ifb (igt (Õ x.2.2.1) (40:Int)) (some (.inl 2)) (ifb (igt (Õ x.2.2.2.1) (12:Int)) (some (.inl 2)) (ifb (igt (Õ x.2.2.2.2.1) (40:Int)) (some (.inl 2)) (ifb (igt (Õ x.2.2.2.2.2) (10:Int)) (some (.inl 2))
  (Ä (Β x) fun r2=>ifb (ine r2 (0:Int)) (some (.inl r2)) (Ä (Ň x) fun a=>some (.inr ([.box 0 0,.box 1 0,.fn (.func 199) [] [.box 2 0,.box 4 0,.box 3 0]],ckH x a 0)))))))))
def ck_pre (x:b6):goC (ckE ckR) (Ū (ckE ckR) 10) 96 [] 0 0 ckPre {t:=aba [Ë] x++List.replicate 77 .any,h:=[]} ckK=ckM x:=by kernel_rfl
noncomputable def akR (ρ:Type):Env ρ:={ckE ρ with inl:=fun _=>false}
noncomputable def ckS (x:b6):BY Int :=
 Ä (se x) fun c=>ifb (igt (Õ c) (59:Int)) (some (2:Int)) (ck ((2:Int)*(Õ x.2.1)) fun n6=>ck ((Õ c)-(Õ x.2.1)) fun f=>ck ((2:Int)*f) fun e=>ck (n6+e) fun d=>ck ((2:Int)*(Õ x.2.2.2.2.1)) fun b=>ck (d+b) fun a=>ifb (igt a (300:Int)) (some (2:Int)) (some (0:Int)))
noncomputable def ckK2 (e:Exit) (S:St):BY Int:=match e with
 |.ret=>match lk S.t 2 with
  |.box 1 0=>match lkB S.h 1 with
   |.cells [.int .i64 n]=>some n
   |_=>none
  |_=>none
 |_=>none
def ck_suf (x:b6) (s:kw):goC (akR Int) (Ū (akR Int) 10) 96 [] 0 0 T5 {t:=[.any,.box 0 0,.box 1 0]++List.replicate 75 .any,h:=ckH x s 0} ckK2=ckS x:=by kernel_rfl
def akQ (x:b6):κ x=match ckM x with
 |none=>none
 |some (.inl n)=>some n
 |some (.inr _)=>Ä (Ň x) fun s=>Xa (pb x s) some (ckS x):=by
 unfold κ Ph ckM ckS
 cases Ξ x.1 (0:Int) (1000000:Int) with
 |none=>rfl
 |some r1 =>
 cases r1 with
 |false=>rfl
 |true =>
 simp only[Ä,ifb,dR]
 cases igt (Õ x.2.1) (12:Int) with
 |true=>rfl
 |false =>
 cases igt (Õ x.2.2.1) (40:Int) with
 |true=>rfl
 |false =>
 cases igt (Õ x.2.2.2.1) (12:Int) with
 |true=>rfl
 |false =>
 cases igt (Õ x.2.2.2.2.1) (40:Int) with
 |true=>rfl
 |false =>
 cases igt (Õ x.2.2.2.2.2) (10:Int) with
 |true=>rfl
 |false =>
 cases Β x with
 |none=>rfl
 |some r2 =>
 simp only
 cases ine r2 (0:Int) with
 |true=>rfl
 |false =>
 cases Ň x with
 |none=>rfl
 |some a=>rfl
def am2 {x:b6} {q:CK AV×CK Blk} (h:ckM x=some (.inr q)):((x.2.2.1:CK bx).length<=1000/\(x.2.2.2.1:CK u7).length<=1000/\(x.2.2.2.2.1:CK i4).length<=1000/\(x.2.2.2.2.2:CK bx).length<=1000) /\
 ∃s,Ň x=some s/\q=([.box 0 0,.box 1 0,.fn (.func 199) [] [.box 2 0,.box 4 0,.box 3 0]],ckH x s 0):=by
 unfold ckM at h
 cases h0:Ξ x.1 (0:Int) (1000000:Int) with
 |none=>rw[h0] at h; cases h
 |some r1 =>
 rw[h0] at h
 cases r1 with
 |false=>cases h
 |true =>
 simp only[Ä,ifb,dR] at h
 cases g:igt (Õ x.2.1) (12:Int) with
 |true=>rw[g] at h; cases h
 |false =>
 rw[g] at h
 cases h2:igt (Õ x.2.2.1) (40:Int) with
 |true=>rw[h2] at h; cases h
 |false =>
 rw[h2] at h
 cases c:igt (Õ x.2.2.2.1) (12:Int) with
 |true=>rw[c] at h; cases h
 |false =>
 rw[c] at h
 cases b:igt (Õ x.2.2.2.2.1) (40:Int) with
 |true=>rw[b] at h; cases h
 |false =>
 rw[b] at h
 cases a:igt (Õ x.2.2.2.2.2) (10:Int) with
 |true=>rw[a] at h; cases h
 |false =>
 rw[a] at h
 cases f:Β x with
 |none=>rw[f] at h; cases h
 |some r2 =>
 rw[f] at h;simp only at h
 cases e:ine r2 (0:Int) with
 |true=>rw[e] at h; cases h
 |false =>
 rw[e] at h
 cases d:Ň x with
 |none=>rw[d] at h; cases h
 |some i =>
 rw[d] at h
 have lt:∀{α:Type} (l:CK α) (n:Nat),igt (Õ l) (n:Int)=false->l.length<=n:=by
  intro α l n h;unfold Õ at h;rw[Ng] at h;simp only[igt,gt_iff_lt,decide_eq_false_iff_not] at h;omega
 simp only[Option.some.injEq,Sum.inr.injEq] at h;exact⟨⟨by have:=lt x.2.2.1 40 h2; omega,by have:=lt x.2.2.2.1 12 c; omega,by have:=lt x.2.2.2.2.1 40 b; omega,by have:=lt x.2.2.2.2.2 10 a; omega⟩,i,rfl,h.symm⟩
def FP {α β:Type} {f:α->BY β}:∀{l:CK α} {m:CK β},No f l=some m->m.length=l.length/\∀(i:Nat) (a:α),l[i]?=some a->∃b,m[i]?=some b/\f a=some b
 |[],m,h=>by cases h; exact⟨rfl,fun i a ha=>by simp at ha⟩
 |a::l,m,h=>by
  unfold No at h
  cases ha:f a with
  |none=>rw[ha] at h; cases h
  |some b =>
   rw[ha] at h
   cases d:No f l with
   |none=>rw[d] at h; cases h
   |some j =>
    rw[d] at h;cases h;obtain⟨g,h2⟩:=FP d;refine⟨by simp[g],fun i c e=>?_⟩
    cases i with
    |zero=>simp at e; subst e; exact⟨b,by simp,ha⟩
    |succ i=>simpa using h2 i c (by simpa using e)
def LP (l:CK Int):upE (fun j=>l[j]?.getD 0) l.length=l:=by
 unfold upE;refine List.ext_getElem (by simp) fun i a h2=>?_;simp at a;simp[a]
def CR.below {a:Nat} {w W:World} {av:Nat->Prop} (hb:Below a w W) (d:w.heap.size<=a) {t:Ty} {x:Val t} {vs:CK Value} (h:CR w av t x vs):CR W av t x vs :=
 h.keep fun b c ha=>⟨hb.block b (dz c d),ha⟩
def MG {w:World} {av:Nat->Prop} {xs:CK (Int×Int)} {v:Value} (h:CR w av (.slice Ç) xs [v]):∃base cap b off,v=.slice base xs.length cap/\(0<xs.length->base=some ⟨b,off,none⟩/\b<w.heap.size) /\
 ∀j,j<xs.length->w.cell? ⟨b,off+j*2,none⟩=some (.int .i64 (xs[j]?.getD (0,0)).1)/\w.cell? ⟨b,off+j*2+1,none⟩=some (.int .i64 (xs[j]?.getD (0,0)).2):=by
 obtain⟨base,cap,e,r,a⟩:=h;cases e;rcases a with a|⟨b,off,hb,f,d,a⟩
 ·refine⟨base,cap,0,0,rfl,fun h=>?_,fun j c=>?_⟩
  ·rw[show xs=[] from a] at h; simp at h
  ·rw[show xs=[] from a] at c; simp at c
 ·refine⟨base,cap,b,off,rfl,fun _=>⟨hb,d⟩,fun j c=>?_⟩;obtain⟨us,k,h2⟩:=a j xs[j] (cX c);obtain⟨u1,u2,o,i,g⟩:=k;have m:u1=[.int .i64 xs[j].1]:=i;have l:u2=[.int .i64 xs[j].2]:=g;subst m l o;have s:(Ç).size=2:=rfl;rw[s] at h2;have q:=h2 0 _ rfl;have p:=h2 1 _ rfl;rw[cX c];exact⟨by simpa using q,by simpa[Nat.add_assoc] using p⟩
end Go.Proofs.ZzM
end

noncomputable section
set_option maxRecDepth 100000
namespace Go.Proofs.ZzM
open Go Go.Am Go.RowKit
section
variable {w W W':World}
abbrev noG:Nat->Prop:=fun _=>False
def VC (w:World) (n:Int):me w noG tI n (.int .i64 n):=⟨[.int .i64 n],rfl,rfl⟩
def amF {a:Nat} {b:Value} {e:TypeId} {s:kw} (h:w.heap[a]?=some (.cells #[b] e (0,0))) (c:CR w noG (.map tI Ù) s [b]):me w noG (.ptr (.map tI Ù)) s (.pointer (some ⟨a,0,none⟩)):=by
 letI:Ghost:=(Gk (fun _=>False) [] (none))
 exact⟨[.pointer (some ⟨a,0,none⟩)],⟨a,0,[b],rfl,id,ĥ h,c,CellsAt.of_cells h⟩,rfl⟩
def amr {y:Int} {u:Value} (h:RR w noG [tI] y u):u=.int .i64 y:=by
 obtain⟨us,a,rfl⟩:=h;have:us=[.int .i64 y]:=a;rw[this]; rfl
def akw (e:∀b,b<W.heap.size->W'.heap[b]?=W.heap[b]?) (h2:W.heap.size<=W'.heap.size) (d:W'.os=W.os) (c:W'.tape=W.tape) (a:W'.output=W.output):W.grownBy W' none :=
 ⟨d,c,a,h2,fun b hb _=>e b hb⟩
def V6 {f:Nat} {p:ý} (d:iU Tryz.prog f p) (a:p.rs=[tI]) {x:Val (tyL p.ts)} {y:Int} (c:p.F x=some (a▸(show Val (tyL [tI]) from y))) {vals:CK Value} (ha:AL W noG p.ts x vals) :
 CallsIn Fence.wide 0 Tryz.prog f vals.toArray W fun e b=>e=.returned (.int .i64 y)/\W.grownBy b none:=by
 obtain⟨ts,rs,F⟩:=p;dsimp only at a c ha x;subst a;refine(d noG x y c W vals (fun _ h=>h.elim) ha).2.mono fun e w' ⟨u,h0,l,h2,k,j,i,g⟩=>⟨?_,akw h2 k j i g⟩;rw[h0,amr l]
def Wz {s:kw} {a b y:Int} (i:ň a b s=some y) {c:Nat} {f:Value} {e:TypeId} (h:W.heap[c]?=some (.cells #[f] e (0,0))) (g:CR W noG (.map tI Ù) s [f]) :
 CallsIn Fence.wide 0 Tryz.prog 196 #[.int .i64 a,.int .i64 b,.pointer (some ⟨c,0,none⟩)] W fun e d=>e=.returned (.int .i64 y)/\W.grownBy d none :=
 V6 abw rfl (x:=(a,b,s)) (y:=y) i (vals:=[.int .i64 a,.int .i64 b,.pointer (some ⟨c,0,none⟩)]) ⟨_,_,rfl,VC _ _,_,_,rfl,VC _ _,_,rfl,amF h g⟩
def ag2 {a:Value} {s:kw} (b:CR W noG (.map tI Ù) s [a]):me W noG (.map tI Ù) s a:=⟨[a],b,rfl⟩
def adJ {x:b6} {cs:Array Value} (hb:CR W noG Ë x cs.toList):me W noG Ë x (.agg cs):=⟨cs.toList,hb,by show Value.agg cs=Value.agg cs.toList.toArray; rw[Array.toArray_toList]⟩
def aht {x:b6} {s:kw} {i y:Int} (d:ι x s i=some y) {a:Value} {cs:Array Value} (hb:CR W noG Ë x cs.toList) (c:CR W noG (.map tI Ù) s [a]) :
 CallsIn Fence.wide 0 Tryz.prog 200 #[.agg cs,a,.int .i64 i] W fun e b=>e=.returned (.int .i64 y)/\W.grownBy b none :=
 V6 Wf rfl (x:=(x,s,i)) (y:=y) d (vals:=[.agg cs,a,.int .i64 i]) ⟨_,_,rfl,adJ hb,_,_,rfl,ag2 c,_,rfl,VC _ _⟩
def Zu {x:b6} {s:kw} {i y:Int} (d:Ŏ x s i=some y) {a:Value} {cs:Array Value} (hb:CR W noG Ë x cs.toList) (c:CR W noG (.map tI Ù) s [a]) :
 CallsIn Fence.wide 0 Tryz.prog 201 #[.agg cs,a,.int .i64 i] W fun e b=>e=.returned (.int .i64 y)/\W.grownBy b none :=
 V6 LK rfl (x:=(x,s,i)) (y:=y) d (vals:=[.agg cs,a,.int .i64 i]) ⟨_,_,rfl,adJ hb,_,_,rfl,ag2 c,_,rfl,VC _ _⟩
end
def qR {w:World} {av:Nat->Prop} {t:Ty} {xs:CK (Val t)} {vs:CK Value} (h:CR w av (.slice t) xs vs):∃base cap,vs=[.slice base xs.length cap]:=by
 obtain⟨base,cap,e,_⟩:=h;exact⟨base,cap,e⟩
def ajX {x:b6} {s:kw} {E A z D:CK Int} (h1:No (fun u=>ň u.1 u.2 s) (x.2.2.1:CK (Int×Int))=some E) (h2:No (fun i=>ι x s i) (yN (x.2.2.2.1:CK u7).length)=some A)
 (h3:No (fun i=>Ŏ x s i) (yN (x.2.2.2.2.1:CK i4).length)=some z) (h4:No (fun u=>ň u.1 u.2 s) (x.2.2.2.2.2:CK (Int×Int))=some D)
 (o:(x.2.2.1:CK bx).length<=1000/\(x.2.2.2.1:CK u7).length<=1000/\(x.2.2.2.2.1:CK i4).length<=1000/\(x.2.2.2.2.2:CK bx).length<=1000)
 {w:World} {bb tb Q:Nat} {te te2 te3:TypeId} {cb:Array Value} {mv:Value} (Z:w.heap[bb]?=some (.cells cb te (0,0))) (M:CR w noG Ë x cb.toList) (Y:w.heap[tb]?=some (.cells #[.func (.func 196) #[] #[.pointer (some ⟨Q,0,none⟩)]] te2 (0,0)))
 (B:w.heap[Q]?=some (.cells #[mv] te3 (0,0))) (C:CR w noG (.map tI Ù) s [mv]) :
 SeqStopsK Fence.wide 1 Tryz.prog 199 #[.pointer (some ⟨bb,0,none⟩),.pointer (some ⟨tb,0,none⟩),.pointer (some ⟨Q,0,none⟩)] (fun x:Int=>#[.int .i64 x]) (Below w.heap.size) (fun xs=>xs=E++(A++(z++D))) (fun m=>m <+: (E++(A++(z++D)))) (E++(A++(z++D))).length w:=by
 intro l J Jx W d hJ hJx hY h0;obtain⟨fl,r0,e0,hfl,hr0⟩:=id M;obtain⟨ga,r1,e1,hga,hr1⟩:=hr0;obtain⟨us,r2,e2,G,hr2⟩:=hr1;obtain⟨lo,r3,e3,hlo,hr3⟩:=hr2;obtain⟨co,ko,e4,hco,I⟩:=hr3;obtain⟨f1,f2,e5,hf1,hf2⟩:=hfl;have e6:f1=[.int .i64 x.1.1]:=hf1;have e7:f2=[.int .i64 x.1.2]:=hf2;obtain⟨gab,gac,e8⟩:=qR hga;obtain⟨U,T,e9⟩:=qR hlo;obtain⟨cob,coc,e10⟩:=qR hco;obtain⟨usb0,usc0,O⟩:=qR G;obtain⟨kob0,koc0,N⟩:=qR I;rw[O] at G;rw[N] at I;obtain⟨S,R,ub,uo,e13,H,hU⟩:=MG G;obtain⟨X,V,kb,kof,e14,K,hK⟩:=MG I;rw[e13] at O;rw[e14] at N
 have L:cb=#[.int .i64 x.1.1,.int .i64 x.1.2,.slice gab (x.2.1:CK pi).length gac,.slice S (x.2.2.1:CK bx).length R,.slice U (x.2.2.2.1:CK u7).length T,.slice cob (x.2.2.2.2.1:CK i4).length coc,.slice X (x.2.2.2.2.2:CK bx).length V]:=by
  rw[<-eN,e0,e1,e2,e3,e4,e5,e6,e7,e8,e9,e10,O,N];rfl
 obtain⟨g1,q1⟩:=FP h1;obtain⟨g2,q2⟩:=FP h2;obtain⟨g3,q3⟩:=FP h3;obtain⟨g4,q4⟩:=FP h4
 have gl2:A.length=(x.2.2.2.1:CK u7).length:=by rw[g2]; simp[yN]
 have gl3:z.length=(x.2.2.2.2.1:CK i4).length:=by rw[g3]; simp[yN]
 have up1:upE (fun j=>E[j]?.getD 0) (x.2.2.1:CK bx).length=E:=by rw[<-g1]; exact LP E
 have up2:upE (fun j=>A[j]?.getD 0) (x.2.2.2.1:CK u7).length=A:=by rw[<-gl2]; exact LP A
 have up3:upE (fun j=>z[j]?.getD 0) (x.2.2.2.2.1:CK i4).length=z:=by rw[<-gl3]; exact LP z
 have up4:upE (fun j=>D[j]?.getD 0) (x.2.2.2.2.2:CK bx).length=D:=by rw[<-g4]; exact LP D
 have at1:∀{xs:CK (Int×Int)} {q:CK Int},(∀(i:Nat) (a:Int×Int),xs[i]?=some a->∃b,q[i]?=some b/\ň a.1 a.2 s=some b)->∀j,j<xs.length->ň (xs[j]?.getD (0,0)).1 (xs[j]?.getD (0,0)).2 s=some (q[j]?.getD 0):=by
  intro xs q hq j k;obtain⟨b,hb,hf⟩:=hq j xs[j] (cX k);rw[cX k,hb];exact hf
 have at2:∀{n:Nat} {q:CK Int} {f:Int->BY Int},(∀(i:Nat) (a:Int),(yN n)[i]?=some a->∃b,q[i]?=some b/\f a=some b)->∀j,j<n->f (j:Int)=some (q[j]?.getD 0):=by
  intro n q f hq j k;obtain⟨b,hb,hf⟩:=hq j j (by simp[yN,k]);rw[hb]; exact hf
 have c:∀{W':World},Below w.heap.size W W'->Below w.heap.size w W':=fun h=>d.trans h;have g:∀{W':World} {p:Addr} {v:Value},Below w.heap.size w W'->w.cell? p=some v->p.block<w.heap.size->W'.cell? p=some v:=fun {W'} {p} {v} h hc hp=>(h.cell (p:=p) hp).trans hc;have lb:=ĥ Z;have lt:=ĥ Y;have q:=ĥ B
 have:=aj5 te 1 (by omega) l w.heap.size bb tb Q (.int .i64 x.1.1) (.int .i64 x.1.2) (.slice gab (x.2.1:CK pi).length gac) mv lb lt q
  ub uo (x.2.2.1:CK bx).length R kb kof (x.2.2.2.2.2:CK bx).length V S X U cob (x.2.2.2.1:CK u7).length T (x.2.2.2.2.1:CK i4).length coc H K
  (fun j=>(x.2.2.1:CK (Int×Int))[j]?.getD (0,0)) (fun j=>(x.2.2.2.2.2:CK (Int×Int))[j]?.getD (0,0)) (fun j=>E[j]?.getD 0) (fun j=>A[j]?.getD 0) (fun j=>z[j]?.getD 0) (fun j=>D[j]?.getD 0)
  o.1 o.2.1 o.2.2.1 o.2.2.2 W ((d.block bb lb).trans (by rw[Z,L])) (g d (by simp[World.cell?,Y]) lt) (g d (by simp[World.cell?,B]) q)
  (fun j k=>⟨g d (hU j k).1 (H (by omega)).2,g d (hU j k).2 (H (by omega)).2⟩) (fun j k=>⟨g d (hK j k).1 (K (by omega)).2,g d (hK j k).2 (K (by omega)).2⟩)
  (fun j k W' t=>Wz (at1 q1 j k) (((c t).block Q q).trans B) (CR.below (c t) (cZ _) C))
  (fun j k W' t=>Wz (at1 q4 j k) (((c t).block Q q).trans B) (CR.below (c t) (cZ _) C))
  (fun j k W' t=>aht (at2 q2 j k) (by have:=CR.below (c t) (cZ _) M; rwa [L] at this) (CR.below (c t) (cZ _) C))
  (fun j k W' t=>Zu (at2 q3 j k) (by have:=CR.below (c t) (cZ _) M; rwa [L] at this) (CR.below (c t) (cZ _) C))
  J Jx (fun m W1 W2 k hg=>hJ m W1 W2 none k hg (fun r e=>by cases e)) (fun m W1 W2 k hg=>hJx m W1 W2 none k hg (fun r e=>by cases e))
  (fun m y W1 k hl=>hY m y W1 k (by simp only[dc]; omega)) h0 d.size
 rw[up1,up2,up3,up4] at this;exact this
end Go.Proofs.ZzM
end

noncomputable section
set_option maxRecDepth 100000
namespace Go.Proofs.ZzM
open Go Go.Am Go.RowKit
section
variable [Ghost] {ρ:Type} {ν:Nat->Value} {w:World}
def peel (k:Ghost.Q=none) {E:Env ρ} {call:CK Nat->Bool->Nat->CK AV->CK Blk->(AV->CK Blk->BY ρ)->BY ρ} {L:Nat} (s:nc E L call) (t:wC E L call) (p:E.joins=fun _ _ _ _=>none) {fid:Nat} {path:CK Nat} (m:path.length+2=L) {x y c:Code} {bid n:Nat} {S:St} {K:Exit->St->BY ρ} {r:ρ} {a:Act} {Q:Exit->Act->World->Prop}
 (q:∀z∈â bid x,uu E path fid z.1 z.2) (e:goC E call fid path 0 bid (.seq x y) S K=some r) (H:Sim ν S a w)
 (o:∀ν' b d w',Sim ν' b d w'->Ev 0 ν S.h w ν' b.h w'->goC E call fid path 0 bid y b K=some r->c.wpIn Fence.wide n E.P Q d w')
 (i:∀ν' b d w' e,e≠.normal->Sim ν' b d w'->Ev 0 ν S.h w ν' b.h w'->K e b=some r->Q e d w'):(Code.seq x c).wpIn Fence.wide n E.P Q a w:=by
 simp only[goC,p] at e;have j:=vX s t m x bid S _ ν a w q e H (ee _);rw[adq k] at j;refine wpIn_seq (wpIn_wide.2 (wpIn_wide.1 (wpIn_mono j fun u d w' ha=>?_)));obtain⟨ν',b,g,h2,A,v,f⟩:=ha
 cases u with
 |normal=>exact o ν' b d w' g h2 f
 |exit id=>exact i ν' b d w' _ (by simp) g h2 f
 |goto l=>exact i ν' b d w' _ (by simp) g h2 f
 |ret=>exact i ν' b d w' _ (by simp) g h2 f
 |panic ch=>exact i ν' b d w' _ (by simp) g h2 f
 |outgrown=>exact i ν' b d w' _ (by simp) g h2 f
end
def agj {T:Array Value} {rb:Nat} {n:Int} {e:TypeId} {W:World} (h2:T.getD 2 undef=.pointer (some ⟨rb,0,none⟩)) (f:W.heap[rb]?=some (.cells #[.int .i64 n] e (0,0))):(results Tryz.f96 T).run Tryz.prog W=.ok (.int .i64 n) W:=by
 letI:Ghost:=(Gk (fun _=>False) [] (none))
 have d:(loadVar 37 ⟨rb,0,none⟩).run Tryz.prog W=.ok (.int .i64 n) W:=by
  have:=run_loadVar (P:=Tryz.prog) (w:=W) (t:=37) (agg:=false) (n:=1) (by kernel_rfl) (us:=[.int .i64 n]) rfl (fun _=>rfl) (a:=⟨rb,0,none⟩) (fun j v b=>by
   have:=CellsAt.of_cells f j v (by simpa using b)
   cases j with
   |zero=>simpa[Addr.add] using this
   |succ j=>simp at b)
  exact this
 have c:Tryz.f96.results=#[.cell 2 37]:=by kernel_rfl
 unfold results;rw[c,Array.mapM_eq_mapM_toList];simp only[Sem.run_bind,Sem.run_map,List.mapM_cons,List.mapM_nil,h2,asAddr,Sem.run_pure,Result.andThen_ok,d];rfl
@[reducible] def gck (G:Nat->Prop) (M:Nat):Ghost:=(Gh G).re G [] none M
def anb [Ghost] {ν:Nat->Value} {h:CK Blk} {w:World} {x:b6} {us:CK Value} (a:ē (VRc ν h w) (flat Ë x) us):CR w noG Ë x us:=by
 have e:Ü Ë (flat Ë x)=some x:=rfl;have h2:ē (VRs w (Av ν h)) (flat Ë x) us:=a.mono fun c u b=>b.1.data;exact CR.mono (fun _ d=>d.elim) (Ģ e h2)
def DZ (G:Nat->Prop) (y:Int) (w:World) (e:Ending) (w':World):Prop :=
 ∃u,e=.returned u/\RR w' G [tI] y u/\(∀b,b<w.heap.size->w'.heap[b]?=w.heap[b]?)/\w.heap.size<=w'.heap.size/\w'.os=w.os/\w'.tape=w.tape/\w'.output=w.output
def adx {G:Nat->Prop} {y:Int} {w0 w:World} {a:Act} {ms:CK Nat} {rb:Nat} {e:TypeId} (hd:a.defers=ms.map mk1) (q:ms.Nodup) (i:∀k∈ms,w.heap[k]?=some (.deferred (some []))/\w0.heap.size<=k) (h2:a.tmps.getD 2 undef=.pointer (some ⟨rb,0,none⟩)) (g:w.heap[rb]?=some (.cells #[.int .i64 y] e (0,0)))
 (hb:∀b,b<w0.heap.size->w.heap[b]?=w0.heap[b]?) (c:w0.heap.size<=w.heap.size) (v:w.os=w0.os) (u:w.tape=w0.tape) (t:w.output=w0.output):LeavesInM Fence.wide 2 Tryz.prog Tryz.f96 a.tmps (DZ G y w0) a.defers .returning w:=by
 rw[hd]
 have d:rb∉ms:=fun h=>by rw[(i rb h).1] at g; cases g
 refine ud ms w q (fun k s=>(i k s).1) fun w2 p o m l j=>?_;exact⟨.int .i64 y,agj h2 ((j rb d).trans g),.int .i64 y,rfl,⟨[.int .i64 y],rfl,rfl⟩,fun b f=>(j b fun r=>by have:=(i b r).2; omega).trans (hb b f),by rw[p]; exact c,o.trans v,m.trans u,l.trans t⟩
def am3 (S:St):ckK .ret S=(ait S).map .inl:=by
 unfold ckK
 cases ait S<;>rfl
def ae6 (S:St):ckK .normal S=if decide (78<=S.t.length)=true then some (.inr ([lk S.t 1,lk S.t 2,lk S.t 48],S.h)) else none:=by
 unfold ckK
 cases decide (78<=S.t.length)<;>rfl
def lY [Ghost] {ρ:Type} {E:Env ρ} (h0:E.loops=kq []) (c:E.ranges=fun _ _ _ _ _ _ _=>none) {path:CK Nat} {fid bid:Nat} {b:LI}:uu E path fid bid b:=by
 cases b with
 |lp b=>exact fun m S K r ν a w e=>by rw[h0] at e; cases e
 |rf g ps x y=>exact fun m S K r ν a w e=>by rw[c] at e; cases e
def al0 {ρ:Type} (E:Env ρ) (e:E.P.follows .mixedOrders=true) (a:∀[Ghost],lz E->Iy E) (h0:E.loops=kq []) (g:E.ranges=fun _ _ _ _ _ _ _=>none) (d:E.yld=none) [Ghost]:nc E 2 (Ū E 10) :=
 sh a (fun L call b=>nR e L call b) (fun n h b _ _ path f fn c _ _ _ z _=>lY h0 g) 10 (cZ _) (iV d)
noncomputable def amw:Code->String
 | .region _ ops _ => ((ops[0]?).map fun o => o.pos).getD ""
 | _ => ""
noncomputable def rfA:Code->Code
 |.block _ (.rangeFunc _ _ a _)=>a
 |_=>.skip
noncomputable def rfB:Code->Code
 |.block _ (.rangeFunc _ _ _ (.block _ (.seq a _)))=>a
 |_=>.skip
noncomputable def rfC:Code->Code
 |.block _ (.rangeFunc _ _ _ (.block _ (.seq _ (.cond _ (.seq a _) _))))=>a
 |_=>.skip
def am1:ckRF=Code.block 0 (Code.rangeFunc (.tmp 48) #[49] (ab7 (amw (rfA ckRF))) (alG (amw (rfB ckRF)) (amw (rfC ckRF)))):=by kernel_rfl
def alZ:∀e∈ck_pt,iU Tryz.prog e.1 e.2:=Á Qd (Á E5 (Á B0 (Á Qe Ã)))
def aiu {e:Exit} {S:St} {n:Int} (h:ckK2 e S=some n):e=.ret/\lk S.t 2=.box 1 0/\lkB S.h 1=.cells [.int .i64 n]:=by
 unfold ckK2 at h
 split at h
 ·split at h
  ·rename_i h2
   split at h
   ·rename_i a;cases h;exact⟨rfl,h2,a⟩
   ·cases h
  ·cases h
 ·cases h
def Zd [Ghost] {ν:Nat->Value} {h:CK Blk} {w:World} {n:Int} {id:Nat} (H:HR ν h w) (d:lkB h id=.cells [.int .i64 n]):∃b e,ν id=.pointer (some ⟨b,0,none⟩)/\w.heap[b]?=some (.cells #[.int .i64 n] e (0,0)):=by
 have a:=H.blk id;rw[d] at a;obtain⟨b,c,e,k,h2,j⟩:=a;obtain⟨u,i,g⟩:=j.one;have f:u=.int .i64 n:=g.1;refine⟨b,e,k,?_⟩;rw[h2]
 have:c=#[.int .i64 n]:=by rw[<-eN,i,f]
 rw[this]
def JT [Ghost] {ν:Nat->Value} {h:CK Blk} {w:World} {id off:Nat} {v:Value} {b:Nat} (a:VR ν h w (.box id off) v) (hb:ν id=.pointer (some ⟨b,0,none⟩)):v=.pointer (some ⟨b,off,none⟩):=by
 obtain⟨cs,e,d,h2,c⟩:=a;rw[hb] at h2;cases h2;exact c
def am0 {G:Nat->Prop} {x:b6} {s:kw} {y:Int} (U:ckS x=some y) {ν:Nat->Value} {w0 w6 W:World} {a:Act} (H:@HR (gck G w0.heap.size) ν (ckH x s 0) w6) (hb:Below w6.heap.size w6 W) {ms:CK Nat} (hd:a.defers=ms.map mk1) (T:ms.Nodup) (C:∀k∈ms,W.heap[k]?=some (.deferred (some []))/\w0.heap.size<=k) (p:78<=a.tmps.size)
 (K:@VR (gck G w0.heap.size) ν (ckH x s 0) w6 (.box 0 0) (a.tmps.getD 1 undef)) (t2:@VR (gck G w0.heap.size) ν (ckH x s 0) w6 (.box 1 0) (a.tmps.getD 2 undef))
 (h0:∀b,b<w0.heap.size->w6.heap[b]?=w0.heap[b]?/\¬Fg ν (ckH x s 0) b) (B:w0.heap.size<=w6.heap.size) (q:w6.os=w0.os) (X:w6.tape=w0.tape) (V:w6.output=w0.output) :
 T5.wpIn Fence.wide 2 Tryz.prog (bodyPostM Fence.wide 2 Tryz.prog Tryz.f96 (DZ G y w0)) a W:=by
 have D:∀b,Fg ν (ckH x s 0) b->b<w6.heap.size:=fun b I=>@HR.ltA (gck G w0.heap.size) _ _ _ H b (.inl I)
 have v:∃b,ν 0=.pointer (some ⟨b,0,none⟩)/\a.tmps.getD 1 undef=.pointer (some ⟨b,0,none⟩):=by
  obtain⟨cs,b,_,h2,q⟩:=K;exact⟨b,h2,q⟩
 have u:∃b,ν 1=.pointer (some ⟨b,0,none⟩)/\a.tmps.getD 2 undef=.pointer (some ⟨b,0,none⟩):=by
  obtain⟨cs,b,_,h2,q⟩:=t2;exact⟨b,h2,q⟩
 letI:Ghost:=gck G w0.heap.size
 have H1:HR ν (ckH x s 0) w6:=H;have H2:HR ν (ckH x s 0) W:=(H1.grow (fun b f=>hb.block b f) hb.size hb.os hb.tape hb.output 0).2;have g:∀L call,nc (akR Int) L call->wC (akR Int) L call:=nR hmix;have E:(akR Int).loops=kq []:=rfl;have d:nc (akR Int) 2 (Ū (akR Int) 10):=al0 (akR Int) hmix (fun {_} _=>Cq alZ (akR Int) rfl rfl rfl rfl rfl (Ś rfl) (lN rfl) (iV rfl)) rfl rfl rfl;have law:=ck_suf x s;rw[U] at law
 have A:Sim ν {t:=[.any,.box 0 0,.box 1 0]++List.replicate 75 .any,h:=ckH x s 0} a W:=by
  refine⟨⟨⟨ms,hd.trans (du _).symm,T,C⟩,fun l I=>(by cases I),ee _,dw B hb.size⟩,by simpa using p,fun i=>?_,H2⟩;simp only[TD];rcases i with _|_|_|i
  ·trivial
  ·obtain⟨b,j,c⟩:=v;exact⟨_,b,rfl,j,c⟩
  ·obtain⟨b,j,c⟩:=u;exact⟨_,b,rfl,j,c⟩
  ·trivial
 refine wpIn_wide.2 (wpIn_wide.1 (wpIn_mono (vX d (g _ _ d) rfl T5 0 _ _ ν a W (fun z _=>lY E rfl) law A (ee _)) fun e Z w' ha=>?_));obtain⟨ν',S',j,c,_,_,Y⟩:=ha;obtain⟨rfl,S,R⟩:=aiu Y;obtain⟨rb,te,r1,r2⟩:=Zd j.heap R;have J:=j.tmps 2;rw[S] at J;have M:=JT J r1;obtain⟨⟨N,m1,Q,O⟩,_⟩:=j.defers;refine adx (w:=w') (a:=Z) (G:=G) (y:=y) (w0:=w0) (rb:=rb) (m1.trans (du _)) Q O M r2 (fun b f=>?_) (by have:=c.size; have:=hb.size; omega) (c.os.trans (hb.os.trans q)) (c.tape.trans (hb.tape.trans X)) (c.output.trans (hb.output.trans V));have r:=h0 b f
 have o:b<w6.heap.size:=by omega
 have m:b<W.heap.size:=by have:=hb.size; omega
 exact(c.keep b m r.2).1.trans ((hb.block b o).trans r.1)
set_option maxHeartbeats 2000000 in
def ae7 (G:Nat->Prop) (x:b6) (y:Int) (r:κ x=some y) (w:World) (vals:CK Value) (hG:∀b,G b->b<w.heap.size) (hAL:AL w G [Ë] x vals) :
 (∃fn c,Tryz.prog.funcs[96]?=some fn/\fn.body=some c)/\CallsIn Fence.wide 0 Tryz.prog 96 vals.toArray w (DZ G y w):=by
 rw[akQ] at r
 letI:Ghost:=gck G w.heap.size
 have hpt:=alZ;have hdraw:∀L call,nc (ckE ckR) L call->wC (ckE ckR) L call:=nR hmix;have h0:(ckE ckR).loops=kq []:=rfl;have m:nc (ckE ckR) 2 (Ū (ckE ckR) 10):=al0 (ckE ckR) hmix (fun {_} _=>Cq hpt (ckE ckR) rfl rfl rfl rfl rfl (Ś rfl) (lN rfl) (iV rfl)) rfl rfl rfl;have hD:=hdraw _ _ m;have H:HR (fun _=>undef) [] w:=⟨fun _=>trivial,fun _ _ _ h=>(by cases h),hG,fun _ _ h=>(by cases h)⟩;have hav:∀b,Av (fun _=>undef) [] b->G b:=fun b hb=>hb.elim (fun⟨_,h,_⟩=>by cases h) id;have C:ē (VR (fun _=>undef) [] w) (aba [Ë] x) vals:=AL.VR (hAL.mono hav);refine⟨⟨Tryz.f96,_,Tryz.func96,al1⟩,?_⟩
 have hlen:vals.length=1:=by
  have:=C.length;simpa[aba,ah2] using this.symm
 cases hM:ckM x with
 |none=>rw[hM] at r; cases r
 |some r0 =>
 rw[hM] at r;have law:=ck_pre x;rw[hM] at law;refine callsIn_wide.2 (callsIn_wide.1 (callsIn_of_wp_marks (n:=2) Tryz.func96 al1 trivial ?_ (R:=DZ G y w)))
 have hS:Sim (fun _=>undef) {t:=aba [Ë] x++List.replicate 77 .any,h:=[]} {tmps:=vals.toArray++Array.replicate (Tryz.f96.ntmps-vals.toArray.size) undef,defers:=[]} w:=by
  refine⟨⟨⟨[],rfl,gF,fun _ h=>(by cases h)⟩,fun l hl=>(by cases hl),ee _,cZ _⟩,?_,fun i=>?_,H⟩
  ·have:Tryz.f96.ntmps=78:=by kernel_rfl
   have hl2:(aba [Ë] x).length=1:=rfl;simp[this,hlen,hl2]
  ·simp only[TD];rcases dq i (aba [Ë] x).length with hi|hi
   ·have:=ē.lk (R:=VR (fun _=>undef) [] w) (fun _=>trivial) i C
    have hv:i<vals.length:=by rw[<-C.length]; exact hi
    have h2:(vals.toArray++Array.replicate (Tryz.f96.ntmps-vals.toArray.size) undef).getD i undef=vals.getD i undef:=by
     simp[eE,f9,hv]
    rw[h2]; exact this
   ·rw[akg _ _ hi]; trivial
 -- the ways out ahead of the loop
 have out:∀ν' N Y w' e,e≠.normal->Sim ν' N Y w'->Ev 0 (fun _=>undef) [] w ν' N.h w'->ckK e N=some r0->bodyPostM Fence.wide 2 Tryz.prog Tryz.f96 (DZ G y w) e Y w':=by
  intro ν' N Y w' e K q E d
  cases e with
  |normal=>exact(K rfl).elim
  |ret =>
   rw[am3] at d
   cases hr:ait N with
   |none=>rw[hr] at d; cases d
   |some n =>
    rw[hr,d9] at d;cases d
    have hyn:n=y:=by simpa using r
    subst hyn;unfold ait at hr
    split at hr
    ·rename_i v hv;show LeavesInM _ _ _ _ _ _ Y.defers _ _;obtain⟨⟨ms,m1,m2,m3⟩,_,m4,m5⟩:=q.defers;rw[show Y.defers=ms.map mk1 from m1.trans (du _)];refine ud ms w' m2 (fun k d=>(m3 k d).1) fun w2 q1 q2 q3 q4 q5=>?_
     have hk2:∀(b:Nat) (o:Obj),w'.heap[b]?=some o->SI o=true\/b<(gck G w.heap.size).B->w2.heap[b]?=some o:=fun b o hb hd=>by
      have hbm:b∉ms:=fun hm=>by
       rw[(m3 b hm).1] at hb; cases hb;rcases hd with hd|hd
       ·cases hd
       ·exact absurd hd (Nat.not_lt_zero _)
      rw[q5 b hbm]; exact hb
     have KG:m9 (gck G w.heap.size) ν' N.h w' (gck G w.heap.size).G w2:=m9.nds q2 q3 q4 (by omega) hk2
     have sim2:Sim ν' N {Y with defers:=[]} w2:=⟨⟨⟨[],rfl,gF,fun _ h=>(by cases h)⟩,fun l hl=>(by cases hl),ee _,by rw[q1]; exact m5⟩,q.len,fun i=>VR.step (g:=gck G w.heap.size) (D:=[]) (Q:=none) (M:=w.heap.size) KG (q.tmps i),
      HR.step (g:=gck G w.heap.size) (D:=[]) (Q:=none) (M:=w.heap.size) KG (fun b hb=>by rw[q1]; exact q.heap.ghlt b hb) (fun b hb hg=>by obtain⟨id,h1,h2⟩:=hb; exact q.heap.ghne id b h1 h2 hg) q.heap⟩
     obtain⟨u,r1,r2⟩:=Sf sim2 hv;exact⟨u,r1,u,rfl,ab8 sim2.heap [tI] r2 hr,fun b hb=>(q5 b fun hm=>by have m7:w.heap.size<=b:=(m3 b hm).2; omega).trans (E.keep b hb fun⟨_,h,_⟩=>by cases h).1,by rw[q1]; exact E.size,q2.trans E.os,q3.trans E.tape,q4.trans E.output⟩
    ·cases hr
  |exit id=>cases d
  |goto l=>cases d
  |panic ch=>cases d
  |outgrown=>cases d
 have I:∀{U:Nat->Value} {h₁:CK Blk} {w₁:World},Ev 0 (fun _=>undef) [] w U h₁ w₁->∀ν' N Y w' e,e≠.normal->Sim ν' N Y w'->Ev 0 U h₁ w₁ ν' N.h w'->ckK e N=some r0->bodyPostM Fence.wide 2 Tryz.prog Tryz.f96 (DZ G y w) e Y w' :=
  fun hE ν' N Y w' e K q E d=>out ν' N Y w' e K q (hE.trans E (cZ _)) d
 refine peel rfl m hD rfl rfl (fun z _=>lY h0 rfl) law hS (fun ν1 S1 a1 w1 s1 e1 k1=>?_) out;refine peel rfl m hD rfl rfl (fun z _=>lY h0 rfl) k1 s1 (fun ν2 S2 a2 w2 s2 e2 k2=>?_) (I e1);have t2:=e1.trans e2 (cZ _);refine peel rfl m hD rfl rfl (fun z _=>lY h0 rfl) k2 s2 (fun ν3 S3 a3 w3 s3 e3 k3=>?_) (I t2);have t3:=t2.trans e3 (cZ _);refine peel rfl m hD rfl rfl (fun z _=>lY h0 rfl) k3 s3 (fun ν4 S4 a4 w4 s4 e4 k4=>?_) (I t3);have t4:=t3.trans e4 (cZ _);refine peel rfl m hD rfl rfl (fun z _=>lY h0 rfl) k4 s4 (fun ν5 S5 a5 w5 s5 e5 k5=>?_) (I t4);have t5:=t4.trans e5 (cZ _);refine wpIn_seq (wpIn_seq (wpIn_wide.2 (wpIn_wide.1 (wpIn_mono (vX m hD rfl ckA5 0 S5 _ ν5 a5 w5 (fun z _=>lY h0 rfl) k5 s5 (ee _)) fun e' Z w6 ha=>?_))));obtain⟨ν,S,V,e6,_,_,k6⟩:=ha;have J:=t5.trans e6 (cZ _)
 have f:∀e,e≠.normal->ckK e S=some r0->Exit.then (Code.wpIn Fence.wide 2 Tryz.prog T5 (bodyPostM Fence.wide 2 Tryz.prog Tryz.f96 (DZ G y w))) (bodyPostM Fence.wide 2 Tryz.prog Tryz.f96 (DZ G y w)) e Z w6:=by
  intro e K d;have:=out ν S Z w6 e K V J d
  cases e<;>first|exact(K rfl).elim|exact this
 cases e' with
 |exit id=>exact f _ (by simp) k6
 |goto l=>exact f _ (by simp) k6
 |ret=>exact f _ (by simp) k6
 |panic ch=>exact f _ (by simp) k6
 |outgrown=>exact f _ (by simp) k6
 |normal =>
 clear f;rw[ae6] at k6
 split at k6<;>try (cases k6; done)
 rename_i h78
 have h78':78<=S.t.length:=by simpa using h78
 cases k6;obtain⟨hlens,s,hs,hq⟩:=am2 hM;simp only[Prod.mk.injEq,List.cons.injEq,and_true] at hq;obtain⟨⟨q1,q2,q48⟩,qh⟩:=hq
 have X:Xa (pb x s) some (ckS x)=some y:=by
  simp only at r;rw[hs] at r;exact r
 -- what the errors are
 obtain⟨L,O,hLy⟩:∃L,pb x s=some L/\(match L.find? (fun e=>e != 0) with|some e=>some e|none=>ckS x)=some y:=by
  unfold Xa at X
  cases hl:pb x s with
  |none=>rw[hl] at X; cases X
  |some L=>rw[hl] at X; exact⟨L,rfl,X⟩
 obtain⟨l1,l2,l3,l4,m1,m2,m3,m4,rfl⟩:∃l1 l2 l3 l4,No (fun u=>ň u.1 u.2 s) (x.2.2.1:CK (Int×Int))=some l1/\No (fun i=>ι x s i) (yN (x.2.2.2.1:CK u7).length)=some l2 /\
  No (fun i=>Ŏ x s i) (yN (x.2.2.2.2.1:CK i4).length)=some l3/\No (fun u=>ň u.1 u.2 s) (x.2.2.2.2.2:CK (Int×Int))=some l4/\L=l1++(l2++(l3++l4)):=by
  unfold pb at O
  cases m1:No (fun u=>ň u.1 u.2 s) (x.2.2.1:CK (Int×Int)) with
  |none=>rw[m1] at O; cases O
  |some l1 =>
  rw[m1] at O
  cases m2:No (fun i=>ι x s i) (yN (x.2.2.2.1:CK u7).length) with
  |none=>simp only[Ä,m2] at O; cases O
  |some l2 =>
  cases m3:No (fun i=>Ŏ x s i) (yN (x.2.2.2.2.1:CK i4).length) with
  |none=>simp only[Ä,m2,m3] at O; cases O
  |some l3 =>
  cases m4:No (fun u=>ň u.1 u.2 s) (x.2.2.2.2.2:CK (Int×Int)) with
  |none=>simp only[Ä,m2,m3,m4] at O; cases O
  |some l4 =>
  simp only[Ä,m2,m3,m4] at O;cases O;exact⟨l1,l2,l3,l4,rfl,rfl,rfl,rfl,rfl⟩
 -- the blocks
 obtain⟨T,Hh⟩:=S;dsimp only at q1 q2 q48 qh h78';subst qh;have p1:=V.tmps 1;have p2:=V.tmps 2;have p48:=V.tmps 48;dsimp only at p1 p2 p48;rw[q1] at p1;rw[q2] at p2;rw[q48] at p48;obtain⟨rb,te1,n1,hrb⟩:=Zd (id:=1) (n:=0) V.heap rfl;have hB2:BR ν (ckH x s 0) w6 2 (.cells (flat Ë x)):=V.heap.blk 2;have hB3:BR ν (ckH x s 0) w6 3 (.cells [.mp tI Ù s]):=V.heap.blk 3;have hB4:BR ν (ckH x s 0) w6 4 (.cells [.fn (.func 196) [] [.box 3 0]]):=V.heap.blk 4;obtain⟨bb,cb,te,n2,hbb,hb2⟩:=hB2;obtain⟨sb,cs3,te3,n3,hsb,hb3⟩:=hB3;obtain⟨tb,cs4,te2,n4,htb,hb4⟩:=hB4;obtain⟨mv,z3,hm3⟩:=hb3.one;obtain⟨fv,z4,hm4⟩:=hb4.one;have hmv:CR w6 noG (.map tI Ù) s [mv]:=CR.mono (fun _ hf=>hf.elim) (show CR w6 (Av ν (ckH x s 0)) (.map tI Ù) s [mv] from hm3.1)
 have hc3:cs3=#[mv]:=by rw[<-eN,z3]
 have hfv:fv=.func (.func 196) #[] #[.pointer (some ⟨sb,0,none⟩)]:=by
  obtain⟨fs,cs,h1,h2,h3⟩:=hm4.1
  have e1:fs=#[]:=by rw[<-eN]; exact h2.nil_left
  obtain⟨u,e2,h4⟩:=h3.one;have e3:u=.pointer (some ⟨sb,0,none⟩):=JT (w:=w6) (id:=3) (off:=0) h4 n3
  have e4:cs=#[.pointer (some ⟨sb,0,none⟩)]:=by rw[<-eN,e2,e3]
  rw[h1,e1,e4]
 have hc4:cs4=#[fv]:=by rw[<-eN,z4]
 rw[hc3] at hsb;rw[hc4,hfv] at htb
 have hg:Z.tmps.getD 48 undef=.func (.func 199) #[] #[.pointer (some ⟨bb,0,none⟩),.pointer (some ⟨tb,0,none⟩),.pointer (some ⟨sb,0,none⟩)]:=by
  obtain⟨fs,cs,h1,h2,h3⟩:=p48
  have e1:fs=#[]:=by rw[<-eN]; exact h2.nil_left
  have hl:=h3.length
  obtain⟨u1,u2,u3,e2⟩:∃u1 u2 u3,cs.toList=[u1,u2,u3]:=by
   rcases hcs:cs.toList with _|⟨u1,_|⟨u2,_|⟨u3,_|⟨u4,t⟩⟩⟩⟩<;>rw[hcs] at hl<;>simp at hl
   exact⟨u1,u2,u3,rfl⟩
  rw[e2] at h3;have e3:u1=.pointer (some ⟨bb,0,none⟩):=JT (w:=w6) (id:=2) (off:=0) h3.1 n2;have e4:u2=.pointer (some ⟨tb,0,none⟩):=JT (w:=w6) (id:=4) (off:=0) h3.2.1 n4;have e5:u3=.pointer (some ⟨sb,0,none⟩):=JT (w:=w6) (id:=3) (off:=0) h3.2.2.1 n3;rw[h1,e1];congr 1;rw[<-eN,e2,e3,e4,e5]
 have hseq:=ajX m1 m2 m3 m4 hlens hbb (anb hb2) htb hsb hmv;have h2:=JT p2 n1;have hsz:78<=Z.tmps.size:=dw h78' V.len
 have A:∀b,b<w.heap.size->w6.heap[b]?=w.heap[b]?/\¬Fg ν (ckH x s 0) b:=fun b hb=>J.keep b hb fun⟨_,h,_⟩=>by cases h
 obtain⟨⟨ms,m1',m2',p⟩,_⟩:=V.defers;have hdef:Z.defers=ms.map mk1:=m1'.trans (du _);show ckRF.wpIn Fence.wide 2 Tryz.prog (Exit.then (T5.wpIn Fence.wide 2 Tryz.prog (bodyPostM Fence.wide 2 Tryz.prog Tryz.f96 (DZ G y w))) (bodyPostM Fence.wide 2 Tryz.prog Tryz.f96 (DZ G y w))) Z w6;rw[am1];refine wpIn_block (amq hseq hg h2 hsz hrb (fun D W hall hbel hDl hDo=>?_) (fun D W z hz j hDl hDo=>?_))
 ·have hck:ckS x=some y:=by
   have:(l1++(l2++(l3++l4))).find? (fun e=>e != 0)=none:=ew.2 fun z hz=>by rw[hall z hz]; simp
   rw[this] at hLy;exact hLy
  have hDn:D∉ms:=fun hm=>by have:=ĥ (p D hm).1; omega
  exact am0 (s:=s) (ms:=D::ms) hck V.heap hbel (by show mark D::Z.defers=_; rw[hdef]; rfl) (fD.2 ⟨hDn,m2'⟩) (fun k d=>by
   rcases dh.1 d with rfl|d
   ·exact⟨hDo,dw J.size hDl⟩
   ·exact⟨(hbel.block k (ĥ (p k d).1)).trans (p k d).1,(p k d).2⟩) hsz p1 p2 A J.size J.os J.tape J.output
 ·have hzy:z=y:=by
   rw[hz] at hLy;simpa using hLy
  subst hzy;obtain⟨te5,hcell⟩:=j.cell;have hlb:=ĥ hrb;have hlive:Fg ν (ckH x s 0) rb:=⟨1,rfl,by rw[n1]; rfl⟩
  have hDn:D∉ms:=fun hm=>by have:=ĥ (p D hm).1; omega
  exact adx (a:={Z with defers:=mark D::Z.defers}) (w:=W) (ms:=D::ms) (by show mark D::Z.defers=_; rw[hdef]; rfl) (fD.2 ⟨hDn,m2'⟩) (fun k d=>by
   rcases dh.1 d with rfl|d
   ·exact⟨hDo,dw J.size hDl⟩
   ·exact⟨(j.block k (ĥ (p k d).1) (fun e=>by have h9:=(p k d).1; rw[e,hrb] at h9; cases h9)).trans (p k d).1,(p k d).2⟩) h2 hcell
   (fun b hb=>(j.block b (by have:=J.size; omega) (fun e=>(A b hb).2 (e▸hlive))).trans (A b hb).1) (by have:=J.size; have:=j.size; omega) (j.os.trans J.os) (j.tape.trans J.tape) (j.output.trans J.output)
def A6:iU Tryz.prog 96 uW:=fun G x y hF w vals hG hAL=>ae7 G x y hF w vals hG hAL
end Go.Proofs.ZzM
end

noncomputable section
namespace Go.Proofs
open Go.RowKit
attribute [local go_sem] Oper.semAt_some
def adQ (w:World) (o o':Obj):((w.alloc o).alloc o').heap[w.heap.size+1]?=some o':=by
 simp only[World.alloc];rw[show w.heap.size+1=(w.heap.push o).size from(Array.size_push _).symm];exact Array.getElem?_push_size
def ajj (w:World) (o o':Obj):((w.alloc o).alloc o').heap[w.heap.size]?=some o:=by
 simp only[World.alloc];rw[Array.getElem?_push_lt (by rw[Array.size_push]; omega),Array.getElem_push_eq]
def ZO (w:World) (o o':Obj) (b:Nat) (hb:b<w.heap.size):((w.alloc o).alloc o').heap[b]?=w.heap[b]?:=by
 simp only[World.alloc];rw[Array.getElem?_push_lt (by simp; omega),Array.getElem_push_lt hb,Array.getElem?_eq_getElem hb]
def al2 {W:World} {b:Nat} {f e d c a:Value} {t:TypeId} (h:W.heap[b]?=some (.cells #[f,e,d,c,a] t (0,0))) :
 W.cell? ⟨b,0,none⟩=some f/\W.cell? ⟨b,1,none⟩=some e/\W.cell? ⟨b,2,none⟩=some d/\W.cell? ⟨b,3,none⟩=some c/\W.cell? ⟨b,4,none⟩=some a/\∀j,W.frozen? ⟨b,j,none⟩=false:=by
 refine⟨?_,?_,?_,?_,?_,fun j=>?_⟩<;>simp only[World.cell?,World.frozen?,h]<;>rfl
def set5 {W:World} {b:Nat} {c0 e d c a:Value} {k j i g f:Value} {t:TypeId} (h:W.heap[b]?=some (.cells #[k,j,i,g,f] t (0,0))) :
 (((((W.setCell ⟨b,0,none⟩ c0).setCell ⟨b,1,none⟩ e).setCell ⟨b,2,none⟩ d).setCell ⟨b,3,none⟩ c).setCell ⟨b,4,none⟩ a)=W.setRow b #[c0,e,d,c,a]:=by
 rw[setCell_eq_setRow W b 0 _ t (0,0) c0 h,setCell_eq_setRow _ b 1 _ t (0,0) e (setRow_heap _ _ _ _ t _ h),setRow_setRow,setCell_eq_setRow _ b 2 _ t (0,0) d (setRow_heap _ _ _ _ t _ h),setRow_setRow,
  setCell_eq_setRow _ b 3 _ t (0,0) c (setRow_heap _ _ _ _ t _ h),setRow_setRow,setCell_eq_setRow _ b 4 _ t (0,0) a (setRow_heap _ _ _ _ t _ h),setRow_setRow]
 rfl
def aeb {T:Array Value} {b:Nat} {c0 g f d c:Int} {e:TypeId} {W:World} (h2:T.getD 2 undef=.pointer (some ⟨b,0,none⟩)) (m:W.heap[b]?=some (.cells #[.int .i64 c0,.int .i64 g,.int .i64 f,.int .i64 d,.int .i64 c] e (0,0))):(results Tryz.f183 T).run Tryz.prog W=.ok (.agg #[.int .i64 c0,.int .i64 g,.int .i64 f,.int .i64 d,.int .i64 c]) W:=by
 letI:Go.Am.Ghost:=Go.Am.Gh fun _=>False
 have k:(loadVar 224 ⟨b,0,none⟩).run Tryz.prog W=.ok (.agg #[.int .i64 c0,.int .i64 g,.int .i64 f,.int .i64 d,.int .i64 c]) W:=by
  have:=Go.Am.run_loadVar (P:=Tryz.prog) (w:=W) (t:=224) (agg:=true) (n:=5) (by kernel_rfl) (us:=[.int .i64 c0,.int .i64 g,.int .i64 f,.int .i64 d,.int .i64 c]) rfl (fun h=>by cases h) (a:=⟨b,0,none⟩) (fun j v l=>by
   have:=Go.Am.CellsAt.of_cells m j v (by simpa using l)
   have ha:(⟨b,0,none⟩:Addr).add j=⟨b,j,none⟩:=by unfold Addr.add; split<;>simp_all
   rw[ha]; simpa using this)
  exact this
 have i:Tryz.f183.results=#[.cell 2 224]:=by kernel_rfl
 unfold results;rw[i,Array.mapM_eq_mapM_toList];simp only[Sem.run_bind,Sem.run_map,List.mapM_cons,List.mapM_nil,h2,asAddr,Sem.run_pure,Result.andThen_ok,k];rfl
set_option maxRecDepth 100000 in
set_option maxHeartbeats 1000000 in
def aj1 (v:Value) (w:World) (c0 c1 c2 c3 c4:Int) (n:Int)
 (hcopy : ∀ W, (∀ b, b < w.heap.size -> W.heap[b]? = w.heap[b]?) -> W.heap[w.heap.size + 1]? = some (.cells #[.int .i64 0, .int .i64 0, .int .i64 0, .int .i64 0, .int .i64 0] 224 (0, 0)) -> (Builtin.copy_ #[34, 34] 3 #[.slice (some ⟨w.heap.size + 1, 0, none⟩) 5 5, v]).run Tryz.prog W = .ok (.int .i64 n) (W.setRow (w.heap.size + 1) #[.int .i64 c0, .int .i64 c1, .int .i64 c2, .int .i64 c3, .int .i64 c4])) :
  CallsIn Fence.wide 0 Tryz.prog 183 #[v] w fun e W'=>e=.returned (.agg #[.int .i64 c0,.int .i64 c1,.int .i64 c2,.int .i64 c3,.int .i64 c4])/\(∀b,b<w.heap.size->W'.heap[b]?=w.heap[b]?)/\w.heap.size<=W'.heap.size/\W'.os=w.os/\W'.tape=w.tape/\W'.output=w.output:=by
 refine callsIn_of_wp Tryz.func183 rfl trivial ?_ rfl;simp only[Tryz.ntmps183,fO,dk,dK,Nat.reduceAdd,Nat.reduceSub,Array.replicate_succ,Array.replicate_zero,List.push_toArray,gP,fe,d8]
 gi_wp2
 rw[hcopy _ (ZO _ _ _) (adQ _ _ _)];generalize hW:World.setRow _ _ _=W1
 have g1:W1.heap[w.heap.size+1]?=some (.cells #[.int .i64 c0,.int .i64 c1,.int .i64 c2,.int .i64 c3,.int .i64 c4] 224 (0,0)):=by
  rw[<-hW]; exact setRow_heap _ _ _ _ 224 _ (adQ _ _ _)
 have g2:W1.heap[w.heap.size]?=some (.cells #[.int .i64 0,.int .i64 0,.int .i64 0,.int .i64 0,.int .i64 0] 224 (0,0)):=by
  rw[<-hW,setRow_other _ _ _ _ (by omega)]; exact ajj _ _ _
 have g3:∀b,b<w.heap.size->W1.heap[b]?=w.heap[b]?:=fun b hb=>by
  rw[<-hW,setRow_other _ _ _ _ (by omega)]; exact ZO _ _ _ b hb
 have g4:W1.os=w.os/\W1.tape=w.tape/\W1.output=w.output/\W1.heap.size=w.heap.size+2:=by
  rw[<-hW]; refine⟨rfl,rfl,rfl,?_⟩;rw[size_setRow]; simp only[World.alloc,Array.size_push]
 clear hW hcopy;obtain⟨l0,l1,l2,l3,l4,_⟩:=al2 g1;obtain⟨z0,z1,z2,z3,z4,zf⟩:=al2 g2
 gi_wp2
 rw[set5 g2];refine bodyPost_ret (aeb rfl (setRow_heap _ _ _ _ 224 _ g2)) rfl ?_;exact⟨rfl,fun b hb=>(setRow_other _ _ _ _ (by omega)).trans (g3 b hb),by rw[size_setRow]; omega,g4.1,g4.2.1,g4.2.2.1⟩
end Go.Proofs
namespace Go.Proofs.ZzM
open Go Go.Am Go.Proofs
noncomputable def amp (xs:CK Int):(#[Value.int .i64 0,.int .i64 0,.int .i64 0,.int .i64 0,.int .i64 0].toList.take 0++(xs.take 5).map (Value.int .i64 ·)++#[Value.int .i64 0,.int .i64 0,.int .i64 0,.int .i64 0,.int .i64 0].toList.drop (0+((xs.take 5).map (Value.int .i64 ·)).length)).toArray =
 #[.int .i64 (xs.getD 0 0),.int .i64 (xs.getD 1 0),.int .i64 (xs.getD 2 0),.int .i64 (xs.getD 3 0),.int .i64 (xs.getD 4 0)]:=by
 rcases xs with _|⟨a,_|⟨b,_|⟨c,_|⟨d,_|⟨e,r⟩⟩⟩⟩⟩<;>rfl
def aiy:iU Tryz.prog 183 Xj:=by
 intro G x y C w vals J q;obtain⟨v,rfl,us,o,m⟩:=q;change CK Int at x;obtain⟨base,cap,rfl,r,d⟩:=o;have m:v=.slice base (x:CK Int).length cap:=m;subst m;have z:y=((x:CK Int).getD 0 0,(x:CK Int).getD 1 0,(x:CK Int).getD 2 0,(x:CK Int).getD 3 0,(x:CK Int).getD 4 0):=(Option.some.inj C).symm;refine⟨⟨Tryz.f183,_,Tryz.func183,rfl⟩,?_⟩
 have c:∀W:World,(∀b,b<w.heap.size->W.heap[b]?=w.heap[b]?)->W.heap[w.heap.size+1]?=some (.cells #[.int .i64 0,.int .i64 0,.int .i64 0,.int .i64 0,.int .i64 0] 224 (0,0)) ->
  (Builtin.copy_ #[34,34] 3 #[.slice (some ⟨w.heap.size+1,0,none⟩) 5 5,.slice base (x:CK Int).length cap]).run Tryz.prog W=.ok (.int .i64 ((((x:CK Int).take 5).map (Value.int .i64 ·)).length:Nat)) (W.setRow (w.heap.size+1) #[.int .i64 ((x:CK Int).getD 0 0),.int .i64 ((x:CK Int).getD 1 0),.int .i64 ((x:CK Int).getD 2 0),.int .i64 ((x:CK Int).getD 3 0),.int .i64 ((x:CK Int).getD 4 0)]):=by
  intro W g a;rcases d with h0|⟨b,off,rfl,B,hb,p⟩
  ·have h0:x=([]:CK Int):=h0;subst h0;rw[run_copy_none W 34 34 3 3 _ _ 5 5 _ _ (by kernel_rfl) (by kernel_rfl) (by simp)];exact congrArg _ (setRow_self W _ _ 224 (0,0) a).symm
  ·have:=run_copy_row Tryz.prog W 34 34 3 3 (w.heap.size+1) 0 5 5 ⟨b,off,none⟩ (x:CK Int).length cap _ 224 (((x:CK Int).take 5).map (Value.int .i64 ·)) (by kernel_rfl) (by kernel_rfl) a (by simp[Nat.min_comm]) (fun j u i=>by
    rw[eW] at i
    cases f:((x:CK Int).take 5)[j]? with
    |none=>rw[f] at i; cases i
    |some n =>
     rw[f] at i;cases i
     have l:(x:CK Int)[j]?=some n:=by
      rw[eA] at f
      split at f
      ·exact f
      ·cases f
     obtain⟨us,k,t⟩:=p j n l;have k:us=[.int .i64 n]:=k;subst k;have s:=t 0 _ rfl
     have ha:(⟨b,off,none⟩:Addr).add j=⟨b,off+j,none⟩:=by unfold Addr.add; split<;>simp_all
     rw[ha,World.cell?_of_block (w:=w) (by exact g b hb)]
     simpa[Ty.size] using s) (by simp; omega) (fun u A=>by
    obtain⟨n,_,rfl⟩:=dE.1 A
    rfl)
   rw[amp] at this;exact this
 refine(aj1 _ w _ _ _ _ _ _ c).mono fun e w' h=>?_;obtain⟨rfl,I,h2,H,E,D⟩:=h;refine⟨_,rfl,?_,I,h2,H,E,D⟩;subst z;exact⟨[.int .i64 _,.int .i64 _,.int .i64 _,.int .i64 _,.int .i64 _],⟨[_],_,rfl,rfl,[_],_,rfl,rfl,[_],_,rfl,rfl,[_],_,rfl,rfl,rfl⟩,rfl⟩
end Go.Proofs.ZzM
end

noncomputable section
set_option maxRecDepth 100000
namespace Go.Proofs.ZzM
open Go Go.Am
def ae9:ZP 6 Sl:=zt (zp _) Ã rfl (Á KN (Á KM Ã)) fun x=>by kernel_rfl
def ai1:ZP 203 XK:=zt (Pg _) (Á A6 (Á E5 (Á Ip Ã))) rfl (Á Pf Ã) fun x=>by kernel_rfl
def ala:ZP 160 acx:=zt (aeF _) (Á ai1 (Á adG Ã)) rfl Ã fun x=>by kernel_rfl
def aiA:ZP 97 Xl:=zt (lR _) (Á ala Ã) rfl (Á NH (Á NG (Á NF (Á NE (Á ND Ã))))) fun x=>U0 x some
def jX:ZP 44 jj:=zt (EB _) (Á A6 (Á aiA Ã)) rfl (Á NQ (Á NR Ã)) fun x=>by kernel_rfl
def Qc:ZP 171 zc:=zt (Jr _) Ã rfl Ã fun x=>by kernel_rfl
def wz:ZP 114 nt:=zt (EO _) (Á Qc Ã) rfl Ã fun x=>by kernel_rfl
def afa:ZP 115 Sn:=zt (zx _) Ã rfl (Á KO (Á KP Ã)) fun x=>by kernel_rfl
def T6:ZP 113 IX:=zt (X8 _) (Á wz (Á afa Ã)) rfl Ã fun x=>by kernel_rfl
def qx:XOk Tryz.prog 207 (.row Ć):=Uo (r:=Ć) (ü _) (fun {_}=>Cq (Á T6 Ã) (ü _) rfl rfl rfl rfl rfl (Ś rfl) (lN rfl) (iV rfl)) hmix rfl (Á mg (Á mh Ã)) (fun xs x m=>mZ xs x m some)
def A2:XOk Tryz.prog 246 (.row Ķ):=Uo (r:=Ķ) (Ă _) (fun {_}=>Cq Ã (Ă _) rfl rfl rfl rfl rfl (Ś rfl) (lN rfl) (iV rfl)) hmix rfl (Á rq (Á ro (Á rr (Á rl Ã)))) (fun xs x m=>uE xs x m some)
noncomputable def qw {a:(Val (.slice (.slice (.slice tI))))->Int->Int->Int->a8->BY ((Val (.slice (.slice (.slice tI))))×a8)} (b:XOk Tryz.prog 208 (.row ⟨(.slice (.slice tI)),[tI,tI,tI],113,Â,fun(xs:(Val (.slice (.slice (.slice tI))))) (x:ry) (m:a8)=>a xs x.1 x.2.1 x.2.2 m⟩)):XOk Tryz.prog 208 (.row ⟨(.slice (.slice tI)),[tI,tI,tI],113,Â,fun(xs:(Val (.slice (.slice (.slice tI))))) (x:ry) (m:a8)=>Ĩ a xs x.1 x.2.1 x.2.2 m some⟩):=Uo (r:=⟨(.slice (.slice tI)),[tI,tI,tI],113,Â,fun(xs:(Val (.slice (.slice (.slice tI))))) (x:ry) (m:a8)=>Ĩ a xs x.1 x.2.1 x.2.2 m some⟩) (É a _) (fun {_}=>Cq (Á T6 Ã) (É a _) rfl rfl rfl rfl rfl (Ś rfl) (VW (Á b (Á A2 Ã)) rfl) (iV rfl)) hmix (tab:=jH a _) rfl (Á pp (Á po (Á pn (Á pm (Á pl Ã))))) (fun xs x m=>rh _ xs x m some)
def jY:∀n:Nat,XOk Tryz.prog 208 (.row ⟨(.slice (.slice tI)),[tI,tI,tI],113,Â,fun(xs:(Val (.slice (.slice (.slice tI))))) (x:ry) (m:a8)=>ħ n xs x.1 x.2.1 x.2.2 m⟩)
 |0=>alp.mk (by intro _ _ _ _ _ _ h; cases h)
 |n+1=>qw (jY n)
def xY:XOk Tryz.prog 208 (.row mo):=jY 100
def pf:XOk Tryz.prog 170 (.row ģ):=Uo (r:=ģ) (ė _) (fun {_}=>Cq Ã (ė _) rfl rfl rfl rfl rfl (Ś rfl) (VW (Á qx (Á xY Ã)) rfl) (iV rfl)) hmix rfl (Á rk (Á ri (Á rj Ã))) (fun xs x m=>uD xs x m some)
def Ik:iU Tryz.prog 55 Bj:=MQ (ka _) (fun {_}=>Cq Ã (ka _) rfl rfl rfl rfl rfl (Ś rfl) (VW (Á pf Ã) rfl) (iV rfl)) hmix rfl Ã (rtab:=Ns _) rfl (Á (QD PY) Ã) (Á QC Ã) (lV fun x=>X7 x some)
def P5:ZP 69 IW:=zt (X6 _) (Á ww Ã) rfl (Á UW Ã) fun x=>by kernel_rfl
def P6:ZP 132 za:=zt (vd _) (Á P5 Ã) rfl (Á zy Ã) fun x=>by kernel_rfl
def qv:iU Tryz.prog 71 mn:=LU (ŷ _) (fun {_}=>Cq (Á P5 (Á P6 Ã)) (ŷ _) rfl rfl rfl rfl rfl (Ś rfl) (lN rfl) (iV rfl)) hmix rfl (Á Er (Á Ep (Á Eo (Á En Ã)))) (lV fun x=>I6 x some)
def jZ:ZP 174 ŵ:=zt (jk _) Ã rfl (Á mE Ã) fun x=>by kernel_rfl
def ZG:ZP 224 Kd:=zt (Rx _) (Á jZ Ã) rfl Ã fun x=>by kernel_rfl
def ak8:ZP 226 acv:=zt (Jt _) (Á nS Ã) rfl (Á RC (Á RB Ã)) fun x=>by kernel_rfl
def LJ:ZP 269 yh:=zt (G3 _) Ã rfl Ã fun x=>by kernel_rfl
def A5:ZP 272 uT:=zt (O3 _) (Á Io Ã) rfl (Á O2 Ã) fun x=>by kernel_rfl
def Qb:ZP 279 Ed:=zt (Vn _) (Á adE (Á aiW Ã)) rfl Ã fun x=>by kernel_rfl
def am8:ZP 275 agz:=zt (ahg _) (Á A5 (Á Qb Ã)) rfl Ã fun x=>by kernel_rfl
def We:ZP 270 FF:=zt (O9 _) (Á am8 Ã) rfl Ã fun x=>by kernel_rfl
def abv:ZP 284 aap:=zt (ahe _) Ã rfl Ã fun x=>by kernel_rfl
def DX:ZP 280 CF:=zt (Lz _) (Á A5 (Á abv Ã)) rfl Ã fun x=>by kernel_rfl
def aiY:ZP 283 agA:=zt (ahi _) (Á A5 (Á Qb Ã)) rfl Ã fun x=>by kernel_rfl
def aiX:iU Tryz.prog 276 XH:=agp (EN _) (YQ _) (fun {_}=>Cq (Á Io (Á DX (Á aiY (Á abv Ã)))) (EN _) rfl rfl rfl rfl rfl (Ś rfl) (lN rfl) (iV rfl)) (fun {_}=>libN (Á Io (Á DX (Á aiY (Á abv Ã)))) _) rfl hmix (tab:=xm _) rfl Ã (us:=Kr) rfl (Á (by kernel_rfl) Ã) (lV fun x=>Vp x some)
def Wd:ZP 271 FE:=zt (O8 _) (Á aiX Ã) rfl Ã fun x=>by kernel_rfl
def afn:ZP 255 SF:=zt (YW _) (Á Mq (Á E5 (Á LJ (Á We (Á Wd Ã))))) rfl Ã fun x=>by kernel_rfl
def ai0:ZP 256 XJ:=zt (aaN _) Ã rfl Ã fun x=>by kernel_rfl
def ZF:ZP 273 M8:=zt (aaJ _) Ã rfl Ã fun x=>by kernel_rfl
def aiZ:ZP 257 XI:=zt (aaL _) (Á A5 (Á ZF Ã)) rfl Ã fun x=>by kernel_rfl
def ak5:ZP 258 acs:=zt (aeD _) (Á A5 (Á ZF Ã)) rfl Ã fun x=>by kernel_rfl
def ak6:ZP 227 act:=zt (aeE _) (Á afn (Á ai0 (Á aiZ (Á ak5 Ã)))) rfl Ã fun x=>by kernel_rfl
def ak7:ZP 136 acu:=zt (Bt _) (Á Mq (Á Qd (Á adF (Á ZG (Á ak8 (Á ak6 Ã)))))) rfl (Á Rz (Á RA (Á Ry Ã))) fun x=>by kernel_rfl
def B4:ZP 80 uV:=zt (YZ _) (Á A6 (Á ak7 Ã)) rfl Ã fun x=>by kernel_rfl
def adD:ZP 148 UC:=zt (aeA _) Ã rfl Ã fun x=>by kernel_rfl
def Im:ZP 89 zb:=zt (O1 _) (Á adD Ã) rfl (Á O0 Ã) fun x=>by kernel_rfl
def A4:ZP 90 sL:=zt (ς _) Ã rfl (Á GV (Á GU (Á GR (Á GS (Á GQ Ã))))) fun x=>Ln x some
def RU:ZP 116 CD:=zt (Lx _) (Á Im (Á A4 Ã)) rfl Ã fun x=>by kernel_rfl
def A0:ZP 57 sK:=zt (QQ _) (Á qv (Á B4 (Á RU Ã))) rfl Ã fun x=>by kernel_rfl
def xX:ZP 45 pJ:=zt (zE _) (Á Ik (Á A0 Ã)) rfl (Á Ey Ã) fun x=>by kernel_rfl
def P7:ZP 47 Fx:=zt (Nw _) Ã rfl (Á Nv Ã) fun x=>by kernel_rfl
def afo:ZP 50 SG:=zt (Y3 _) (Á T9 (Á Mq Ã)) rfl Ã fun x=>by kernel_rfl
def V8:ZP 9 Fy:=zt (mA _) (Á jX (Á xX (Á P7 (Á afo (Á iz Ã))))) rfl (Á EA (Á Ez Ã)) fun x=>I7 x some
def ady:ZP 46 Ux:=zt (Bn _) (Á iz Ã) rfl (Á QF (Á QE Ã)) fun x=>X9 x some
def akX:ZP 10 ack:=zt (Ja _) (Á jX (Á xX (Á ady (Á mU Ã)))) rfl (Á QV (Á QU Ã)) fun x=>by kernel_rfl
def afc:ZP 58 Sr:=zt (Kj _) Ã rfl (Á KT Ã) fun x=>by kernel_rfl
def ZC:ZP 11 Kb:=zt (Ń _) (Á jX (Á ady (Á Ik (Á A0 (Á afc (Á wz Ã)))))) rfl (Á Gm (Á Gn (Á Gl (Á Gj (Á Gg (Á Gf (Á Ge (Á Gi Ã)))))))) fun x=>KU x some
def xZ:ZP 17 pK:=zt (zY _) Ã rfl (Á EK Ã) fun x=>by kernel_rfl
def V7:iU Tryz.prog 68 LV:=MQ (iE _) (fun {_}=>Cq (Á A0 Ã) (iE _) rfl rfl rfl rfl rfl (Ś rfl) (VW (Á pf Ã) rfl) (iV rfl)) hmix rfl (Á QP (Á QO Ã)) (rtab:=NJ _) rfl (Á (QN PY) Ã) (Á QM Ã) (lV fun x=>Yc x some)
def ai2:ZP 128 XL:=zt (aaO _) (Á A6 (Á Qd (Á jZ Ã))) rfl Ã fun x=>by kernel_rfl
def ak9:ZP 129 acw:=zt (Tz _) (Á A6 Ã) rfl (Á RI Ã) fun x=>by kernel_rfl
def aiT:ZP 177 XE:=zt (OQ _) (Á Im (Á A4 (Á adD Ã))) rfl (Á OP Ã) fun x=>by kernel_rfl
def afm:ZP 212 SE:=zt (jP _) Ã rfl (Á Lw (Á Lv (Á Lu (Á Lr (Á Lt Ã))))) fun x=>Rq x some
def aiU:ZP 130 XF:=zt (EM _) (Á aiT (Á afm Ã)) rfl (Á OT (Á OS Ã)) fun x=>by kernel_rfl
def afb:ZP 70 Sq:=zt (Ya _) (Á B4 (Á ai2 (Á ak9 (Á aiU Ã)))) rfl Ã fun x=>by kernel_rfl
def T7:ZP 22 IY:=zt (zP _) (Á jX (Á P7 (Á V7 (Á P5 (Á afb (Á qv Ã)))))) rfl (Á KW (Á KV Ã)) fun x=>by kernel_rfl
def aiS:ZP 91 XD:=zt (OM _) Ã rfl (Á aaI (Á aaG (Á aaF (Á aaH Ã)))) fun x=>by kernel_rfl
def aiV:ZP 35 XG:=zt (nF _) (Á Im (Á A4 (Á aiS Ã))) rfl (Á OY (Á OU (Á OV (Á OW (Á OX Ã))))) fun x=>by kernel_rfl
def aiC:ZP 28 Xn:=zt (NP _) (Á aiV (Á jX (Á Ik (Á qv (Á B4 Ã))))) rfl (Á NN Ã) fun x=>by kernel_rfl
def abu:ZP 137 M7:=zt (GW _) Ã rfl (Á Jp Ã) fun x=>by kernel_rfl
def ak4:ZP 138 acr:=zt (Tj _) Ã rfl (Á Rp Ã) fun x=>by kernel_rfl
def RV:ZP 81 CE:=zt (Ly _) (Á Im (Á abu (Á ak4 Ã))) rfl Ã fun x=>by kernel_rfl
def RT:ZP 29 CC:=zt (yk _) (Á jX (Á Ik (Á qv (Á B4 (Á RV Ã))))) rfl (Á Ck Ã) fun x=>by kernel_rfl
def akV:ZP 38 aci:=zt (aes _) (Á jX (Á Ik Ã)) rfl Ã fun x=>by kernel_rfl
def ZB:ZP 39 Ka:=zt (Qz _) Ã rfl Ã fun x=>by kernel_rfl
def am5:ZP 40 agw:=zt (ag6 _) (Á jX (Á V7 Ã)) rfl Ã fun x=>by kernel_rfl
def aiD:ZP 41 Xo:=zt (aaz _) (Á jX (Á xX Ã)) rfl Ã fun x=>by kernel_rfl
def aiz:iU Tryz.prog 139 Xk:=MQ (ο _) (fun {_}=>Cq (Á aiy Ã) (ο _) rfl rfl rfl rfl rfl (Ś rfl) (lN rfl) (iV rfl)) hmix rfl (Á NB Ã) (rtab:=Kh _) rfl (Á (NA aiv) Ã) (Á Nz Ã) (lV fun x=>UZ x some)
def aiB:ZP 82 Xm:=zt (aay _) (Á jX (Á aiz Ã)) rfl Ã fun x=>by kernel_rfl
def am4:ZP 42 agv:=zt (ag4 _) (Á P7 (Á P5 (Á aiB Ã))) rfl Ã fun x=>by kernel_rfl
def ZD:ZP 43 Kc:=zt (Db _) (Á xZ Ã) rfl (Á GA Ã) fun x=>by kernel_rfl
def abm:ZP 7 MW:=zt (FR _) (Á V8 (Á akX (Á ZC (Á xZ (Á T7 (Á aiC (Á RT (Á akV (Á ZB (Á am5 (Á aiD (Á am4 (Á ZD Ã))))))))))))) rfl Ã fun x=>Nq x some
def JS:ZP 76 Eb:=zt (ag9 _) Ã rfl Ã fun x=>by kernel_rfl
def Il:ZP 25 Bl:=zt (aeu _) (Á JS Ã) rfl Ã fun x=>by kernel_rfl
def akZ:ZP 125 acm:=zt (Td _) Ã rfl (Á Rl Ã) fun x=>by kernel_rfl
def ZE:ZP 66 M4:=zt (Oy _) (Á akZ Ã) rfl (Á Ox Ã) fun x=>by kernel_rfl
def Wa:ZP 146 LW:=zt (aet _) (Á ZE Ã) rfl Ã fun x=>by kernel_rfl
def aiI:ZP 143 Xt:=zt (EJ _) (Á Wa Ã) rfl (Á Od (Á Oc Ã)) fun x=>by kernel_rfl
def BZ:ZP 85 uS:=zt (jM _) (Á aiI Ã) rfl (Á Ld (Á Lc (Á Lb (Á K8 (Á K9 (Á La Ã)))))) fun x=>by kernel_rfl
def JR:ZP 78 Bk:=zt (Kn _) (Á BZ Ã) rfl (Á Le Ã) fun x=>by kernel_rfl
def wy:ZP 15 qT:=zt (OC _) Ã rfl (Á OB Ã) fun x=>by kernel_rfl
def P9:ZP 64 FC:=zt (Ow _) Ã rfl (Á Ov Ã) fun x=>by kernel_rfl
def aiJ:ZP 188 Xu:=zt (Og _) Ã rfl (Á Oe Ã) fun x=>by kernel_rfl
def aiN:ZP 144 Xy:=zt (Ou _) (Á wy (Á P9 (Á aiJ Ã))) rfl (Á Ot Ã) fun x=>by kernel_rfl
def adB:ZP 209 UA:=zt (Th _) Ã rfl (Á Ro Ã) fun x=>by kernel_rfl
def adC:ZP 210 UB:=zt (aez _) Ã rfl Ã fun x=>by kernel_rfl
def Qa:ZP 274 Ec:=zt (Vj _) (Á adB (Á adC Ã)) rfl Ã fun x=>by kernel_rfl
def ak3:ZP 260 acq:=zt (aey _) (Á Qa Ã) rfl Ã fun x=>by kernel_rfl
def ak1:ZP 261 aco:=zt (aew _) Ã rfl Ã fun x=>by kernel_rfl
def ak0:ZP 231 acn:=zt (aev _) (Á ak3 (Á ak1 Ã)) rfl Ã fun x=>by kernel_rfl
def afg:ZP 232 Sw:=zt (Yo _) (Á wy Ã) rfl Ã fun x=>by kernel_rfl
def aiQ:ZP 262 XB:=zt (aaD _) Ã rfl Ã fun x=>by kernel_rfl
def ak2:ZP 263 acp:=zt (aex _) (Á Qa Ã) rfl Ã fun x=>by kernel_rfl
def afk:ZP 233 SB:=zt (YF _) (Á aiQ (Á ak2 Ã)) rfl Ã fun x=>by kernel_rfl
def abr:ZP 189 M5:=zt (Vi _) (Á Wa (Á ak0 (Á afg (Á afk Ã)))) rfl Ã fun x=>by kernel_rfl
def afi:ZP 190 Sy:=zt (YB _) Ã rfl Ã fun x=>by kernel_rfl
def am7:ZP 234 agy:=zt (ahb _) Ã rfl Ã fun x=>by kernel_rfl
def aiR:ZP 191 XC:=zt (aaE _) (Á am7 Ã) rfl Ã fun x=>by kernel_rfl
def aiP:ZP 235 XA:=zt (aaC _) Ã rfl Ã fun x=>by kernel_rfl
def afl:ZP 192 SD:=zt (YG _) (Á aiP Ã) rfl Ã fun x=>by kernel_rfl
def aiK:ZP 151 Xv:=zt (aaA _) (Á abr (Á afi (Á aiR (Á afl Ã)))) rfl Ã fun x=>by kernel_rfl
def adA:ZP 94 Uz:=zt (Bq _) (Á JR (Á BZ (Á aiN (Á Wa (Á aiK Ã))))) rfl (Á Rf (Á Rg (Á Re Ã))) fun x=>by kernel_rfl
def ut:ZP 117 ot:=zt (Ra _) Ã rfl Ã fun x=>by kernel_rfl
def afj:ZP 172 Sz:=zt (YE _) (Á adB (Á adC Ã)) rfl Ã fun x=>by kernel_rfl
def afh:ZP 118 Sx:=zt (Yp _) (Á Il (Á JS (Á ut (Á afj Ã)))) rfl Ã fun x=>by kernel_rfl
def wx:ZP 123 qD:=zt (Ys _) (Á wy Ã) rfl Ã fun x=>by kernel_rfl
def aiH:ZP 119 Xs:=zt (N8 _) (Á Il (Á wx Ã)) rfl (Á N7 Ã) fun x=>by kernel_rfl
def aff:ZP 120 Sv:=zt (tC _) (Á JS (Á ut (Á wx Ã))) rfl (Á K6 (Á K5 (Á K7 Ã))) fun x=>by kernel_rfl
def aiL:ZP 173 Xw:=zt (Oj _) (Á JS Ã) rfl (Á Oi Ã) fun x=>by kernel_rfl
def afe:ZP 121 Su:=zt (Yn _) (Á Il (Á JS (Á ut (Á aiL Ã)))) rfl Ã fun x=>by kernel_rfl
def Wc:ZP 122 FB:=zt (jL _) (Á wy (Á P9 (Á ZE (Á wx Ã)))) rfl (Á EI (Á EH (Á EG Ã))) fun x=>Ji x some
def T8:ZP 62 IZ:=zt (l8 _) (Á Il (Á BZ (Á adA (Á ut (Á afh (Á aiH (Á aff (Á afe (Á Wc (Á wx Ã)))))))))) rfl (Á Li (Á Lg (Á Lh (Á Lf Ã)))) fun x=>Rn x some
def akY:ZP 63 acl:=zt (Bo _) (Á wy (Á JS (Á wx Ã))) rfl (Á Q2 (Á Q0 (Á QZ Ã))) fun x=>by kernel_rfl
def afd:ZP 12 Ss:=zt (zU _) (Á T8 (Á akY (Á P9 Ã))) rfl (Á K3 (Á K4 Ã)) fun x=>by kernel_rfl
def akW:ZP 23 acj:=zt (I8 _) (Á jX (Á V7 (Á P5 Ã))) rfl (Á QR (Á QS Ã)) fun x=>by kernel_rfl
noncomputable def LH {a:u6->BY v6} (b:iU Tryz.prog 87 ⟨[(.slice tI)],[(.slice (.slice tI))],fun(x:u6)=>a x⟩):iU Tryz.prog 87 ⟨[(.slice tI)],[(.slice (.slice tI))],fun(x:u6)=>nD a x some⟩:=LU (p:=⟨[(.slice tI)],[(.slice (.slice tI))],fun(x:u6)=>nD a x some⟩) (Į a _) (fun {_}=>libN (Á b Ã) _) hmix (tab:=zQ a _) rfl (Á Jb (Á Jc Ã)) (lV fun x=>NU x some)
def A3:∀n:Nat,iU Tryz.prog 87 ⟨[(.slice tI)],[(.slice (.slice tI))],fun(x:u6)=>qS n x⟩
 |0=>by intro _ _ _ h; cases h
 |n+1=>LH (A3 n)
def abn:iU Tryz.prog 87 MX:=A3 100
def abo:ZP 88 MY:=zt (wX _) Ã rfl (Á Jd (Á Je Ã)) fun x=>by kernel_rfl
def aiF:ZP 34 Xq:=zt (nE _) (Á abn (Á abo Ã)) rfl (Á NY (Á NZ (Á N0 (Á NW (Á NX Ã))))) fun x=>by kernel_rfl
def P8:ZP 36 Ea:=zt (Vg _) (Á BZ (Á adA Ã)) rfl Ã fun x=>by kernel_rfl
def am6:ZP 20 agx:=zt (Yl _) Ã rfl (Á Vb Ã) fun x=>by kernel_rfl
def Mp:ZP 75 Fz:=zt (SY _) (Á am6 Ã) rfl (Á Q3 Ã) fun x=>by kernel_rfl
def aiE:ZP 95 Xp:=zt (EC _) (Á Mp Ã) rfl (Á NS (Á NT Ã)) fun x=>by kernel_rfl
def DW:ZP 37 uA:=zt (Λ _) (Á Mp (Á aiE Ã)) rfl (Á Co (Á Cn (Á Cm (Á Cl Ã)))) fun x=>Gz x some
def aiM:ZP 124 Xx:=zt (EL _) Ã rfl (Á Ol (Á Om Ã)) fun x=>by kernel_rfl
def V9:ZP 65 FA:=zt (N4 _) (Á P8 (Á DW (Á aiM Ã))) rfl Ã fun x=>by kernel_rfl
def adz:ZP 74 Uy:=zt (S0 _) (Á aiF (Á V9 Ã)) rfl (Á Q8 Ã) fun x=>by kernel_rfl
def aiG:ZP 24 Xr:=zt (EF _) (Á adz (Á Mp Ã)) rfl (Á N1 (Á N2 Ã)) fun x=>by kernel_rfl
def aiO:ZP 135 Xz:=zt (aaB _) (Á T8 Ã) rfl Ã fun x=>by kernel_rfl
def abp:ZP 77 MZ:=zt (Va _) (Á JR (Á aiO Ã)) rfl Ã fun x=>by kernel_rfl
def abt:ZP 79 M6:=zt (qe _) Ã rfl (Á Jm (Á Jk (Á Jl Ã))) fun x=>by kernel_rfl
def abq:ZP 26 M3:=zt (wY _) (Á P8 (Á DW (Á adz (Á Mp (Á abp (Á JR (Á abt Ã))))))) rfl (Á Jg (Á Jh Ã)) fun x=>by kernel_rfl
def c_w7_SwapCoulds:iU Tryz.prog 4 ml:=LU (j9 _) (fun {_}=>Cq (Á ae9 (Á abm (Á afd (Á wy (Á xZ (Á T7 (Á akW (Á aiG (Á Il (Á abq Ã)))))))))) (j9 _) rfl rfl rfl rfl rfl (ahF (js:=sQ) rfl) (lN rfl) (iV rfl)) hmix rfl (Á zq Ã) (lV fun x=>El x some)
end Go.Proofs.ZzM
end
