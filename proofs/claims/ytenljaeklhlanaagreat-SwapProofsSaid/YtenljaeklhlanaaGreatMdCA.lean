/- lemmas -/
import Derived.Test.YtenljaeklhlanaaGreatAmD
import Derived.Test.YtenljaeklhlanaaGreatAmE
import Derived.Ground.NamesProg
import Derived.Ground.Names2Prog
import Derived.KernelRfl
import Derived.Test.YtenljaeklhlanaaGreatMdMA
import Derived.Test.YtenljaeklhlanaaGreatMdKC
import Derived.Test.YtenljaeklhlanaaGreatMdPA
import Derived.RangeFuncBox
import Derived.Lib.SliceRun
import Derived.RangeFuncLeaves
import Derived.WalkKit
import Derived.OwnWalkIn
import Derived.TacticsInMore
import Derived.LoopNIn
import Derived.LoopIn
import Derived.Test.YtenljaeklhlanaaGreatProg
import Derived.RangeFuncFrom
import Derived.RangeFuncRecord
import Derived.Laws.CopyRow
import Derived.Laws.IdiomCopy
import Derived.Test.YtenljaeklhlanaaGreatAmA
import Derived.Test.YtenljaeklhlanaaGreatMdKB
import Derived.Test.YtenljaeklhlanaaGreatMdKA
set_option linter.all false
noncomputable section
namespace Go.Proofs
open Go.Shelf
def Tryz.laysSort_ren:Go.Shelf.Ren:=⟨fun|189=>133|125=>180|257=>179|128=>222|129=>223|294=>213|295=>214|296=>215|297=>216|298=>217|299=>218|216=>219|300=>220|301=>221|328=>250|329=>251|330=>252|331=>253|332=>254|215=>171|343=>268|n=>n,fun|28=>34|3=>3|46=>115|0=>0|51=>261|53=>263|4=>4|183=>254|182=>253|131=>203|5=>5|9=>9|218=>284|222=>288|228=>297|229=>298|n=>n,fun|n=>n⟩
def Tryz.laysSort:Go.Proofs.Lays.n189 Tryz.prog Tryz.laysSort_ren:={
 mixed:=by kernel_rfl
 f125:=Tryz.func180.trans (congrArg some (by kernel_rfl))
 f128:=Tryz.func222.trans (congrArg some (by kernel_rfl))
 f129:=Tryz.func223.trans (congrArg some (by kernel_rfl))
 f189:=Tryz.func133.trans (congrArg some (by kernel_rfl))
 f215:=Tryz.func171.trans (congrArg some (by kernel_rfl))
 f216:=Tryz.func219.trans (congrArg some (by kernel_rfl))
 f257:=Tryz.func179.trans (congrArg some (by kernel_rfl))
 f294:=Tryz.func213.trans (congrArg some (by kernel_rfl))
 f295:=Tryz.func214.trans (congrArg some (by kernel_rfl))
 f296:=Tryz.func215.trans (congrArg some (by kernel_rfl))
 f297:=Tryz.func216.trans (congrArg some (by kernel_rfl))
 f298:=Tryz.func217.trans (congrArg some (by kernel_rfl))
 f299:=Tryz.func218.trans (congrArg some (by kernel_rfl))
 f300:=Tryz.func220.trans (congrArg some (by kernel_rfl))
 f301:=Tryz.func221.trans (congrArg some (by kernel_rfl))
 f328:=Tryz.func250.trans (congrArg some (by kernel_rfl))
 f329:=Tryz.func251.trans (congrArg some (by kernel_rfl))
 f330:=Tryz.func252.trans (congrArg some (by kernel_rfl))
 f331:=Tryz.func253.trans (congrArg some (by kernel_rfl))
 f332:=Tryz.func254.trans (congrArg some (by kernel_rfl))
 f343:=Tryz.func268.trans (congrArg some (by kernel_rfl))
 t0:=Tryz.underlying0
 a0:=Tryz.isAgg0
 z0:=Tryz.sizeOf0
 v0:=Tryz.zeroValue0
 t3:=Tryz.underlying3
 a3:=Tryz.isAgg3
 z3:=Tryz.sizeOf3
 v3:=Tryz.zeroValue3
 t4:=Tryz.underlying4
 a4:=Tryz.isAgg4
 z4:=Tryz.sizeOf4
 v4:=Tryz.zeroValue4
 t5:=Tryz.underlying5
 a5:=Tryz.isAgg5
 z5:=Tryz.sizeOf5
 v5:=Tryz.zeroValue5
 t9:=Tryz.underlying9
 a9:=Tryz.isAgg9
 z9:=Tryz.sizeOf9
 v9:=Tryz.zeroValue9
 t28:=Tryz.underlying34
 a28:=Tryz.isAgg34
 z28:=Tryz.sizeOf34
 v28:=Tryz.zeroValue34
 t46:=Tryz.underlying115
 a46:=Tryz.isAgg115
 z46:=Tryz.sizeOf115
 v46:=Tryz.zeroValue115
 t51:=Tryz.underlying261
 a51:=Tryz.isAgg261
 z51:=Tryz.sizeOf261
 v51:=Tryz.zeroValue261
 t53:=Tryz.underlying263
 a53:=Tryz.isAgg263
 z53:=Tryz.sizeOf263
 v53:=Tryz.zeroValue263
 t131:=Tryz.underlying203
 a131:=Tryz.isAgg203
 z131:=Tryz.sizeOf203
 v131:=Tryz.zeroValue203
 t182:=Tryz.underlying253
 a182:=Tryz.isAgg253
 z182:=Tryz.sizeOf253
 v182:=Tryz.zeroValue253
 t183:=Tryz.underlying254
 a183:=Tryz.isAgg254
 z183:=Tryz.sizeOf254
 v183:=Tryz.zeroValue254
 t218:=Tryz.underlying284
 a218:=Tryz.isAgg284
 z218:=Tryz.sizeOf284
 v218:=Tryz.zeroValue284
 t222:=Tryz.underlying288
 a222:=Tryz.isAgg288
 z222:=Tryz.sizeOf288
 v222:=Tryz.zeroValue288
 t228:=Tryz.underlying297
 a228:=Tryz.isAgg297
 z228:=Tryz.sizeOf297
 v228:=Tryz.zeroValue297
 t229:=Tryz.underlying298
 a229:=Tryz.isAgg298
 z229:=Tryz.sizeOf298
 v229:=Tryz.zeroValue298}
def Tryz.laysCompact_ren:Go.Shelf.Ren:=⟨fun|20=>242|n=>n,fun|22=>34|3=>3|4=>4|0=>0|n=>n,fun|n=>n⟩
def Tryz.laysCompact:Go.Proofs.Lays2.n20 Tryz.prog Tryz.laysCompact_ren:={
 mixed:=by kernel_rfl
 f20:=Tryz.func242.trans (congrArg some (by kernel_rfl))
 t0:=Tryz.underlying0
 a0:=Tryz.isAgg0
 z0:=Tryz.sizeOf0
 v0:=Tryz.zeroValue0
 t3:=Tryz.underlying3
 a3:=Tryz.isAgg3
 z3:=Tryz.sizeOf3
 v3:=Tryz.zeroValue3
 t4:=Tryz.underlying4
 a4:=Tryz.isAgg4
 z4:=Tryz.sizeOf4
 v4:=Tryz.zeroValue4
 t22:=Tryz.underlying34
 a22:=Tryz.isAgg34
 z22:=Tryz.sizeOf34
 v22:=Tryz.zeroValue34
 i3:=by kernel_rfl}
end Go.Proofs
namespace Go.Proofs.ZzM
open Go Go.Am
def hmix:Tryz.prog.follows .mixedOrders=true:=by kernel_rfl
def plain_ : (Tryz.prog.funcs.toList.all fun fn => !(fn.name == "runtime.NumGoroutine")) = true := by kernel_rfl
def plain (f : Nat) (fn : Func) (h : Tryz.prog.funcs[f]? = some fn) : (fn.name == "runtime.NumGoroutine") = false := by
 have:=dC.1 plain_ fn (dc (i:=f) (by simpa using h));simpa using this
def anw:Tryz.laysSort_ren.f 189=133:=by kernel_rfl
def afd:Tryz.laysCompact_ren.f 20=242:=by kernel_rfl
section
variable [Ghost] {ρ:Type}
def sortOk (f:Nat) (a:UA f=true) (h:CK Blk) (x:AV) (K:AV->CK Blk->BY ρ) (q:ρ) (e:Vg h x K=some q) (ν:Nat->Value) (w:World) (u:Value) (H:HR ν h w) (b:VR ν h w x u):I8 Tryz.prog f ν h w [u] K q:=by
 have c:f=133:=by
  unfold UA at a
  split at a
  ·rfl
  ·cases a
 subst c;have:=anl Tryz.laysSort e H b ⟨_,rfl⟩
 rwa [anw] at this
def ajq (f:Nat) (a:wJ f=true) (h:CK Blk) (x:AV) (K:AV->CK Blk->BY ρ) (q:ρ) (e:qR h x K=some q) (ν:Nat->Value) (w:World) (u:Value) (H:HR ν h w) (b:VR ν h w x u):I8 Tryz.prog f ν h w [u] K q:=by
 have c:f=242:=by
  unfold wJ at a
  split at a
  ·rfl
  ·cases a
 subst c;have:=af4 Tryz.laysCompact e H b ⟨_,rfl⟩
 rwa [afd] at this
def an7:Kt Tryz.prog J0:=by
 intro g c fz S nid x v d e ν w u H a b hd;unfold J0 at c
 split at c
 ·exact CG Tryz.func103 (T:=27) (by kernel_rfl) (by kernel_rfl) e H a b hd
 ·exact CG Tryz.func131 (T:=24) (by kernel_rfl) (by kernel_rfl) e H a b hd
 ·exact CG Tryz.func165 (T:=34) (by kernel_rfl) (by kernel_rfl) e H a b hd
 ·exact CG Tryz.func247 (T:=25) (by kernel_rfl) (by kernel_rfl) e H a b hd
 ·exact CG Tryz.func248 (T:=26) (by kernel_rfl) (by kernel_rfl) e H a b hd
 ·exact CG Tryz.func249 (T:=28) (by kernel_rfl) (by kernel_rfl) e H a b hd
 ·cases c
def C6 {c:CK (Nat×ú)} (h:∀e∈c,ja Tryz.prog e.1 e.2) (E:Env ρ) (b:E.P=Tryz.prog) (l:E.pure=ab6 c) (h2:E.sort=UA) (k:E.compact=wJ) (j:E.clone=J0) (i:aaY E) (g:∀f X,E.ext f=some X->agH E.P f X) (d:lR E):I7 E:=by
 constructor
 ·intro f p a;rw[l] at a;rw[b];exact h (f,p) (UN a)
 ·intro f a;rw[h2] at a;rw[b];exact sortOk f a
 ·intro f a;rw[k] at a;rw[b];exact ajq f a
 ·rw[b]; exact plain
 ·rw[b,j]; exact an7
 ·exact i
 ·exact d
 ·exact g
def libN {a:CK (Nat×ú)} (h:∀e∈a,ja Tryz.prog e.1 e.2) (tab:CK (õ ρ)):I7 (Ø a tab):=C6 h _ rfl rfl rfl rfl rfl (Ŕ rfl) (mb rfl) (jb rfl)
end
abbrev ZP (f:Nat) (p:ú):Prop:=ja Tryz.prog f p
def zt {f:Nat} {p:ú} {a:CK (Nat×ú)} {tab:CK (õ (Val (tyL p.rs)))} (E:Env (Val (tyL p.rs))) (c:∀e∈a,ja Tryz.prog e.1 e.2) (d:E=Ø a tab) (b:∀x∈tab,x.Ok E) (law:∀x:Val (tyL p.ts),topK E f (aca p.ts x) (fun h v=>Å (anv p.rs h v) some)=p.F x):ja Tryz.prog f p:=by
 subst d;exact Mz (Ø a tab) (fun {_}=>libN c _) hmix (tab:=tab) rfl b (mj law)
end Go.Proofs.ZzM
end

noncomputable section
set_option maxRecDepth 100000
namespace Go.Proofs.ZzM
open Go Go.Am
def nw:ZP 52 jN:=zt (lF _) Ä rfl (Á wq (Á wp Ä)) fun x=>by kernel_rfl
noncomputable def SV {n:Nat} (b:lS Tryz.prog ⟨206,(.slice tI),(.slice tI),aa6 n⟩):lS Tryz.prog ⟨206,(.slice tI),(.slice tI),aa6 (n+1)⟩:=WJ ⟨206,(.slice tI),(.slice tI),aa6 (n+1)⟩ (fun al=>ć al (aa6 n) _) rfl (fun _=>rfl) (fun _=>rfl) (fun _ {_} a=>C6 (Á nw Ä) _ rfl rfl rfl rfl rfl (Ŕ rfl) (mb rfl) a) hmix (fun al=>If (E:=ć al (aa6 n) _) hmix (tab:=yU al (aa6 n) _) rfl (Á GF Ä) (rtab:=Ah al (aa6 n) _) rfl (Á (GD b) Ä) (Á GC Ä)) (fun m xs h=>(Lv m (aa6 (n+1))).trans (ahJ h))
def I0:∀n:Nat,lS Tryz.prog ⟨206,(.slice tI),(.slice tI),aa6 n⟩
 |0=>⟨rfl,fun _ _ m xs h=>(Nat.not_lt_zero _ (ac6 (n:=0) (l:=m) (xs:=xs) h).1).elim⟩
 |n+1=>SV (I0 n)
def ajD:lS Tryz.prog Qb:=(I0 10).mono fun _ _ h=>afk h
noncomputable def Ml {n:Nat} (b:lS Tryz.prog ⟨168,(.slice Ģ),(.slice (.slice tI)),aa7 n⟩):lS Tryz.prog ⟨168,(.slice Ģ),(.slice (.slice tI)),aa7 (n+1)⟩:=WJ ⟨168,(.slice Ģ),(.slice (.slice tI)),aa7 (n+1)⟩ (fun al=>ì al (aa7 n) _) rfl (fun _=>rfl) (fun _=>rfl) (fun _ {_} a=>C6 Ä _ rfl rfl rfl rfl rfl (Ŕ rfl) (mb rfl) a) hmix (fun al=>If (E:=ì al (aa7 n) _) hmix (tab:=tQ al (aa7 n) _) rfl Ä (rtab:=vO al (aa7 n) _) rfl (Á (CV b) (Á (CZ ajD) Ä)) (Á CU (Á CY Ä))) (fun m xs h=>(GR m (aa7 (n+1))).trans (acj h))
def BG:∀n:Nat,lS Tryz.prog ⟨168,(.slice Ģ),(.slice (.slice tI)),aa7 n⟩
 |0=>⟨rfl,fun _ _ m xs h=>(Nat.not_lt_zero _ (ac7 (n:=0) (l:=m) (xs:=xs) h).1).elim⟩
 |n+1=>Ml (BG n)
def QK:lS Tryz.prog su:=(BG 10).mono fun _ _ h=>aas h
def ajC:lS Tryz.prog Ii:=WJ Ii (fun al=>đ al (fun _=>none) _) rfl (fun _=>rfl) (fun _=>rfl) (fun _ {_} a=>C6 Ä _ rfl rfl rfl rfl rfl (Ŕ rfl) (mb rfl) a) hmix (fun _=>MG hmix rfl (Á td Ä) rfl) (fun m xs h=>(wn m Ci).trans (ag2 h))
def CI:ZP 152 vG:=zt (ZU _) Ä rfl Ä fun x=>by kernel_rfl
def my:ZP 163 kv:=zt (ZR _) Ä rfl Ä fun x=>by kernel_rfl
def I4:ZP 197 zN:=zt (abQ _) (Á my Ä) rfl Ä fun x=>by kernel_rfl
def aeD:ZP 264 VA:=zt (afE _) Ä rfl Ä fun x=>by kernel_rfl
def ajY:ZP 265 abr:=zt (ZM _) Ä rfl (Á Wt Ä) fun x=>by kernel_rfl
def I3:ZP 236 Gj:=zt (abO _) (Á aeD (Á ajY Ä)) rfl Ä fun x=>by kernel_rfl
def acw:ZP 195 NR:=zt (H5 _) (Á CI (Á my (Á I4 (Á I3 Ä)))) rfl Ä fun x=>P1 x some
def Q0:ZP 153 zO:=zt (wF _) (Á acw Ä) rfl (Á Bl Ä) fun x=>by kernel_rfl
def FL:ZP 154 xB:=zt (HJ _) Ä rfl (Á JS Ä) fun x=>by kernel_rfl
def xg:ZP 107 nV:=zt (rZ _) Ä rfl (Á xJ Ä) fun x=>by kernel_rfl
def iC:ZP 51 Ŧ:=zt (zk _) (Á xg Ä) rfl Ä fun x=>by kernel_rfl
def aeF:ZP 202 VC:=zt (JV _) (Á iC Ä) rfl (Á SK (Á SJ Ä)) fun x=>by kernel_rfl
def QZ:ZP 156 Gn:=zt (Fz _) (Á aeF Ä) rfl (Á PY (Á PZ Ä)) fun x=>by kernel_rfl
def vu:ZP 198 oB:=zt (Md _) Ä rfl Ä fun x=>by kernel_rfl
def acv:ZP 196 abu:=zt (Wv _) (Á I4 (Á vu Ä)) rfl Ä fun x=>by kernel_rfl
def Xn:ZP 200 VD:=zt (nc _) (Á CI (Á my (Á vu Ä))) rfl (Á FC (Á FB Ä)) fun x=>JW x some
def U3:ZP 105 Js:=zt (K5 _) (Á my Ä) rfl (Á Mg Ä) fun x=>by kernel_rfl
def M4:ZP 106 Gp:=zt (JU _) (Á iC Ä) rfl (Á SI (Á SH Ä)) fun x=>by kernel_rfl
def aeG:ZP 204 VE:=zt (Ur _) (Á my Ä) rfl (Á SL Ä) fun x=>by kernel_rfl
def Mo:ZP 201 Ll:=zt (Ť _) (Á nw (Á U3 (Á M4 (Á CI (Á my (Á I4 (Á vu (Á aeG Ä)))))))) rfl (Á zp (Á zn (Á zo (Á zm Ä)))) fun x=>C5 x some
end Go.Proofs.ZzM
end

noncomputable section
namespace Go.Proofs
open Go.RowKit
attribute [local go_sem] Oper.semAt_some
noncomputable def upE (f:Nat->Int) (k:Nat):CK Int:=(List.range k).map f
def tg (f:Nat->Int) (k:Nat):upE f (k+1)=upE f k++[f k]:=by simp[upE,ft]
def BZ (f:Nat->Int) (k:Nat):(upE f k).length=k:=by simp[upE]
def Ms (f:Nat->Int) {j k:Nat} (h:j<=k):upE f j <+: upE f k:=by
 have:k=j+(k-j):=by omega
 rw[this,upE,upE,List.range_add,fj];exact eh _ _
set_option maxRecDepth 100000 in
set_option maxHeartbeats 1000000 in
noncomputable def alb (te:TypeId) (n:Nat) (hn:1<=n) (l n₀ bb tb sb:Nat) (flo fhi ga mv:Value) (hbb:bb<n₀) (htb:tb<n₀) (hsb:sb<n₀)
 (ub uo ul uc kb ko kl kc:Nat) (ubase kbase lbase cbase:BY Addr) (ll lc cl cc:Nat) (hub:0<ul->ubase=some ⟨ub,uo,none⟩/\ub<n₀) (hkb:0<kl->kbase=some ⟨kb,ko,none⟩/\kb<n₀)
 (U K:Nat->Int×Int) (eU eL eC eK:Nat->Int)
 (hul:ul<=1000) (hll:ll<=1000) (hcl:cl<=1000) (hkl:kl<=1000)
 (W:World) (hb0:W.heap[bb]?=some (.cells #[flo,fhi,ga,.slice ubase ul uc,.slice lbase ll lc,.slice cbase cl cc,.slice kbase kl kc] te (0,0)))
 (ht:W.cell? ⟨tb,0,none⟩=some (.func (.func 196) #[] #[.pointer (some ⟨sb,0,none⟩)])) (hs:W.cell? ⟨sb,0,none⟩=some mv)
 (hU:∀j,j<ul->W.cell? ⟨ub,uo+j*2,none⟩=some (.int .i64 (U j).1)/\W.cell? ⟨ub,uo+j*2+1,none⟩=some (.int .i64 (U j).2))
 (hK:∀j,j<kl->W.cell? ⟨kb,ko+j*2,none⟩=some (.int .i64 (K j).1)/\W.cell? ⟨kb,ko+j*2+1,none⟩=some (.int .i64 (K j).2))
 (cU:∀j,j<ul->∀W',Below n₀ W W'->CallsIn Fence.wide (n-1) Tryz.prog 196 #[.int .i64 (U j).1,.int .i64 (U j).2,.pointer (some ⟨sb,0,none⟩)] W' fun e W''=>e=.returned (.int .i64 (eU j))/\W'.grownBy W'' none)
 (cK:∀j,j<kl->∀W',Below n₀ W W'->CallsIn Fence.wide (n-1) Tryz.prog 196 #[.int .i64 (K j).1,.int .i64 (K j).2,.pointer (some ⟨sb,0,none⟩)] W' fun e W''=>e=.returned (.int .i64 (eK j))/\W'.grownBy W'' none)
 (cL:∀j,j<ll->∀W',Below n₀ W W'->CallsIn Fence.wide (n-1) Tryz.prog 200 #[.agg #[flo,fhi,ga,.slice ubase ul uc,.slice lbase ll lc,.slice cbase cl cc,.slice kbase kl kc],mv,.int .i64 j] W' fun e W''=>e=.returned (.int .i64 (eL j))/\W'.grownBy W'' none)
 (cC:∀j,j<cl->∀W',Below n₀ W W'->CallsIn Fence.wide (n-1) Tryz.prog 201 #[.agg #[flo,fhi,ga,.slice ubase ul uc,.slice lbase ll lc,.slice cbase cl cc,.slice kbase kl kc],mv,.int .i64 j] W' fun e W''=>e=.returned (.int .i64 (eC j))/\W'.grownBy W'' none)
 (J Jx:CK Int->World->Prop) (hJ:∀pre W W',J pre W->W.grownBy W' none->J pre W') (hJx:∀pre W W',Jx pre W->W.grownBy W' none->Jx pre W')
 (hY:∀pre x W,J pre W->pre.length<ul+(ll+(cl+kl))->YieldAt Fence.wide (n-1) Tryz.prog l #[.int .i64 x] W fun e W' =>
  (e=.returned (.bool true)/\J (pre++[x]) W'/\Below n₀ W W')\/(e=.returned (.bool false)/\Jx (pre++[x]) W'))
 (h0 : J [] W) (hn₀ : n₀ <= W.heap.size) :
  CallsIn Fence.wide n Tryz.prog 199 #[.func (.yield l) #[] #[],.pointer (some ⟨bb,0,none⟩),.pointer (some ⟨tb,0,none⟩),.pointer (some ⟨sb,0,none⟩)] W fun e W'=>(∃v,e=.returned v) /\
   ((∃xs,xs=upE eU ul++(upE eL ll++(upE eC cl++upE eK kl))/\J xs W')\/(∃pre,(pre <+: upE eU ul++(upE eL ll++(upE eC cl++upE eK kl)))/\Jx pre W')):=by
 have grown_alloc:∀(X:World) (o:Obj),X.grownBy (X.alloc o) none:=fun X o=>World.grownBy_alloc X o none
 have bel:∀{X Y:World},Below n₀ W X->X.grownBy Y none->Below n₀ W Y:=fun {X Y} h g =>
  ⟨g.os.trans h.os,g.tape.trans h.tape,g.output.trans h.output,du h.size g.size,fun k hk=>(g.block k (dr (dr hk hn₀) h.size) (by simp)).trans (h.block k hk)⟩
 have hc:∀{X:World},Below n₀ W X->X.heap[bb]?=some (.cells #[flo,fhi,ga,.slice ubase ul uc,.slice lbase ll lc,.slice cbase cl cc,.slice kbase kl kc] te (0,0)):=fun h=>(h.block bb hbb).trans hb0;refine callsIn_of_wp Tryz.func199 rfl trivial ?_ rfl;simp only[Tryz.ntmps199,fP,di,dK,Nat.reduceAdd,Nat.reduceSub,Array.replicate_succ,Array.replicate_zero,List.push_toArray,gL,d8,fe]
 have hb3:W.cell? ⟨bb,3,none⟩=some (.slice ubase ul uc):=by simp[World.cell?,hb0]
 gi_wp2
 gi_loopw [14] (fun i wr=>∃k:Nat,k<=ul/\i=.int .i64 k/\J (upE eU k) wr/\Below n₀ W wr)
  (fun i _=>ul-(intOf i).toNat)
 case atStart=>exact⟨0,dU _,rfl,h0,Below.refl _ _⟩
 case round =>
  obtain⟨k,hk,rfl,hJs,hnx⟩:=hrel
  by_cases hlt:k<ul
  ·obtain⟨rfl,hlu⟩:=hub (by omega);have hu1:=(hnx.cell (p:=⟨ub,uo+k*2,none⟩) hlu).trans (hU k hlt).1;have hu2:=(hnx.cell (p:=⟨ub,uo+k*2+1,none⟩) hlu).trans (hU k hlt).2;have ht':=(hnx.cell (p:=⟨tb,0,none⟩) htb).trans ht;have hta:∀o,(wr.alloc o).cell? ⟨tb,0,none⟩=some (.func (.func 196) #[] #[.pointer (some ⟨sb,0,none⟩)]):=fun o=>Lib.cell?_alloc_some _ ht'
   gi_wp2
   refine⟨trivial,(cU k hlt _ (bel hnx (grown_alloc _ _))).mono ?_⟩;rintro e W2 ⟨rfl,hg2⟩;obtain⟨fn,tmps,assign,body,hy,hR⟩:=hY _ (eU k) W2 (hJ _ _ _ (hJ _ _ _ hJs (grown_alloc _ _)) hg2) (by rw[BZ]; omega);have hb2:=bel (bel hnx (grown_alloc _ _)) hg2
   gi_wp2
   refine hR.mono ?_;rintro e W3 (⟨rfl,hJ3,hk3⟩|⟨rfl,hJx3⟩)
   ·gi_wp2
    go_roundw
    case rel=>exact⟨k+1,by omega,by simp,by rw[tg]; exact hJ3,hb2.trans hk3⟩
    case measure=>simp[intOf]; omega
   ·gi_wp2
    refine bodyPost_ret (results_none rfl _ _ _) rfl ?_;refine⟨⟨_,rfl⟩,.inr ⟨_,?_,hJx3⟩⟩;rw[<-tg];exact(Ms eU (by omega)).trans (eh _ _)
  ·obtain rfl:ul=k:=by omega
   have hb4:wr.cell? ⟨bb,4,none⟩=some (.slice lbase ll lc):=by simp[World.cell?,hc hnx]
   gi_wp2
   gi_loopw [31] (fun i wr=>∃k:Nat,k<=ll/\i=.int .i64 k/\J (upE eU ul++upE eL k) wr/\Below n₀ W wr)
    (fun i _=>ll-(intOf i).toNat)
   case atStart=>exact⟨0,dU _,rfl,by simpa[upE] using hJs,hnx⟩
   case round =>
    clear hJs hnx;obtain⟨k,hk,rfl,hJs,hnx⟩:=hrel
    by_cases hlt:k<ll
    ·have q0:wr.cell? ⟨bb,0,none⟩=some flo:=by simp[World.cell?,hc hnx]
     have q1:wr.cell? ⟨bb,1,none⟩=some fhi:=by simp[World.cell?,hc hnx]
     have q2:wr.cell? ⟨bb,2,none⟩=some ga:=by simp[World.cell?,hc hnx]
     have q3:wr.cell? ⟨bb,3,none⟩=some (.slice ubase ul uc):=by simp[World.cell?,hc hnx]
     have q4:wr.cell? ⟨bb,4,none⟩=some (.slice lbase ll lc):=by simp[World.cell?,hc hnx]
     have q5:wr.cell? ⟨bb,5,none⟩=some (.slice cbase cl cc):=by simp[World.cell?,hc hnx]
     have q6:wr.cell? ⟨bb,6,none⟩=some (.slice kbase kl kc):=by simp[World.cell?,hc hnx]
     have hs':=(hnx.cell (p:=⟨sb,0,none⟩) hsb).trans hs
     gi_wp2
     refine⟨trivial,(cL k hlt _ hnx).mono ?_⟩;rintro e W2 ⟨rfl,hg2⟩;obtain⟨fn,tmps,assign,body,hy,hR⟩:=hY _ (eL k) W2 (hJ _ _ _ hJs hg2) (by simp only[cZ,BZ]; omega);have hb2:=bel hnx hg2
     gi_wp2
     refine hR.mono ?_;rintro e W3 (⟨rfl,hJ3,hk3⟩|⟨rfl,hJx3⟩)
     ·gi_wp2
      go_roundw
      case rel=>exact⟨k+1,by omega,by simp,by rw[tg,<-dg]; exact hJ3,hb2.trans hk3⟩
      case measure=>simp[intOf]; omega
     ·gi_wp2
      refine bodyPost_ret (results_none rfl _ _ _) rfl ?_;refine⟨⟨_,rfl⟩,.inr ⟨_,?_,hJx3⟩⟩;rw[dg,<-tg];exact(eX _).2 ((Ms eL (by omega)).trans (eh _ _))
    ·obtain rfl:ll=k:=by omega
     have hb5:wr.cell? ⟨bb,5,none⟩=some (.slice cbase cl cc):=by simp[World.cell?,hc hnx]
     gi_wp2
     gi_loopw [45] (fun i wr=>∃k:Nat,k<=cl/\i=.int .i64 k/\J (upE eU ul++upE eL ll++upE eC k) wr/\Below n₀ W wr)
      (fun i _=>cl-(intOf i).toNat)
     case atStart=>exact⟨0,dU _,rfl,by simpa[upE] using hJs,hnx⟩
     case round =>
      clear hJs hnx;obtain⟨k,hk,rfl,hJs,hnx⟩:=hrel
      by_cases hlt:k<cl
      ·have q0:wr.cell? ⟨bb,0,none⟩=some flo:=by simp[World.cell?,hc hnx]
       have q1:wr.cell? ⟨bb,1,none⟩=some fhi:=by simp[World.cell?,hc hnx]
       have q2:wr.cell? ⟨bb,2,none⟩=some ga:=by simp[World.cell?,hc hnx]
       have q3:wr.cell? ⟨bb,3,none⟩=some (.slice ubase ul uc):=by simp[World.cell?,hc hnx]
       have q4:wr.cell? ⟨bb,4,none⟩=some (.slice lbase ll lc):=by simp[World.cell?,hc hnx]
       have q5:wr.cell? ⟨bb,5,none⟩=some (.slice cbase cl cc):=by simp[World.cell?,hc hnx]
       have q6:wr.cell? ⟨bb,6,none⟩=some (.slice kbase kl kc):=by simp[World.cell?,hc hnx]
       have hs':=(hnx.cell (p:=⟨sb,0,none⟩) hsb).trans hs
       gi_wp2
       refine⟨trivial,(cC k hlt _ hnx).mono ?_⟩;rintro e W2 ⟨rfl,hg2⟩;obtain⟨fn,tmps,assign,body,hy,hR⟩:=hY _ (eC k) W2 (hJ _ _ _ hJs hg2) (by simp only[cZ,BZ]; omega);have hb2:=bel hnx hg2
       gi_wp2
       refine hR.mono ?_;rintro e W3 (⟨rfl,hJ3,hk3⟩|⟨rfl,hJx3⟩)
       ·gi_wp2
        go_roundw
        case rel=>exact⟨k+1,by omega,by simp,by rw[tg,<-dg]; exact hJ3,hb2.trans hk3⟩
        case measure=>simp[intOf]; omega
       ·gi_wp2
        refine bodyPost_ret (results_none rfl _ _ _) rfl ?_;refine⟨⟨_,rfl⟩,.inr ⟨_,?_,hJx3⟩⟩;rw[dg,<-tg]
        exact by rw[dg]; exact(eX _).2 ((eX _).2 ((Ms eC (by omega)).trans (eh _ _)))
      ·obtain rfl:cl=k:=by omega
       have hb6:wr.cell? ⟨bb,6,none⟩=some (.slice kbase kl kc):=by simp[World.cell?,hc hnx]
       gi_wp2
       gi_loopw [59] (fun i wr=>∃k:Nat,k<=kl/\i=.int .i64 k/\J ((upE eU ul++upE eL ll++upE eC cl)++upE eK k) wr/\Below n₀ W wr)
        (fun i _=>kl-(intOf i).toNat)
       case atStart=>exact⟨0,dU _,rfl,by simpa[upE] using hJs,hnx⟩
       case round =>
        clear hJs hnx;obtain⟨k,hk,rfl,hJs,hnx⟩:=hrel
        by_cases hlt:k<kl
        ·obtain⟨rfl,hlk⟩:=hkb (by omega);have hu1:=(hnx.cell (p:=⟨kb,ko+k*2,none⟩) hlk).trans (hK k hlt).1;have hu2:=(hnx.cell (p:=⟨kb,ko+k*2+1,none⟩) hlk).trans (hK k hlt).2;have ht':=(hnx.cell (p:=⟨tb,0,none⟩) htb).trans ht;have hta:∀o,(wr.alloc o).cell? ⟨tb,0,none⟩=some (.func (.func 196) #[] #[.pointer (some ⟨sb,0,none⟩)]):=fun o=>Lib.cell?_alloc_some _ ht'
         gi_wp2
         refine⟨trivial,(cK k hlt _ (bel hnx (grown_alloc _ _))).mono ?_⟩;rintro e W2 ⟨rfl,hg2⟩;obtain⟨fn,tmps,assign,body,hy,hR⟩:=hY _ (eK k) W2 (hJ _ _ _ (hJ _ _ _ hJs (grown_alloc _ _)) hg2) (by simp only[cZ,BZ]; omega);have hb2:=bel (bel hnx (grown_alloc _ _)) hg2
         gi_wp2
         refine hR.mono ?_;rintro e W3 (⟨rfl,hJ3,hk3⟩|⟨rfl,hJx3⟩)
         ·gi_wp2
          go_roundw
          case rel=>exact⟨k+1,by omega,by simp,by rw[tg,<-dg]; exact hJ3,hb2.trans hk3⟩
          case measure=>simp[intOf]; omega
         ·gi_wp2
          refine bodyPost_ret (results_none rfl _ _ _) rfl ?_;refine⟨⟨_,rfl⟩,.inr ⟨_,?_,hJx3⟩⟩;rw[dg,<-tg,dg,dg];exact(eX _).2 ((eX _).2 ((eX _).2 (Ms eK (by omega))))
        ·obtain rfl:kl=k:=by omega
         gi_wp2
         go_end0
         exact⟨⟨_,rfl⟩,.inl ⟨_,rfl,by simpa[dg] using hJs⟩⟩
end Go.Proofs
end

noncomputable section
set_option maxRecDepth 100000
namespace Go.Proofs.ZzM
open Go Go.Am Go.RowKit
def ac4 (p:String):Code:=.region 10 #[{dst:=some 5,op:=.assign (.tmp 49),type:=37,pos:=p,after:=#[],guard:=none}] false
def amG (q r:String):Code:=.block 1 (.seq (.region 11 #[{dst:=some 50,op:=.move (.tmp 5),type:=37,pos:=q,after:=#[],guard:=none},{dst:=some 51,op:=.binOp .neq 37 (.tmp 50) (.const (.int .i64 0)) 37,type:=4,pos:=q,after:=#[{on:=0,ground:=.data}],guard:=none}] false)
 (.cond (.tmp 51) (.seq (.region 12 #[{dst:=some 52,op:=.move (.tmp 5),type:=37,pos:=r,after:=#[],guard:=none},{dst:=none,op:=.store 37 (.tmp 2) (.tmp 52),type:=0,pos:=r,after:=#[{on:=0,ground:=.data},{on:=0,ground:=.phase}],guard:=none}] false) .ret) .skip))
section
variable {P:Program} {F:Fence} {n:Nat}
def Gr {b:Array Oper} {i d:Nat} {o:Oper} {u:Value} {w w':World} {a:Act} {next:Act->World->Prop} {Q:Exit->Act->World->Prop} (m:∀f,F.fn f) (j:b[i]?=some o) (l:o.guard=none) (hd:o.dst=some d) (g:∀c,o.op≠.defer c)
 (e:(execOp a.eval o).run P w=.ok (.value u) w') (k:next (a.put (some d) u) w'):wpOpIn F n P b Q i next a w:=by
 unfold wpOpIn;rw[j]
 have h:Region.wanted o (yielded b a.tmps)=true:=by simp[Region.wanted,l]
 simp only[h,if_true];refine⟨fun _ _=>m _,?_⟩;rw[Oper.semAt_eq _ _ _ g,e];rw[<-hd] at k;exact k
def afm {b:Array Oper} {i:Nat} {o:Oper} {w w':World} {a:Act} {next:Act->World->Prop} {Q:Exit->Act->World->Prop} (l:∀f,F.fn f) (h:b[i]?=some o) (j:o.guard=none) (hd:o.dst=none) (e:∀c,o.op≠.defer c)
 (d:(execOp a.eval o).run P w=.ok .skip w') (k:next a w'):wpOpIn F n P b Q i next a w:=by
 unfold wpOpIn;rw[h]
 have g:Region.wanted o (yielded b a.tmps)=true:=by simp[Region.wanted,j]
 simp only[g,if_true];refine⟨fun _ _=>l _,?_⟩;rw[Oper.semAt_eq _ _ _ e,d];show next (a.put o.dst undef) w';rw[hd];exact k
end
def kR (T:Array Value) (i j:Nat) (v:Value):(T.setIfInBounds i v).getD j undef=if i=j/\i<T.size then v else T.getD j undef:=by
 simp only[eF,fV]
 by_cases h:i=j
 ·subst h
  by_cases h2:i<T.size
  ·simp[h2]
  ·simp[h2]
 ·simp[h]
noncomputable def mark (D:Nat):Deferred:={target:=.collected D,args:=#[]}
structure Put1 (n₀ rb:Nat) (x:Int) (w W:World):Prop where
 os:W.os=w.os
 tape:W.tape=w.tape
 output:W.output=w.output
 size:w.heap.size<=W.heap.size
 block:∀k,k<n₀->k≠rb->W.heap[k]?=w.heap[k]?
 cell:∃e,W.heap[rb]?=some (.cells #[.int .i64 x] e (0,0))
set_option maxHeartbeats 4000000 in
def ant {a:Act} {w:World} {Q:Exit->Act->World->Prop} {lb:Array Value} {L:CK Int} {rb:Nat} {e0:TypeId} {v0:Value} {p q r:String}
 (O:SeqStopsK Fence.wide 1 Tryz.prog 199 lb (fun x:Int=>#[.int .i64 x]) (Below w.heap.size) (fun xs=>xs=L) (fun i=>i <+: L) L.length w)
 (hg:a.tmps.getD 48 undef=.func (.func 199) #[] lb) (h2:a.tmps.getD 2 undef=.pointer (some ⟨rb,0,none⟩)) (hsz:78<=a.tmps.size)
 (U:w.heap[rb]?=some (.cells #[v0] e0 (0,0)))
 (z:∀D W,(∀x∈L,x=0)->Below w.heap.size w W->w.heap.size<=D->W.heap[D]?=some (.deferred (some []))->Q .normal {a with defers:=mark D::a.defers} W)
 (m:∀D W x,L.find? (fun e=>e != 0)=some x->Put1 w.heap.size rb x w W->w.heap.size<=D->W.heap[D]?=some (.deferred (some []))->Q .ret {a with defers:=mark D::a.defers} W) :
 (Code.rangeFunc (.tmp 48) #[49] (ac4 p) (amG q r)).wpIn Fence.wide 2 Tryz.prog Q a w:=by
 have X:∀f,Fence.wide.fn f:=fun _=>trivial;have R:=ħ U
 refine wpIn_rangeFunc_ownF (α:=Int) (encs:=fun x=>#[.int .i64 x]) (Kp:=Below w.heap.size) (S:=fun xs=>xs=L) (Sp:=fun i=>i <+: L) (N:=L.length) (w0:=w) rfl (by omega) hg trivial (fun args w=>?eg) O
  (fun h k=>h.trans k) (fun W l o o' hl ho hc hw=>belowK_b (cX _) W l o o' hl ho hc hw) (Below.refl _ _) (fun _=>rfl)
  (fun i W=>(∀x∈i,x=0)/\Below w.heap.size w W)
  (fun c i W=>c=.ret/\∃j x,i=j++[x]/\(∀x∈j,x=0)/\x≠0/\Put1 w.heap.size rb x w W)
  ?hI ?hIx ⟨by simp,Below.refl _ _⟩ (fun x=>{tmps:=(a.tmps.setIfInBounds 49 (.int .i64 x)).setIfInBounds 5 (.int .i64 x),defers:=[]}) ?hassign ?hbody ?z ?m
 case eg=>simp[callFunc,Sem.run_bind,run_program,Result.andThen_ok,Tryz.func199,plain 199 _ Tryz.func199,show Tryz.f199.body.isNone=false from rfl]; rfl
 case hI =>
  intro s W W' row ⟨E,h2⟩ g hr;exact⟨E,g.os.trans h2.os,g.tape.trans h2.tape,g.output.trans h2.output,du h2.size g.size,fun k A=>(g.block k (dr A h2.size) (fun e=>by have:=(hr k e.symm).1; omega)).trans (h2.block k A)⟩
 case hIx =>
  intro c s W W' row ⟨E,j,x,h3,h4,h5,C⟩ g hr;have hb:∀k,k<w.heap.size->W'.heap[k]?=W.heap[k]?:=fun k A=>g.block k (dr A C.size) (fun e=>by have:=(hr k e.symm).1; omega)
  exact⟨E,j,x,h3,h4,h5,g.os.trans C.os,g.tape.trans C.tape,g.output.trans C.output,du C.size g.size,fun k A G=>(hb k A).trans (C.block k A G),by
   obtain⟨e,he⟩:=C.cell
   exact⟨e,(hb rb R).trans he⟩⟩
 case hassign =>
  intro l x W K hK
  have hf:((#[49]:Array Tmp).zip #[Value.int .i64 x]).foldl (fun t (p,v)=>t.setIfInBounds p v) a.tmps=a.tmps.setIfInBounds 49 (.int .i64 x):=by simp
  rw[hf];refine wpIn_region ?_;rw[show ∀o:Oper,List.range (#[o]:Array Oper).size=[0] from fun _=>rfl,wpOpsIn_cons];refine Gr (d:=5) (u:=.int .i64 x) (w':=W) X rfl rfl rfl (by simp) ?_ hK;show Result.ok (Next.value ((a.tmps.setIfInBounds 49 (.int .i64 x)).getD 49 undef)) W=_;rw[kR,if_pos ⟨rfl,by omega⟩]
 case hbody =>
  intro l i x W ⟨E,hbel⟩ hpre;refine wpIn_block (wpIn_seq (wpIn_region ?_));rw[show ∀o p:Oper,List.range (#[o,p]:Array Oper).size=[0,1] from fun _ _=>rfl,wpOpsIn_cons]
  refine Gr (d:=50) (u:=.int .i64 x) (w':=W) X rfl rfl rfl (by simp) (by
   show Result.ok (Next.value (((a.tmps.setIfInBounds 49 (.int .i64 x)).setIfInBounds 5 (.int .i64 x)).getD 5 undef)) W=_
   rw[kR,if_pos ⟨rfl,by simp; omega⟩]) ?_
  rw[wpOpsIn_cons]
  refine Gr (d:=51) (u:=.bool (x != 0)) (w':=W) X rfl rfl rfl (by simp) (by
   show((do let u <-(do eqGuard .neq 37 (.tmp 50) (.const (.int .i64 0)) ((((a.tmps.setIfInBounds 49 (.int .i64 x)).setIfInBounds 5 (.int .i64 x)).setIfInBounds 50 (.int .i64 x)).getD 50 undef) (.int .i64 0); binOp .neq 37 ((((a.tmps.setIfInBounds 49 (.int .i64 x)).setIfInBounds 5 (.int .i64 x)).setIfInBounds 50 (.int .i64 x)).getD 50 undef) (.int .i64 0)); pure (.value u)):Sem Next).run Tryz.prog W=_;rw[kR,if_pos ⟨rfl,by simp; omega⟩]
   simp[eqGuard,binOp,Op.intCmp]) ?_
  show Code.wpIn (Fence.wide.inRound l) (2-1-1) Tryz.prog (Code.cond (.tmp 51) _ .skip) _ {tmps:=((((a.tmps.setIfInBounds 49 (.int .i64 x)).setIfInBounds 5 (.int .i64 x)).setIfInBounds 50 (.int .i64 x)).setIfInBounds 51 (.bool (x != 0))),defers:=[]} W;obtain⟨T,B⟩:∃T,T=((((a.tmps.setIfInBounds 49 (.int .i64 x)).setIfInBounds 5 (.int .i64 x)).setIfInBounds 50 (.int .i64 x)).setIfInBounds 51 (.bool (x != 0))):=⟨_,rfl⟩;rw[<-B]
  have J:T.getD 51 undef=.bool (x != 0):=by rw[B,kR,if_pos ⟨rfl,by simp; omega⟩]
  have t5:T.getD 5 undef=.int .i64 x:=by rw[B,kR,if_neg (by simp),kR,if_neg (by simp),kR,if_pos ⟨rfl,by simp; omega⟩]
  have t2:T.getD 2 undef=.pointer (some ⟨rb,0,none⟩):=by rw[B,kR,if_neg (by simp),kR,if_neg (by simp),kR,if_neg (by simp),kR,if_neg (by simp),h2]
  have tsz:78<=T.size:=by rw[B]; simpa using hsz
  clear B
  by_cases Y:x=0
  ·have I:Act.eval {tmps:=T,defers:=[]} (.tmp 51)=.bool false:=J.trans (by simp[Y]);refine wpIn_cond_false I (wpIn_skip ?_);simp only[Exit.inBlock,ownPostK];exact⟨KeepsOthers.refl _,Below.refl _ _,fun y hy=>(de.1 hy).elim (E y) (fun h=>by rw[dh] at h; rw[h,Y]),hbel⟩
  ·have I:Act.eval {tmps:=T,defers:=[]} (.tmp 51)=.bool true:=J.trans (by simp[Y]);refine wpIn_cond_true I (wpIn_seq (wpIn_region ?_));rw[show ∀o p:Oper,List.range (#[o,p]:Array Oper).size=[0,1] from fun _ _=>rfl,wpOpsIn_cons]
   have e5:(execOp (Act.eval {tmps:=T,defers:=[]}) {dst:=some 52,op:=.move (.tmp 5),type:=37,pos:=r,after:=#[],guard:=none}).run Tryz.prog W=.ok (.value (.int .i64 x)) W:=by
    show Result.ok (Next.value (T.getD 5 undef)) W=_;rw[t5]
   refine Gr (d:=52) (u:=.int .i64 x) (w':=W) X rfl rfl rfl (by simp) e5 ?_;rw[wpOpsIn_cons];have hW:W.heap[rb]?=some (.cells #[v0] e0 (0,0)):=(hbel.block rb R).trans U
   letI:Ghost:=(Gk (fun _=>False) [] (none))
   have hst:=zE (P:=Tryz.prog) (w:=W) (t:=37) (u:=.int .i64 x) (n:=1) (b:=rb) (o:=0) (by kernel_rfl) rfl hW (by simp) (by simp[Value.cells,Value.oneCell'])
   have M:(storeVar 37 ⟨rb,0,none⟩ (.int .i64 x)).run Tryz.prog W=.ok () (W.setRow rb #[.int .i64 x]):=by simpa[Value.cells] using hst
   have Z:(T.setIfInBounds 52 (.int .i64 x)).getD 52 undef=.int .i64 x:=by rw[kR,if_pos ⟨rfl,by omega⟩]
   have t2':(T.setIfInBounds 52 (.int .i64 x)).getD 2 undef=.pointer (some ⟨rb,0,none⟩):=by rw[kR,if_neg (by simp),t2]
   have e6:(execOp (Act.eval {tmps:=T.setIfInBounds 52 (.int .i64 x),defers:=[]}) {dst:=none,op:=.store 37 (.tmp 2) (.tmp 52),type:=0,pos:=r,after:=#[{on:=0,ground:=.data},{on:=0,ground:=.phase}],guard:=none}).run Tryz.prog W=.ok .skip (W.setRow rb #[.int .i64 x]):=by
    show((do Instr.storeAt 37 ((T.setIfInBounds 52 (.int .i64 x)).getD 2 undef) ((T.setIfInBounds 52 (.int .i64 x)).getD 52 undef); pure .skip):Sem Next).run Tryz.prog W=_;rw[Z,t2'];simp[Instr.storeAt,Instr.sureAddr,M]
   refine afm (w':=W.setRow rb #[.int .i64 x]) X rfl rfl rfl (by simp) e6 ?_;refine wpIn_ret ?_;simp only[Exit.inBlock,ownPostK];refine⟨⟨by simp,fun k o A ho=>?_⟩,trivial,i,x,rfl,E,Y,hbel.os,hbel.tape,hbel.output,by simpa using hbel.size,fun k A G=>(setRow_other _ _ _ _ G).trans (hbel.block k A),⟨_,setRow_heap _ _ _ _ _ _ hW⟩⟩
   by_cases V:k=rb
   ·subst V; rw[hW] at A; cases A; simp[Obj.isCells] at ho
   ·rw[setRow_other _ _ _ _ V]; exact A
 case z =>
  intro D xs W hD hS ⟨E,hbel⟩ H;subst hS;exact z D W E hbel hD H
 case m =>
  intro D c i W hD hS ⟨hc,j,x,h3,h4,h5,C⟩ H;subst hc;refine wpIn_ret (m D W x ?_ C hD H);obtain⟨t,rfl⟩:=hS;rw[h3,dg,List.find?_append]
  have:List.find? (fun e=>e != 0) j=none:=ee.2 fun y hy=>by simp[h4 y hy]
  rw[this];simp[h5]
end Go.Proofs.ZzM
end

noncomputable section
set_option maxRecDepth 100000
namespace Go.Proofs.ZzM
open Go Go.Am Go.RowKit
noncomputable def fstC:Code->Code
 |.seq a _=>a
 |c=>c
noncomputable def sndC:Code->Code
 |.seq _ b=>b
 |c=>c
noncomputable def ahU:Nat->Code->Code
 |0,c=>fstC c
 |n+1,c=>ahU n (sndC c)
noncomputable def alM:Nat->Code->Code
 |0,c=>c
 |n+1,c=>alM n (sndC c)
noncomputable def ckB:Code:=Tryz.f96.body.getD .skip
noncomputable def ckA5:Code:=fstC (alM 5 ckB |> fstC)
noncomputable def ckRF:Code:=sndC (alM 5 ckB |> fstC)
noncomputable def UW:Code:=sndC (alM 5 ckB)
noncomputable def ckPre:Code:=.seq (ahU 0 ckB) (.seq (ahU 1 ckB) (.seq (ahU 2 ckB) (.seq (ahU 3 ckB) (.seq (ahU 4 ckB) ckA5))))
def am1:Tryz.f96.body=some (.seq (ahU 0 ckB) (.seq (ahU 1 ckB) (.seq (ahU 2 ckB) (.seq (ahU 3 ckB) (.seq (ahU 4 ckB) (.seq (.seq ckA5 ckRF) UW)))))):=by kernel_rfl
noncomputable def ck_pt:CK (Nat×ú):=[(156,Gn),(154,xB),(152,vG),(153,zO)]
noncomputable def ckE (ρ:Type):Env ρ:=Ø ck_pt []
abbrev ckR:Type:=Int ⊕ (CK AV×CK Blk)
noncomputable def ajA (S:St):BY Int:=match vz Tryz.prog Tryz.f96 S with
 |some v=>anv [tI] S.h v
 |none=>none
noncomputable def ckK (e:Exit) (S:St):BY ckR:=match e with
 |.ret=>match ajA S with
  |some n=>some (.inl n)
  |none=>none
 |.normal=>match decide (78<=S.t.length) with
  |true=>some (.inr ([lk S.t 1,lk S.t 2,lk S.t 48],S.h))
  |false=>none
 |_=>none
noncomputable def ckH (x:b6) (s:i4) (n:Int):CK Blk :=
 [.cells (flat Ê x),.cells [.int .i64 n],.cells (flat Ê x),.cells [.mp tI Ú s],.cells [.fn (.func 196) [] [.box 3 0]]]
noncomputable def ckM (x:b6):BY ckR :=
 Å (Κ x.1 (0:Int) (1000000:Int)) fun r1=>ifb (!r1) (some (.inl 1)) (ifb (igt (Õ x.2.1) (12:Int)) (some (.inl 2)) (ifb (igt (Õ x.2.2.1) (40:Int)) (some (.inl 2)) (ifb (igt (Õ x.2.2.2.1) (12:Int)) (some (.inl 2)) (ifb (igt (Õ x.2.2.2.2.1) (40:Int)) (some (.inl 2)) (ifb (igt (Õ x.2.2.2.2.2) (10:Int)) (some (.inl 2))
  (Å (Ż x) fun r2=>ifb (ine r2 (0:Int)) (some (.inl r2)) (Å (Ņ x) fun a=>some (.inr ([.box 0 0,.box 1 0,.fn (.func 199) [] [.box 2 0,.box 4 0,.box 3 0]],ckH x a 0)))))))))
def ck_pre (x:b6):goC (ckE ckR) (ŧ (ckE ckR) 10) 96 [] 0 0 ckPre {t:=aca [Ê] x++List.replicate 77 .any,h:=[]} ckK=ckM x:=by kernel_rfl
noncomputable def alU (ρ:Type):Env ρ:={ckE ρ with inl:=fun _=>false}
noncomputable def ckS (x:b6):BY Int :=
 Å (sN x) fun c=>ifb (igt (Õ c) (59:Int)) (some (2:Int)) (ck ((2:Int)*(Õ x.2.1)) fun n6=>ck ((Õ c)-(Õ x.2.1)) fun f=>ck ((2:Int)*f) fun e=>ck (n6+e) fun d=>ck ((2:Int)*(Õ x.2.2.2.2.1)) fun b=>ck (d+b) fun a=>ifb (igt a (300:Int)) (some (2:Int)) (some (0:Int)))
noncomputable def ckK2 (e:Exit) (S:St):BY Int:=match e with
 |.ret=>match lk S.t 2 with
  |.box 1 0=>match lkB S.h 1 with
   |.cells [.int .i64 n]=>some n
   |_=>none
  |_=>none
 |_=>none
def ck_suf (x:b6) (s:i4):goC (alU Int) (ŧ (alU Int) 10) 96 [] 0 0 UW {t:=[.any,.box 0 0,.box 1 0]++List.replicate 75 .any,h:=ckH x s 0} ckK2=ckS x:=by kernel_rfl
def alT (x:b6):ż x=match ckM x with
 |none=>none
 |some (.inl n)=>some n
 |some (.inr _)=>Å (Ņ x) fun s=>Yc (pJ x s) some (ckS x):=by
 unfold ż P4 ckM ckS
 cases Κ x.1 (0:Int) (1000000:Int) with
 |none=>rfl
 |some r1 =>
 cases r1 with
 |false=>rfl
 |true =>
 simp only[Å,ifb,dP]
 cases igt (Õ x.2.1) (12:Int) with
 |true=>rfl
 |false =>
 cases igt (Õ x.2.2.1) (40:Int) with
 |true=>rfl
 |false =>
 cases igt (Õ x.2.2.2.1) (12:Int) with
 |true=>rfl
 |false =>
 cases igt (Õ x.2.2.2.2.1) (40:Int) with
 |true=>rfl
 |false =>
 cases igt (Õ x.2.2.2.2.2) (10:Int) with
 |true=>rfl
 |false =>
 cases Ż x with
 |none=>rfl
 |some r2 =>
 simp only
 cases ine r2 (0:Int) with
 |true=>rfl
 |false =>
 cases Ņ x with
 |none=>rfl
 |some a=>rfl
def aoa {x:b6} {q:CK AV×CK Blk} (h:ckM x=some (.inr q)):((x.2.2.1:CK bx).length<=1000/\(x.2.2.2.1:CK u6).length<=1000/\(x.2.2.2.2.1:CK io).length<=1000/\(x.2.2.2.2.2:CK bx).length<=1000) /\
 ∃s,Ņ x=some s/\q=([.box 0 0,.box 1 0,.fn (.func 199) [] [.box 2 0,.box 4 0,.box 3 0]],ckH x s 0):=by
 unfold ckM at h
 cases h0:Κ x.1 (0:Int) (1000000:Int) with
 |none=>rw[h0] at h; cases h
 |some r1 =>
 rw[h0] at h
 cases r1 with
 |false=>cases h
 |true =>
 simp only[Å,ifb,dP] at h
 cases g:igt (Õ x.2.1) (12:Int) with
 |true=>rw[g] at h; cases h
 |false =>
 rw[g] at h
 cases h2:igt (Õ x.2.2.1) (40:Int) with
 |true=>rw[h2] at h; cases h
 |false =>
 rw[h2] at h
 cases c:igt (Õ x.2.2.2.1) (12:Int) with
 |true=>rw[c] at h; cases h
 |false =>
 rw[c] at h
 cases b:igt (Õ x.2.2.2.2.1) (40:Int) with
 |true=>rw[b] at h; cases h
 |false =>
 rw[b] at h
 cases a:igt (Õ x.2.2.2.2.2) (10:Int) with
 |true=>rw[a] at h; cases h
 |false =>
 rw[a] at h
 cases f:Ż x with
 |none=>rw[f] at h; cases h
 |some r2 =>
 rw[f] at h;simp only at h
 cases e:ine r2 (0:Int) with
 |true=>rw[e] at h; cases h
 |false =>
 rw[e] at h
 cases d:Ņ x with
 |none=>rw[d] at h; cases h
 |some i =>
 rw[d] at h
 have lt:∀{α:Type} (l:CK α) (n:Nat),igt (Õ l) (n:Int)=false->l.length<=n:=by
  intro α l n h;unfold Õ at h;rw[NX] at h;simp only[igt,gt_iff_lt,decide_eq_false_iff_not] at h;omega
 simp only[Option.some.injEq,Sum.inr.injEq] at h;exact⟨⟨by have:=lt x.2.2.1 40 h2; omega,by have:=lt x.2.2.2.1 12 c; omega,by have:=lt x.2.2.2.2.1 40 b; omega,by have:=lt x.2.2.2.2.2 10 a; omega⟩,i,rfl,h.symm⟩
def Gx {α β:Type} {f:α->BY β}:∀{l:CK α} {m:CK β},N3 f l=some m->m.length=l.length/\∀(i:Nat) (a:α),l[i]?=some a->∃b,m[i]?=some b/\f a=some b
 |[],m,h=>by cases h; exact⟨rfl,fun i a ha=>by simp at ha⟩
 |a::l,m,h=>by
  unfold N3 at h
  cases ha:f a with
  |none=>rw[ha] at h; cases h
  |some b =>
   rw[ha] at h
   cases d:N3 f l with
   |none=>rw[d] at h; cases h
   |some j =>
    rw[d] at h;cases h;obtain⟨g,h2⟩:=Gx d;refine⟨by simp[g],fun i c e=>?_⟩
    cases i with
    |zero=>simp at e; subst e; exact⟨b,by simp,ha⟩
    |succ i=>simpa using h2 i c (by simpa using e)
def Mu (l:CK Int):upE (fun j=>l[j]?.getD 0) l.length=l:=by
 unfold upE;refine List.ext_getElem (by simp) fun i a h2=>?_;simp at a;simp[a]
def CR.below {a:Nat} {w W:World} {av:Nat->Prop} (hb:Below a w W) (d:w.heap.size<=a) {t:Ty} {x:Val t} {vs:CK Value} (h:CR w av t x vs):CR W av t x vs :=
 h.keep fun b c ha=>⟨hb.block b (dr c d),ha⟩
def Nj {w:World} {av:Nat->Prop} {xs:CK (Int×Int)} {v:Value} (h:CR w av (.slice Ç) xs [v]):∃base cap b off,v=.slice base xs.length cap/\(0<xs.length->base=some ⟨b,off,none⟩/\b<w.heap.size) /\
 ∀j,j<xs.length->w.cell? ⟨b,off+j*2,none⟩=some (.int .i64 (xs[j]?.getD (0,0)).1)/\w.cell? ⟨b,off+j*2+1,none⟩=some (.int .i64 (xs[j]?.getD (0,0)).2):=by
 obtain⟨base,cap,e,r,a⟩:=h;cases e;rcases a with a|⟨b,off,hb,f,d,a⟩
 ·refine⟨base,cap,0,0,rfl,fun h=>?_,fun j c=>?_⟩
  ·rw[show xs=[] from a] at h; simp at h
  ·rw[show xs=[] from a] at c; simp at c
 ·refine⟨base,cap,b,off,rfl,fun _=>⟨hb,d⟩,fun j c=>?_⟩;obtain⟨us,k,h2⟩:=a j xs[j] (cV c);obtain⟨u1,u2,o,i,g⟩:=k;have m:u1=[.int .i64 xs[j].1]:=i;have l:u2=[.int .i64 xs[j].2]:=g;subst m l o;have s:(Ç).size=2:=rfl;rw[s] at h2;have q:=h2 0 _ rfl;have p:=h2 1 _ rfl;rw[cV c];exact⟨by simpa using q,by simpa[Nat.add_assoc] using p⟩
end Go.Proofs.ZzM
end

noncomputable section
set_option maxRecDepth 100000
namespace Go.Proofs.ZzM
open Go Go.Am Go.RowKit
section
variable {w W W':World}
abbrev noG:Nat->Prop:=fun _=>False
def WK (w:World) (n:Int):mz w noG tI n (.int .i64 n):=⟨[.int .i64 n],rfl,rfl⟩
def anJ {a:Nat} {b:Value} {e:TypeId} {s:i4} (h:w.heap[a]?=some (.cells #[b] e (0,0))) (c:CR w noG (.map tI Ú) s [b]):mz w noG (.ptr (.map tI Ú)) s (.pointer (some ⟨a,0,none⟩)):=by
 letI:Ghost:=(Gk (fun _=>False) [] (none))
 exact⟨[.pointer (some ⟨a,0,none⟩)],⟨a,0,[b],rfl,id,ħ h,c,CellsAt.of_cells h⟩,rfl⟩
def anu {y:Int} {u:Value} (h:RR w noG [tI] y u):u=.int .i64 y:=by
 obtain⟨us,a,rfl⟩:=h;have:us=[.int .i64 y]:=a;rw[this]; rfl
def alz (e:∀b,b<W.heap.size->W'.heap[b]?=W.heap[b]?) (h2:W.heap.size<=W'.heap.size) (d:W'.os=W.os) (c:W'.tape=W.tape) (a:W'.output=W.output):W.grownBy W' none :=
 ⟨d,c,a,h2,fun b hb _=>e b hb⟩
def Xg {f:Nat} {p:ú} (d:ja Tryz.prog f p) (a:p.rs=[tI]) {x:Val (tyL p.ts)} {y:Int} (c:p.F x=some (a▸(show Val (tyL [tI]) from y))) {vals:CK Value} (ha:AL W noG p.ts x vals) :
 CallsIn Fence.wide 0 Tryz.prog f vals.toArray W fun e b=>e=.returned (.int .i64 y)/\W.grownBy b none:=by
 obtain⟨ts,rs,F⟩:=p;dsimp only at a c ha x;subst a;refine(d noG x y c W vals (fun _ h=>h.elim) ha).2.mono fun e w' ⟨u,h0,l,h2,k,j,i,g⟩=>⟨?_,alz h2 k j i g⟩;rw[h0,anu l]
def XJ {s:i4} {a b y:Int} (i:ņ a b s=some y) {c:Nat} {f:Value} {e:TypeId} (h:W.heap[c]?=some (.cells #[f] e (0,0))) (g:CR W noG (.map tI Ú) s [f]) :
 CallsIn Fence.wide 0 Tryz.prog 196 #[.int .i64 a,.int .i64 b,.pointer (some ⟨c,0,none⟩)] W fun e d=>e=.returned (.int .i64 y)/\W.grownBy d none :=
 Xg acv rfl (x:=(a,b,s)) (y:=y) i (vals:=[.int .i64 a,.int .i64 b,.pointer (some ⟨c,0,none⟩)]) ⟨_,_,rfl,WK _ _,_,_,rfl,WK _ _,_,rfl,anJ h g⟩
def ah7 {a:Value} {s:i4} (b:CR W noG (.map tI Ú) s [a]):mz W noG (.map tI Ú) s a:=⟨[a],b,rfl⟩
def aeI {x:b6} {cs:Array Value} (hb:CR W noG Ê x cs.toList):mz W noG Ê x (.agg cs):=⟨cs.toList,hb,by show Value.agg cs=Value.agg cs.toList.toArray; rw[Array.toArray_toList]⟩
def aiz {x:b6} {s:i4} {i y:Int} (d:ε x s i=some y) {a:Value} {cs:Array Value} (hb:CR W noG Ê x cs.toList) (c:CR W noG (.map tI Ú) s [a]) :
 CallsIn Fence.wide 0 Tryz.prog 200 #[.agg cs,a,.int .i64 i] W fun e b=>e=.returned (.int .i64 y)/\W.grownBy b none :=
 Xg Xn rfl (x:=(x,s,i)) (y:=y) d (vals:=[.agg cs,a,.int .i64 i]) ⟨_,_,rfl,aeI hb,_,_,rfl,ah7 c,_,rfl,WK _ _⟩
def aar {x:b6} {s:i4} {i y:Int} (d:Ō x s i=some y) {a:Value} {cs:Array Value} (hb:CR W noG Ê x cs.toList) (c:CR W noG (.map tI Ú) s [a]) :
 CallsIn Fence.wide 0 Tryz.prog 201 #[.agg cs,a,.int .i64 i] W fun e b=>e=.returned (.int .i64 y)/\W.grownBy b none :=
 Xg Mo rfl (x:=(x,s,i)) (y:=y) d (vals:=[.agg cs,a,.int .i64 i]) ⟨_,_,rfl,aeI hb,_,_,rfl,ah7 c,_,rfl,WK _ _⟩
end
def rB {w:World} {av:Nat->Prop} {t:Ty} {xs:CK (Val t)} {vs:CK Value} (h:CR w av (.slice t) xs vs):∃base cap,vs=[.slice base xs.length cap]:=by
 obtain⟨base,cap,e,_⟩:=h;exact⟨base,cap,e⟩
def ak1 {x:b6} {s:i4} {E A z D:CK Int} (h1:N3 (fun u=>ņ u.1 u.2 s) (x.2.2.1:CK (Int×Int))=some E) (h2:N3 (fun i=>ε x s i) (zx (x.2.2.2.1:CK u6).length)=some A)
 (h3:N3 (fun i=>Ō x s i) (zx (x.2.2.2.2.1:CK io).length)=some z) (h4:N3 (fun u=>ņ u.1 u.2 s) (x.2.2.2.2.2:CK (Int×Int))=some D)
 (o:(x.2.2.1:CK bx).length<=1000/\(x.2.2.2.1:CK u6).length<=1000/\(x.2.2.2.2.1:CK io).length<=1000/\(x.2.2.2.2.2:CK bx).length<=1000)
 {w:World} {bb tb Q:Nat} {te te2 te3:TypeId} {cb:Array Value} {mv:Value} (Z:w.heap[bb]?=some (.cells cb te (0,0))) (M:CR w noG Ê x cb.toList) (Y:w.heap[tb]?=some (.cells #[.func (.func 196) #[] #[.pointer (some ⟨Q,0,none⟩)]] te2 (0,0)))
 (B:w.heap[Q]?=some (.cells #[mv] te3 (0,0))) (C:CR w noG (.map tI Ú) s [mv]) :
 SeqStopsK Fence.wide 1 Tryz.prog 199 #[.pointer (some ⟨bb,0,none⟩),.pointer (some ⟨tb,0,none⟩),.pointer (some ⟨Q,0,none⟩)] (fun x:Int=>#[.int .i64 x]) (Below w.heap.size) (fun xs=>xs=E++(A++(z++D))) (fun m=>m <+: (E++(A++(z++D)))) (E++(A++(z++D))).length w:=by
 intro l J Jx W d hJ hJx hY h0;obtain⟨fl,r0,e0,hfl,hr0⟩:=id M;obtain⟨ga,r1,e1,hga,hr1⟩:=hr0;obtain⟨us,r2,e2,G,hr2⟩:=hr1;obtain⟨lo,r3,e3,hlo,hr3⟩:=hr2;obtain⟨co,ko,e4,hco,I⟩:=hr3;obtain⟨f1,f2,e5,hf1,hf2⟩:=hfl;have e6:f1=[.int .i64 x.1.1]:=hf1;have e7:f2=[.int .i64 x.1.2]:=hf2;obtain⟨gab,gac,e8⟩:=rB hga;obtain⟨U,T,e9⟩:=rB hlo;obtain⟨cob,coc,e10⟩:=rB hco;obtain⟨usb0,usc0,O⟩:=rB G;obtain⟨kob0,koc0,N⟩:=rB I;rw[O] at G;rw[N] at I;obtain⟨S,R,ub,uo,e13,H,hU⟩:=Nj G;obtain⟨X,V,kb,kof,e14,K,hK⟩:=Nj I;rw[e13] at O;rw[e14] at N
 have L:cb=#[.int .i64 x.1.1,.int .i64 x.1.2,.slice gab (x.2.1:CK pc).length gac,.slice S (x.2.2.1:CK bx).length R,.slice U (x.2.2.2.1:CK u6).length T,.slice cob (x.2.2.2.2.1:CK io).length coc,.slice X (x.2.2.2.2.2:CK bx).length V]:=by
  rw[<-eN,e0,e1,e2,e3,e4,e5,e6,e7,e8,e9,e10,O,N];rfl
 obtain⟨g1,q1⟩:=Gx h1;obtain⟨g2,q2⟩:=Gx h2;obtain⟨g3,q3⟩:=Gx h3;obtain⟨g4,q4⟩:=Gx h4
 have gl2:A.length=(x.2.2.2.1:CK u6).length:=by rw[g2]; simp[zx]
 have gl3:z.length=(x.2.2.2.2.1:CK io).length:=by rw[g3]; simp[zx]
 have up1:upE (fun j=>E[j]?.getD 0) (x.2.2.1:CK bx).length=E:=by rw[<-g1]; exact Mu E
 have up2:upE (fun j=>A[j]?.getD 0) (x.2.2.2.1:CK u6).length=A:=by rw[<-gl2]; exact Mu A
 have up3:upE (fun j=>z[j]?.getD 0) (x.2.2.2.2.1:CK io).length=z:=by rw[<-gl3]; exact Mu z
 have up4:upE (fun j=>D[j]?.getD 0) (x.2.2.2.2.2:CK bx).length=D:=by rw[<-g4]; exact Mu D
 have at1:∀{xs:CK (Int×Int)} {q:CK Int},(∀(i:Nat) (a:Int×Int),xs[i]?=some a->∃b,q[i]?=some b/\ņ a.1 a.2 s=some b)->∀j,j<xs.length->ņ (xs[j]?.getD (0,0)).1 (xs[j]?.getD (0,0)).2 s=some (q[j]?.getD 0):=by
  intro xs q hq j k;obtain⟨b,hb,hf⟩:=hq j xs[j] (cV k);rw[cV k,hb];exact hf
 have at2:∀{n:Nat} {q:CK Int} {f:Int->BY Int},(∀(i:Nat) (a:Int),(zx n)[i]?=some a->∃b,q[i]?=some b/\f a=some b)->∀j,j<n->f (j:Int)=some (q[j]?.getD 0):=by
  intro n q f hq j k;obtain⟨b,hb,hf⟩:=hq j j (by simp[zx,k]);rw[hb]; exact hf
 have c:∀{W':World},Below w.heap.size W W'->Below w.heap.size w W':=fun h=>d.trans h;have g:∀{W':World} {p:Addr} {v:Value},Below w.heap.size w W'->w.cell? p=some v->p.block<w.heap.size->W'.cell? p=some v:=fun {W'} {p} {v} h hc hp=>(h.cell (p:=p) hp).trans hc;have lb:=ħ Z;have lt:=ħ Y;have q:=ħ B
 have:=alb te 1 (by omega) l w.heap.size bb tb Q (.int .i64 x.1.1) (.int .i64 x.1.2) (.slice gab (x.2.1:CK pc).length gac) mv lb lt q
  ub uo (x.2.2.1:CK bx).length R kb kof (x.2.2.2.2.2:CK bx).length V S X U cob (x.2.2.2.1:CK u6).length T (x.2.2.2.2.1:CK io).length coc H K
  (fun j=>(x.2.2.1:CK (Int×Int))[j]?.getD (0,0)) (fun j=>(x.2.2.2.2.2:CK (Int×Int))[j]?.getD (0,0)) (fun j=>E[j]?.getD 0) (fun j=>A[j]?.getD 0) (fun j=>z[j]?.getD 0) (fun j=>D[j]?.getD 0)
  o.1 o.2.1 o.2.2.1 o.2.2.2 W ((d.block bb lb).trans (by rw[Z,L])) (g d (by simp[World.cell?,Y]) lt) (g d (by simp[World.cell?,B]) q)
  (fun j k=>⟨g d (hU j k).1 (H (by omega)).2,g d (hU j k).2 (H (by omega)).2⟩) (fun j k=>⟨g d (hK j k).1 (K (by omega)).2,g d (hK j k).2 (K (by omega)).2⟩)
  (fun j k W' t=>XJ (at1 q1 j k) (((c t).block Q q).trans B) (CR.below (c t) (cX _) C))
  (fun j k W' t=>XJ (at1 q4 j k) (((c t).block Q q).trans B) (CR.below (c t) (cX _) C))
  (fun j k W' t=>aiz (at2 q2 j k) (by have:=CR.below (c t) (cX _) M; rwa [L] at this) (CR.below (c t) (cX _) C))
  (fun j k W' t=>aar (at2 q3 j k) (by have:=CR.below (c t) (cX _) M; rwa [L] at this) (CR.below (c t) (cX _) C))
  J Jx (fun m W1 W2 k hg=>hJ m W1 W2 none k hg (fun r e=>by cases e)) (fun m W1 W2 k hg=>hJx m W1 W2 none k hg (fun r e=>by cases e))
  (fun m y W1 k hl=>hY m y W1 k (by simp only[cZ]; omega)) h0 d.size
 rw[up1,up2,up3,up4] at this;exact this
end Go.Proofs.ZzM
end

noncomputable section
set_option maxRecDepth 100000
namespace Go.Proofs.ZzM
open Go Go.Am Go.RowKit
section
variable [Ghost] {ρ:Type} {ν:Nat->Value} {w:World}
def peel (k:Ghost.Q=none) {E:Env ρ} {call:CK Nat->Bool->Nat->CK AV->CK Blk->(AV->CK Blk->BY ρ)->BY ρ} {L:Nat} (s:nH E L call) (t:xp E L call) (p:E.joins=fun _ _ _ _=>none) {fid:Nat} {path:CK Nat} (m:path.length+2=L) {x y c:Code} {bid n:Nat} {S:St} {K:Exit->St->BY ρ} {r:ρ} {a:Act} {Q:Exit->Act->World->Prop}
 (q:∀z∈ß bid x,uZ E path fid z.1 z.2) (e:goC E call fid path 0 bid (.seq x y) S K=some r) (H:Sim ν S a w)
 (o:∀ν' b d w',Sim ν' b d w'->Ev 0 ν S.h w ν' b.h w'->goC E call fid path 0 bid y b K=some r->c.wpIn Fence.wide n E.P Q d w')
 (i:∀ν' b d w' e,e≠.normal->Sim ν' b d w'->Ev 0 ν S.h w ν' b.h w'->K e b=some r->Q e d w'):(Code.seq x c).wpIn Fence.wide n E.P Q a w:=by
 simp only[goC,p] at e;have j:=wL s t m x bid S _ ν a w q e H (dU _);rw[aep k] at j;refine wpIn_seq (wpIn_wide.2 (wpIn_wide.1 (wpIn_mono j fun u d w' ha=>?_)));obtain⟨ν',b,g,h2,A,v,f⟩:=ha
 cases u with
 |normal=>exact o ν' b d w' g h2 f
 |exit id=>exact i ν' b d w' _ (by simp) g h2 f
 |goto l=>exact i ν' b d w' _ (by simp) g h2 f
 |ret=>exact i ν' b d w' _ (by simp) g h2 f
 |panic ch=>exact i ν' b d w' _ (by simp) g h2 f
 |outgrown=>exact i ν' b d w' _ (by simp) g h2 f
end
def ahp {T:Array Value} {rb:Nat} {n:Int} {e:TypeId} {W:World} (h2:T.getD 2 undef=.pointer (some ⟨rb,0,none⟩)) (f:W.heap[rb]?=some (.cells #[.int .i64 n] e (0,0))):(results Tryz.f96 T).run Tryz.prog W=.ok (.int .i64 n) W:=by
 letI:Ghost:=(Gk (fun _=>False) [] (none))
 have d:(loadVar 37 ⟨rb,0,none⟩).run Tryz.prog W=.ok (.int .i64 n) W:=by
  have:=run_loadVar (P:=Tryz.prog) (w:=W) (t:=37) (agg:=false) (n:=1) (by kernel_rfl) (us:=[.int .i64 n]) rfl (fun _=>rfl) (a:=⟨rb,0,none⟩) (fun j v b=>by
   have:=CellsAt.of_cells f j v (by simpa using b)
   cases j with
   |zero=>simpa[Addr.add] using this
   |succ j=>simp at b)
  exact this
 have c:Tryz.f96.results=#[.cell 2 37]:=by kernel_rfl
 unfold results;rw[c,Array.mapM_eq_mapM_toList];simp only[Sem.run_bind,Sem.run_map,List.mapM_cons,List.mapM_nil,h2,asAddr,Sem.run_pure,Result.andThen_ok,d];rfl
@[reducible] def gck (G:Nat->Prop) (M:Nat):Ghost:=(Gh G).re G [] none M
def aoh [Ghost] {ν:Nat->Value} {h:CK Blk} {w:World} {x:b6} {us:CK Value} (a:ĕ (VRc ν h w) (flat Ê x) us):CR w noG Ê x us:=by
 have e:Ü Ê (flat Ê x)=some x:=rfl;have h2:ĕ (VRs w (Av ν h)) (flat Ê x) us:=a.mono fun c u b=>b.1.data;exact CR.mono (fun _ d=>d.elim) (Ĥ e h2)
def EF (G:Nat->Prop) (y:Int) (w:World) (e:Ending) (w':World):Prop :=
 ∃u,e=.returned u/\RR w' G [tI] y u/\(∀b,b<w.heap.size->w'.heap[b]?=w.heap[b]?)/\w.heap.size<=w'.heap.size/\w'.os=w.os/\w'.tape=w.tape/\w'.output=w.output
def aev {G:Nat->Prop} {y:Int} {w0 w:World} {a:Act} {ms:CK Nat} {rb:Nat} {e:TypeId} (hd:a.defers=ms.map mk1) (q:ms.Nodup) (i:∀k∈ms,w.heap[k]?=some (.deferred (some []))/\w0.heap.size<=k) (h2:a.tmps.getD 2 undef=.pointer (some ⟨rb,0,none⟩)) (g:w.heap[rb]?=some (.cells #[.int .i64 y] e (0,0)))
 (hb:∀b,b<w0.heap.size->w.heap[b]?=w0.heap[b]?) (c:w0.heap.size<=w.heap.size) (v:w.os=w0.os) (u:w.tape=w0.tape) (t:w.output=w0.output):LeavesInM Fence.wide 2 Tryz.prog Tryz.f96 a.tmps (EF G y w0) a.defers .returning w:=by
 rw[hd]
 have d:rb∉ms:=fun h=>by rw[(i rb h).1] at g; cases g
 refine uO ms w q (fun k s=>(i k s).1) fun w2 p o m l j=>?_;exact⟨.int .i64 y,ahp h2 ((j rb d).trans g),.int .i64 y,rfl,⟨[.int .i64 y],rfl,rfl⟩,fun b f=>(j b fun r=>by have:=(i b r).2; omega).trans (hb b f),by rw[p]; exact c,o.trans v,m.trans u,l.trans t⟩
def aob (S:St):ckK .ret S=(ajA S).map .inl:=by
 unfold ckK
 cases ajA S<;>rfl
def af9 (S:St):ckK .normal S=if decide (78<=S.t.length)=true then some (.inr ([lk S.t 1,lk S.t 2,lk S.t 48],S.h)) else none:=by
 unfold ckK
 cases decide (78<=S.t.length)<;>rfl
def ml [Ghost] {ρ:Type} {E:Env ρ} (h0:E.loops=kO []) (c:E.ranges=fun _ _ _ _ _ _ _=>none) {path:CK Nat} {fid bid:Nat} {b:LI}:uZ E path fid bid b:=by
 cases b with
 |lp b=>exact fun m S K r ν a w e=>by rw[h0] at e; cases e
 |rf g ps x y=>exact fun m S K r ν a w e=>by rw[c] at e; cases e
def am0 {ρ:Type} (E:Env ρ) (e:E.P.follows .mixedOrders=true) (a:∀[Ghost],lR E->I7 E) (h0:E.loops=kO []) (g:E.ranges=fun _ _ _ _ _ _ _=>none) (d:E.yld=none) [Ghost]:nH E 2 (ŧ E 10) :=
 sQ a (fun L call b=>ox e L call b) (fun n h b _ _ path f fn c _ _ _ z _=>ml h0 g) 10 (cX _) (jb d)
noncomputable def anA:Code->String
 | .region _ ops _ => ((ops[0]?).map fun o => o.pos).getD ""
 | _ => ""
noncomputable def rfA:Code->Code
 |.block _ (.rangeFunc _ _ a _)=>a
 |_=>.skip
noncomputable def rfB:Code->Code
 |.block _ (.rangeFunc _ _ _ (.block _ (.seq a _)))=>a
 |_=>.skip
noncomputable def rfC:Code->Code
 |.block _ (.rangeFunc _ _ _ (.block _ (.seq _ (.cond _ (.seq a _) _))))=>a
 |_=>.skip
def an9:ckRF=Code.block 0 (Code.rangeFunc (.tmp 48) #[49] (ac4 (anA (rfA ckRF))) (amG (anA (rfB ckRF)) (anA (rfC ckRF)))):=by kernel_rfl
def amZ:∀e∈ck_pt,ja Tryz.prog e.1 e.2:=Á QZ (Á FL (Á CI (Á Q0 Ä)))
def ajB {e:Exit} {S:St} {n:Int} (h:ckK2 e S=some n):e=.ret/\lk S.t 2=.box 1 0/\lkB S.h 1=.cells [.int .i64 n]:=by
 unfold ckK2 at h
 split at h
 ·split at h
  ·rename_i h2
   split at h
   ·rename_i a;cases h;exact⟨rfl,h2,a⟩
   ·cases h
  ·cases h
 ·cases h
def Z8 [Ghost] {ν:Nat->Value} {h:CK Blk} {w:World} {n:Int} {id:Nat} (H:HR ν h w) (d:lkB h id=.cells [.int .i64 n]):∃b e,ν id=.pointer (some ⟨b,0,none⟩)/\w.heap[b]?=some (.cells #[.int .i64 n] e (0,0)):=by
 have a:=H.blk id;rw[d] at a;obtain⟨b,c,e,k,h2,j⟩:=a;obtain⟨u,i,g⟩:=j.one;have f:u=.int .i64 n:=g.1;refine⟨b,e,k,?_⟩;rw[h2]
 have:c=#[.int .i64 n]:=by rw[<-eN,i,f]
 rw[this]
def Kl [Ghost] {ν:Nat->Value} {h:CK Blk} {w:World} {id off:Nat} {v:Value} {b:Nat} (a:VR ν h w (.box id off) v) (hb:ν id=.pointer (some ⟨b,0,none⟩)):v=.pointer (some ⟨b,off,none⟩):=by
 obtain⟨cs,e,d,h2,c⟩:=a;rw[hb] at h2;cases h2;exact c
def an8 {G:Nat->Prop} {x:b6} {s:i4} {y:Int} (U:ckS x=some y) {ν:Nat->Value} {w0 w6 W:World} {a:Act} (H:@HR (gck G w0.heap.size) ν (ckH x s 0) w6) (hb:Below w6.heap.size w6 W) {ms:CK Nat} (hd:a.defers=ms.map mk1) (T:ms.Nodup) (C:∀k∈ms,W.heap[k]?=some (.deferred (some []))/\w0.heap.size<=k) (p:78<=a.tmps.size)
 (K:@VR (gck G w0.heap.size) ν (ckH x s 0) w6 (.box 0 0) (a.tmps.getD 1 undef)) (t2:@VR (gck G w0.heap.size) ν (ckH x s 0) w6 (.box 1 0) (a.tmps.getD 2 undef))
 (h0:∀b,b<w0.heap.size->w6.heap[b]?=w0.heap[b]?/\¬FT ν (ckH x s 0) b) (B:w0.heap.size<=w6.heap.size) (q:w6.os=w0.os) (X:w6.tape=w0.tape) (V:w6.output=w0.output) :
 UW.wpIn Fence.wide 2 Tryz.prog (bodyPostM Fence.wide 2 Tryz.prog Tryz.f96 (EF G y w0)) a W:=by
 have D:∀b,FT ν (ckH x s 0) b->b<w6.heap.size:=fun b I=>@HR.ltA (gck G w0.heap.size) _ _ _ H b (.inl I)
 have v:∃b,ν 0=.pointer (some ⟨b,0,none⟩)/\a.tmps.getD 1 undef=.pointer (some ⟨b,0,none⟩):=by
  obtain⟨cs,b,_,h2,q⟩:=K;exact⟨b,h2,q⟩
 have u:∃b,ν 1=.pointer (some ⟨b,0,none⟩)/\a.tmps.getD 2 undef=.pointer (some ⟨b,0,none⟩):=by
  obtain⟨cs,b,_,h2,q⟩:=t2;exact⟨b,h2,q⟩
 letI:Ghost:=gck G w0.heap.size
 have H1:HR ν (ckH x s 0) w6:=H;have H2:HR ν (ckH x s 0) W:=(H1.grow (fun b f=>hb.block b f) hb.size hb.os hb.tape hb.output 0).2;have g:∀L call,nH (alU Int) L call->xp (alU Int) L call:=ox hmix;have E:(alU Int).loops=kO []:=rfl;have d:nH (alU Int) 2 (ŧ (alU Int) 10):=am0 (alU Int) hmix (fun {_} _=>C6 amZ (alU Int) rfl rfl rfl rfl rfl (Ŕ rfl) (mb rfl) (jb rfl)) rfl rfl rfl;have law:=ck_suf x s;rw[U] at law
 have A:Sim ν {t:=[.any,.box 0 0,.box 1 0]++List.replicate 75 .any,h:=ckH x s 0} a W:=by
  refine⟨⟨⟨ms,hd.trans (dt _).symm,T,C⟩,fun l I=>(by cases I),dU _,du B hb.size⟩,by simpa using p,fun i=>?_,H2⟩;simp only[Ux];rcases i with _|_|_|i
  ·trivial
  ·obtain⟨b,j,c⟩:=v;exact⟨_,b,rfl,j,c⟩
  ·obtain⟨b,j,c⟩:=u;exact⟨_,b,rfl,j,c⟩
  ·trivial
 refine wpIn_wide.2 (wpIn_wide.1 (wpIn_mono (wL d (g _ _ d) rfl UW 0 _ _ ν a W (fun z _=>ml E rfl) law A (dU _)) fun e Z w' ha=>?_));obtain⟨ν',S',j,c,_,_,Y⟩:=ha;obtain⟨rfl,S,R⟩:=ajB Y;obtain⟨rb,te,r1,r2⟩:=Z8 j.heap R;have J:=j.tmps 2;rw[S] at J;have M:=Kl J r1;obtain⟨⟨N,m1,Q,O⟩,_⟩:=j.defers;refine aev (w:=w') (a:=Z) (G:=G) (y:=y) (w0:=w0) (rb:=rb) (m1.trans (dt _)) Q O M r2 (fun b f=>?_) (by have:=c.size; have:=hb.size; omega) (c.os.trans (hb.os.trans q)) (c.tape.trans (hb.tape.trans X)) (c.output.trans (hb.output.trans V));have r:=h0 b f
 have o:b<w6.heap.size:=by omega
 have m:b<W.heap.size:=by have:=hb.size; omega
 exact(c.keep b m r.2).1.trans ((hb.block b o).trans r.1)
set_option maxHeartbeats 2000000 in
def aga (G:Nat->Prop) (x:b6) (y:Int) (r:ż x=some y) (w:World) (vals:CK Value) (hG:∀b,G b->b<w.heap.size) (hAL:AL w G [Ê] x vals) :
 (∃fn c,Tryz.prog.funcs[96]?=some fn/\fn.body=some c)/\CallsIn Fence.wide 0 Tryz.prog 96 vals.toArray w (EF G y w):=by
 rw[alT] at r
 letI:Ghost:=gck G w.heap.size
 have hpt:=amZ;have hdraw:∀L call,nH (ckE ckR) L call->xp (ckE ckR) L call:=ox hmix;have h0:(ckE ckR).loops=kO []:=rfl;have m:nH (ckE ckR) 2 (ŧ (ckE ckR) 10):=am0 (ckE ckR) hmix (fun {_} _=>C6 hpt (ckE ckR) rfl rfl rfl rfl rfl (Ŕ rfl) (mb rfl) (jb rfl)) rfl rfl rfl;have hD:=hdraw _ _ m;have H:HR (fun _=>undef) [] w:=⟨fun _=>trivial,fun _ _ _ h=>(by cases h),hG,fun _ _ h=>(by cases h)⟩;have hav:∀b,Av (fun _=>undef) [] b->G b:=fun b hb=>hb.elim (fun⟨_,h,_⟩=>by cases h) id;have C:ĕ (VR (fun _=>undef) [] w) (aca [Ê] x) vals:=AL.VR (hAL.mono hav);refine⟨⟨Tryz.f96,_,Tryz.func96,am1⟩,?_⟩
 have hlen:vals.length=1:=by
  have:=C.length;simpa[aca,ajb] using this.symm
 cases hM:ckM x with
 |none=>rw[hM] at r; cases r
 |some r0 =>
 rw[hM] at r;have law:=ck_pre x;rw[hM] at law;refine callsIn_wide.2 (callsIn_wide.1 (callsIn_of_wp_marks (n:=2) Tryz.func96 am1 trivial ?_ (R:=EF G y w)))
 have hS:Sim (fun _=>undef) {t:=aca [Ê] x++List.replicate 77 .any,h:=[]} {tmps:=vals.toArray++Array.replicate (Tryz.f96.ntmps-vals.toArray.size) undef,defers:=[]} w:=by
  refine⟨⟨⟨[],rfl,gG,fun _ h=>(by cases h)⟩,fun l hl=>(by cases hl),dU _,cX _⟩,?_,fun i=>?_,H⟩
  ·have:Tryz.f96.ntmps=78:=by kernel_rfl
   have hl2:(aca [Ê] x).length=1:=rfl;simp[this,hlen,hl2]
  ·simp only[Ux];rcases dl i (aca [Ê] x).length with hi|hi
   ·have:=ĕ.lk (R:=VR (fun _=>undef) [] w) (fun _=>trivial) i C
    have hv:i<vals.length:=by rw[<-C.length]; exact hi
    have h2:(vals.toArray++Array.replicate (Tryz.f96.ntmps-vals.toArray.size) undef).getD i undef=vals.getD i undef:=by
     simp[eF,f8,hv]
    rw[h2]; exact this
   ·rw[alk _ _ hi]; trivial
 -- the ways out ahead of the loop
 have out:∀ν' N Y w' e,e≠.normal->Sim ν' N Y w'->Ev 0 (fun _=>undef) [] w ν' N.h w'->ckK e N=some r0->bodyPostM Fence.wide 2 Tryz.prog Tryz.f96 (EF G y w) e Y w':=by
  intro ν' N Y w' e K q E d
  cases e with
  |normal=>exact(K rfl).elim
  |ret =>
   rw[aob] at d
   cases hr:ajA N with
   |none=>rw[hr] at d; cases d
   |some n =>
    rw[hr,dZ] at d;cases d
    have hyn:n=y:=by simpa using r
    subst hyn;unfold ajA at hr
    split at hr
    ·rename_i v hv;show LeavesInM _ _ _ _ _ _ Y.defers _ _;obtain⟨⟨ms,m1,m2,m3⟩,_,m4,m5⟩:=q.defers;rw[show Y.defers=ms.map mk1 from m1.trans (dt _)];refine uO ms w' m2 (fun k d=>(m3 k d).1) fun w2 q1 q2 q3 q4 q5=>?_
     have hk2:∀(b:Nat) (o:Obj),w'.heap[b]?=some o->TI o=true\/b<(gck G w.heap.size).B->w2.heap[b]?=some o:=fun b o hb hd=>by
      have hbm:b∉ms:=fun hm=>by
       rw[(m3 b hm).1] at hb; cases hb;rcases hd with hd|hd
       ·cases hd
       ·exact absurd hd (Nat.not_lt_zero _)
      rw[q5 b hbm]; exact hb
     have KG:nF (gck G w.heap.size) ν' N.h w' (gck G w.heap.size).G w2:=nF.nds q2 q3 q4 (by omega) hk2
     have sim2:Sim ν' N {Y with defers:=[]} w2:=⟨⟨⟨[],rfl,gG,fun _ h=>(by cases h)⟩,fun l hl=>(by cases hl),dU _,by rw[q1]; exact m5⟩,q.len,fun i=>VR.step (g:=gck G w.heap.size) (D:=[]) (Q:=none) (M:=w.heap.size) KG (q.tmps i),
      HR.step (g:=gck G w.heap.size) (D:=[]) (Q:=none) (M:=w.heap.size) KG (fun b hb=>by rw[q1]; exact q.heap.ghlt b hb) (fun b hb hg=>by obtain⟨id,h1,h2⟩:=hb; exact q.heap.ghne id b h1 h2 hg) q.heap⟩
     obtain⟨u,r1,r2⟩:=Tf sim2 hv;exact⟨u,r1,u,rfl,ac5 sim2.heap [tI] r2 hr,fun b hb=>(q5 b fun hm=>by have m7:w.heap.size<=b:=(m3 b hm).2; omega).trans (E.keep b hb fun⟨_,h,_⟩=>by cases h).1,by rw[q1]; exact E.size,q2.trans E.os,q3.trans E.tape,q4.trans E.output⟩
    ·cases hr
  |exit id=>cases d
  |goto l=>cases d
  |panic ch=>cases d
  |outgrown=>cases d
 have I:∀{U:Nat->Value} {h₁:CK Blk} {w₁:World},Ev 0 (fun _=>undef) [] w U h₁ w₁->∀ν' N Y w' e,e≠.normal->Sim ν' N Y w'->Ev 0 U h₁ w₁ ν' N.h w'->ckK e N=some r0->bodyPostM Fence.wide 2 Tryz.prog Tryz.f96 (EF G y w) e Y w' :=
  fun hE ν' N Y w' e K q E d=>out ν' N Y w' e K q (hE.trans E (cX _)) d
 refine peel rfl m hD rfl rfl (fun z _=>ml h0 rfl) law hS (fun ν1 S1 a1 w1 s1 e1 k1=>?_) out;refine peel rfl m hD rfl rfl (fun z _=>ml h0 rfl) k1 s1 (fun ν2 S2 a2 w2 s2 e2 k2=>?_) (I e1);have t2:=e1.trans e2 (cX _);refine peel rfl m hD rfl rfl (fun z _=>ml h0 rfl) k2 s2 (fun ν3 S3 a3 w3 s3 e3 k3=>?_) (I t2);have t3:=t2.trans e3 (cX _);refine peel rfl m hD rfl rfl (fun z _=>ml h0 rfl) k3 s3 (fun ν4 S4 a4 w4 s4 e4 k4=>?_) (I t3);have t4:=t3.trans e4 (cX _);refine peel rfl m hD rfl rfl (fun z _=>ml h0 rfl) k4 s4 (fun ν5 S5 a5 w5 s5 e5 k5=>?_) (I t4);have t5:=t4.trans e5 (cX _);refine wpIn_seq (wpIn_seq (wpIn_wide.2 (wpIn_wide.1 (wpIn_mono (wL m hD rfl ckA5 0 S5 _ ν5 a5 w5 (fun z _=>ml h0 rfl) k5 s5 (dU _)) fun e' Z w6 ha=>?_))));obtain⟨ν,S,V,e6,_,_,k6⟩:=ha;have J:=t5.trans e6 (cX _)
 have f:∀e,e≠.normal->ckK e S=some r0->Exit.then (Code.wpIn Fence.wide 2 Tryz.prog UW (bodyPostM Fence.wide 2 Tryz.prog Tryz.f96 (EF G y w))) (bodyPostM Fence.wide 2 Tryz.prog Tryz.f96 (EF G y w)) e Z w6:=by
  intro e K d;have:=out ν S Z w6 e K V J d
  cases e<;>first|exact(K rfl).elim|exact this
 cases e' with
 |exit id=>exact f _ (by simp) k6
 |goto l=>exact f _ (by simp) k6
 |ret=>exact f _ (by simp) k6
 |panic ch=>exact f _ (by simp) k6
 |outgrown=>exact f _ (by simp) k6
 |normal =>
 clear f;rw[af9] at k6
 split at k6<;>try (cases k6; done)
 rename_i h78
 have h78':78<=S.t.length:=by simpa using h78
 cases k6;obtain⟨hlens,s,hs,hq⟩:=aoa hM;simp only[Prod.mk.injEq,List.cons.injEq,and_true] at hq;obtain⟨⟨q1,q2,q48⟩,qh⟩:=hq
 have X:Yc (pJ x s) some (ckS x)=some y:=by
  simp only at r;rw[hs] at r;exact r
 -- what the errors are
 obtain⟨L,O,hLy⟩:∃L,pJ x s=some L/\(match L.find? (fun e=>e != 0) with|some e=>some e|none=>ckS x)=some y:=by
  unfold Yc at X
  cases hl:pJ x s with
  |none=>rw[hl] at X; cases X
  |some L=>rw[hl] at X; exact⟨L,rfl,X⟩
 obtain⟨l1,l2,l3,l4,m1,m2,m3,m4,rfl⟩:∃l1 l2 l3 l4,N3 (fun u=>ņ u.1 u.2 s) (x.2.2.1:CK (Int×Int))=some l1/\N3 (fun i=>ε x s i) (zx (x.2.2.2.1:CK u6).length)=some l2 /\
  N3 (fun i=>Ō x s i) (zx (x.2.2.2.2.1:CK io).length)=some l3/\N3 (fun u=>ņ u.1 u.2 s) (x.2.2.2.2.2:CK (Int×Int))=some l4/\L=l1++(l2++(l3++l4)):=by
  unfold pJ at O
  cases m1:N3 (fun u=>ņ u.1 u.2 s) (x.2.2.1:CK (Int×Int)) with
  |none=>rw[m1] at O; cases O
  |some l1 =>
  rw[m1] at O
  cases m2:N3 (fun i=>ε x s i) (zx (x.2.2.2.1:CK u6).length) with
  |none=>simp only[Å,m2] at O; cases O
  |some l2 =>
  cases m3:N3 (fun i=>Ō x s i) (zx (x.2.2.2.2.1:CK io).length) with
  |none=>simp only[Å,m2,m3] at O; cases O
  |some l3 =>
  cases m4:N3 (fun u=>ņ u.1 u.2 s) (x.2.2.2.2.2:CK (Int×Int)) with
  |none=>simp only[Å,m2,m3,m4] at O; cases O
  |some l4 =>
  simp only[Å,m2,m3,m4] at O;cases O;exact⟨l1,l2,l3,l4,rfl,rfl,rfl,rfl,rfl⟩
 -- the blocks
 obtain⟨T,Hh⟩:=S;dsimp only at q1 q2 q48 qh h78';subst qh;have p1:=V.tmps 1;have p2:=V.tmps 2;have p48:=V.tmps 48;dsimp only at p1 p2 p48;rw[q1] at p1;rw[q2] at p2;rw[q48] at p48;obtain⟨rb,te1,n1,hrb⟩:=Z8 (id:=1) (n:=0) V.heap rfl;have hB2:BR ν (ckH x s 0) w6 2 (.cells (flat Ê x)):=V.heap.blk 2;have hB3:BR ν (ckH x s 0) w6 3 (.cells [.mp tI Ú s]):=V.heap.blk 3;have hB4:BR ν (ckH x s 0) w6 4 (.cells [.fn (.func 196) [] [.box 3 0]]):=V.heap.blk 4;obtain⟨bb,cb,te,n2,hbb,hb2⟩:=hB2;obtain⟨sb,cs3,te3,n3,hsb,hb3⟩:=hB3;obtain⟨tb,cs4,te2,n4,htb,hb4⟩:=hB4;obtain⟨mv,z3,hm3⟩:=hb3.one;obtain⟨fv,z4,hm4⟩:=hb4.one;have hmv:CR w6 noG (.map tI Ú) s [mv]:=CR.mono (fun _ hf=>hf.elim) (show CR w6 (Av ν (ckH x s 0)) (.map tI Ú) s [mv] from hm3.1)
 have hc3:cs3=#[mv]:=by rw[<-eN,z3]
 have hfv:fv=.func (.func 196) #[] #[.pointer (some ⟨sb,0,none⟩)]:=by
  obtain⟨fs,cs,h1,h2,h3⟩:=hm4.1
  have e1:fs=#[]:=by rw[<-eN]; exact h2.nil_left
  obtain⟨u,e2,h4⟩:=h3.one;have e3:u=.pointer (some ⟨sb,0,none⟩):=Kl (w:=w6) (id:=3) (off:=0) h4 n3
  have e4:cs=#[.pointer (some ⟨sb,0,none⟩)]:=by rw[<-eN,e2,e3]
  rw[h1,e1,e4]
 have hc4:cs4=#[fv]:=by rw[<-eN,z4]
 rw[hc3] at hsb;rw[hc4,hfv] at htb
 have hg:Z.tmps.getD 48 undef=.func (.func 199) #[] #[.pointer (some ⟨bb,0,none⟩),.pointer (some ⟨tb,0,none⟩),.pointer (some ⟨sb,0,none⟩)]:=by
  obtain⟨fs,cs,h1,h2,h3⟩:=p48
  have e1:fs=#[]:=by rw[<-eN]; exact h2.nil_left
  have hl:=h3.length
  obtain⟨u1,u2,u3,e2⟩:∃u1 u2 u3,cs.toList=[u1,u2,u3]:=by
   rcases hcs:cs.toList with _|⟨u1,_|⟨u2,_|⟨u3,_|⟨u4,t⟩⟩⟩⟩<;>rw[hcs] at hl<;>simp at hl
   exact⟨u1,u2,u3,rfl⟩
  rw[e2] at h3;have e3:u1=.pointer (some ⟨bb,0,none⟩):=Kl (w:=w6) (id:=2) (off:=0) h3.1 n2;have e4:u2=.pointer (some ⟨tb,0,none⟩):=Kl (w:=w6) (id:=4) (off:=0) h3.2.1 n4;have e5:u3=.pointer (some ⟨sb,0,none⟩):=Kl (w:=w6) (id:=3) (off:=0) h3.2.2.1 n3;rw[h1,e1];congr 1;rw[<-eN,e2,e3,e4,e5]
 have hseq:=ak1 m1 m2 m3 m4 hlens hbb (aoh hb2) htb hsb hmv;have h2:=Kl p2 n1;have hsz:78<=Z.tmps.size:=du h78' V.len
 have A:∀b,b<w.heap.size->w6.heap[b]?=w.heap[b]?/\¬FT ν (ckH x s 0) b:=fun b hb=>J.keep b hb fun⟨_,h,_⟩=>by cases h
 obtain⟨⟨ms,m1',m2',p⟩,_⟩:=V.defers;have hdef:Z.defers=ms.map mk1:=m1'.trans (dt _);show ckRF.wpIn Fence.wide 2 Tryz.prog (Exit.then (UW.wpIn Fence.wide 2 Tryz.prog (bodyPostM Fence.wide 2 Tryz.prog Tryz.f96 (EF G y w))) (bodyPostM Fence.wide 2 Tryz.prog Tryz.f96 (EF G y w))) Z w6;rw[an9];refine wpIn_block (ant hseq hg h2 hsz hrb (fun D W hall hbel hDl hDo=>?_) (fun D W z hz j hDl hDo=>?_))
 ·have hck:ckS x=some y:=by
   have:(l1++(l2++(l3++l4))).find? (fun e=>e != 0)=none:=ee.2 fun z hz=>by rw[hall z hz]; simp
   rw[this] at hLy;exact hLy
  have hDn:D∉ms:=fun hm=>by have:=ħ (p D hm).1; omega
  exact an8 (s:=s) (ms:=D::ms) hck V.heap hbel (by show mark D::Z.defers=_; rw[hdef]; rfl) (fq.2 ⟨hDn,m2'⟩) (fun k d=>by
   rcases df.1 d with rfl|d
   ·exact⟨hDo,du J.size hDl⟩
   ·exact⟨(hbel.block k (ħ (p k d).1)).trans (p k d).1,(p k d).2⟩) hsz p1 p2 A J.size J.os J.tape J.output
 ·have hzy:z=y:=by
   rw[hz] at hLy;simpa using hLy
  subst hzy;obtain⟨te5,hcell⟩:=j.cell;have hlb:=ħ hrb;have hlive:FT ν (ckH x s 0) rb:=⟨1,rfl,by rw[n1]; rfl⟩
  have hDn:D∉ms:=fun hm=>by have:=ħ (p D hm).1; omega
  exact aev (a:={Z with defers:=mark D::Z.defers}) (w:=W) (ms:=D::ms) (by show mark D::Z.defers=_; rw[hdef]; rfl) (fq.2 ⟨hDn,m2'⟩) (fun k d=>by
   rcases df.1 d with rfl|d
   ·exact⟨hDo,du J.size hDl⟩
   ·exact⟨(j.block k (ħ (p k d).1) (fun e=>by have h9:=(p k d).1; rw[e,hrb] at h9; cases h9)).trans (p k d).1,(p k d).2⟩) h2 hcell
   (fun b hb=>(j.block b (by have:=J.size; omega) (fun e=>(A b hb).2 (e▸hlive))).trans (A b hb).1) (by have:=J.size; have:=j.size; omega) (j.os.trans J.os) (j.tape.trans J.tape) (j.output.trans J.output)
def xm:ja Tryz.prog 96 rE:=fun G x y hF w vals hG hAL=>aga G x y hF w vals hG hAL
end Go.Proofs.ZzM
end

noncomputable section
namespace Go.Proofs
open Go.RowKit
attribute [local go_sem] Oper.semAt_some
def aeP (w:World) (o o':Obj):((w.alloc o).alloc o').heap[w.heap.size+1]?=some o':=by
 simp only[World.alloc];rw[show w.heap.size+1=(w.heap.push o).size from(Array.size_push _).symm];exact Array.getElem?_push_size
def akj (w:World) (o o':Obj):((w.alloc o).alloc o').heap[w.heap.size]?=some o:=by
 simp only[World.alloc];rw[Array.getElem?_push_lt (by rw[Array.size_push]; omega),Array.getElem_push_eq]
def aaR (w:World) (o o':Obj) (b:Nat) (hb:b<w.heap.size):((w.alloc o).alloc o').heap[b]?=w.heap[b]?:=by
 simp only[World.alloc];rw[Array.getElem?_push_lt (by simp; omega),Array.getElem_push_lt hb,Array.getElem?_eq_getElem hb]
def am2 {W:World} {b:Nat} {f e d c a:Value} {t:TypeId} (h:W.heap[b]?=some (.cells #[f,e,d,c,a] t (0,0))) :
 W.cell? ⟨b,0,none⟩=some f/\W.cell? ⟨b,1,none⟩=some e/\W.cell? ⟨b,2,none⟩=some d/\W.cell? ⟨b,3,none⟩=some c/\W.cell? ⟨b,4,none⟩=some a/\∀j,W.frozen? ⟨b,j,none⟩=false:=by
 refine⟨?_,?_,?_,?_,?_,fun j=>?_⟩<;>simp only[World.cell?,World.frozen?,h]<;>rfl
def set5 {W:World} {b:Nat} {c0 e d c a:Value} {k j i g f:Value} {t:TypeId} (h:W.heap[b]?=some (.cells #[k,j,i,g,f] t (0,0))) :
 (((((W.setCell ⟨b,0,none⟩ c0).setCell ⟨b,1,none⟩ e).setCell ⟨b,2,none⟩ d).setCell ⟨b,3,none⟩ c).setCell ⟨b,4,none⟩ a)=W.setRow b #[c0,e,d,c,a]:=by
 rw[setCell_eq_setRow W b 0 _ t (0,0) c0 h,setCell_eq_setRow _ b 1 _ t (0,0) e (setRow_heap _ _ _ _ t _ h),setRow_setRow,setCell_eq_setRow _ b 2 _ t (0,0) d (setRow_heap _ _ _ _ t _ h),setRow_setRow,
  setCell_eq_setRow _ b 3 _ t (0,0) c (setRow_heap _ _ _ _ t _ h),setRow_setRow,setCell_eq_setRow _ b 4 _ t (0,0) a (setRow_heap _ _ _ _ t _ h),setRow_setRow]
 rfl
def afb {T:Array Value} {b:Nat} {c0 g f d c:Int} {e:TypeId} {W:World} (h2:T.getD 2 undef=.pointer (some ⟨b,0,none⟩)) (m:W.heap[b]?=some (.cells #[.int .i64 c0,.int .i64 g,.int .i64 f,.int .i64 d,.int .i64 c] e (0,0))):(results Tryz.f183 T).run Tryz.prog W=.ok (.agg #[.int .i64 c0,.int .i64 g,.int .i64 f,.int .i64 d,.int .i64 c]) W:=by
 letI:Go.Am.Ghost:=Go.Am.Gh fun _=>False
 have k:(loadVar 224 ⟨b,0,none⟩).run Tryz.prog W=.ok (.agg #[.int .i64 c0,.int .i64 g,.int .i64 f,.int .i64 d,.int .i64 c]) W:=by
  have:=Go.Am.run_loadVar (P:=Tryz.prog) (w:=W) (t:=224) (agg:=true) (n:=5) (by kernel_rfl) (us:=[.int .i64 c0,.int .i64 g,.int .i64 f,.int .i64 d,.int .i64 c]) rfl (fun h=>by cases h) (a:=⟨b,0,none⟩) (fun j v l=>by
   have:=Go.Am.CellsAt.of_cells m j v (by simpa using l)
   have ha:(⟨b,0,none⟩:Addr).add j=⟨b,j,none⟩:=by unfold Addr.add; split<;>simp_all
   rw[ha]; simpa using this)
  exact this
 have i:Tryz.f183.results=#[.cell 2 224]:=by kernel_rfl
 unfold results;rw[i,Array.mapM_eq_mapM_toList];simp only[Sem.run_bind,Sem.run_map,List.mapM_cons,List.mapM_nil,h2,asAddr,Sem.run_pure,Result.andThen_ok,k];rfl
set_option maxRecDepth 100000 in
set_option maxHeartbeats 1000000 in
def ak5 (v:Value) (w:World) (c0 c1 c2 c3 c4:Int) (n:Int)
 (hcopy : ∀ W, (∀ b, b < w.heap.size -> W.heap[b]? = w.heap[b]?) -> W.heap[w.heap.size + 1]? = some (.cells #[.int .i64 0, .int .i64 0, .int .i64 0, .int .i64 0, .int .i64 0] 224 (0, 0)) -> (Builtin.copy_ #[34, 34] 3 #[.slice (some ⟨w.heap.size + 1, 0, none⟩) 5 5, v]).run Tryz.prog W = .ok (.int .i64 n) (W.setRow (w.heap.size + 1) #[.int .i64 c0, .int .i64 c1, .int .i64 c2, .int .i64 c3, .int .i64 c4])) :
  CallsIn Fence.wide 0 Tryz.prog 183 #[v] w fun e W'=>e=.returned (.agg #[.int .i64 c0,.int .i64 c1,.int .i64 c2,.int .i64 c3,.int .i64 c4])/\(∀b,b<w.heap.size->W'.heap[b]?=w.heap[b]?)/\w.heap.size<=W'.heap.size/\W'.os=w.os/\W'.tape=w.tape/\W'.output=w.output:=by
 refine callsIn_of_wp Tryz.func183 rfl trivial ?_ rfl;simp only[Tryz.ntmps183,fP,di,dK,Nat.reduceAdd,Nat.reduceSub,Array.replicate_succ,Array.replicate_zero,List.push_toArray,gL,fe,d8]
 gi_wp2
 rw[hcopy _ (aaR _ _ _) (aeP _ _ _)];generalize hW:World.setRow _ _ _=W1
 have g1:W1.heap[w.heap.size+1]?=some (.cells #[.int .i64 c0,.int .i64 c1,.int .i64 c2,.int .i64 c3,.int .i64 c4] 224 (0,0)):=by
  rw[<-hW]; exact setRow_heap _ _ _ _ 224 _ (aeP _ _ _)
 have g2:W1.heap[w.heap.size]?=some (.cells #[.int .i64 0,.int .i64 0,.int .i64 0,.int .i64 0,.int .i64 0] 224 (0,0)):=by
  rw[<-hW,setRow_other _ _ _ _ (by omega)]; exact akj _ _ _
 have g3:∀b,b<w.heap.size->W1.heap[b]?=w.heap[b]?:=fun b hb=>by
  rw[<-hW,setRow_other _ _ _ _ (by omega)]; exact aaR _ _ _ b hb
 have g4:W1.os=w.os/\W1.tape=w.tape/\W1.output=w.output/\W1.heap.size=w.heap.size+2:=by
  rw[<-hW]; refine⟨rfl,rfl,rfl,?_⟩;rw[size_setRow]; simp only[World.alloc,Array.size_push]
 clear hW hcopy;obtain⟨l0,l1,l2,l3,l4,_⟩:=am2 g1;obtain⟨z0,z1,z2,z3,z4,zf⟩:=am2 g2
 gi_wp2
 rw[set5 g2];refine bodyPost_ret (afb rfl (setRow_heap _ _ _ _ 224 _ g2)) rfl ?_;exact⟨rfl,fun b hb=>(setRow_other _ _ _ _ (by omega)).trans (g3 b hb),by rw[size_setRow]; omega,g4.1,g4.2.1,g4.2.2.1⟩
end Go.Proofs
namespace Go.Proofs.ZzM
open Go Go.Am Go.Proofs
noncomputable def anr (xs:CK Int):(#[Value.int .i64 0,.int .i64 0,.int .i64 0,.int .i64 0,.int .i64 0].toList.take 0++(xs.take 5).map (Value.int .i64 ·)++#[Value.int .i64 0,.int .i64 0,.int .i64 0,.int .i64 0,.int .i64 0].toList.drop (0+((xs.take 5).map (Value.int .i64 ·)).length)).toArray =
 #[.int .i64 (xs.getD 0 0),.int .i64 (xs.getD 1 0),.int .i64 (xs.getD 2 0),.int .i64 (xs.getD 3 0),.int .i64 (xs.getD 4 0)]:=by
 rcases xs with _|⟨a,_|⟨b,_|⟨c,_|⟨d,_|⟨e,r⟩⟩⟩⟩⟩<;>rfl
def ajF:ja Tryz.prog 183 Yl:=by
 intro G x y C w vals J q;obtain⟨v,rfl,us,o,m⟩:=q;change CK Int at x;obtain⟨base,cap,rfl,r,d⟩:=o;have m:v=.slice base (x:CK Int).length cap:=m;subst m;have z:y=((x:CK Int).getD 0 0,(x:CK Int).getD 1 0,(x:CK Int).getD 2 0,(x:CK Int).getD 3 0,(x:CK Int).getD 4 0):=(Option.some.inj C).symm;refine⟨⟨Tryz.f183,_,Tryz.func183,rfl⟩,?_⟩
 have c:∀W:World,(∀b,b<w.heap.size->W.heap[b]?=w.heap[b]?)->W.heap[w.heap.size+1]?=some (.cells #[.int .i64 0,.int .i64 0,.int .i64 0,.int .i64 0,.int .i64 0] 224 (0,0)) ->
  (Builtin.copy_ #[34,34] 3 #[.slice (some ⟨w.heap.size+1,0,none⟩) 5 5,.slice base (x:CK Int).length cap]).run Tryz.prog W=.ok (.int .i64 ((((x:CK Int).take 5).map (Value.int .i64 ·)).length:Nat)) (W.setRow (w.heap.size+1) #[.int .i64 ((x:CK Int).getD 0 0),.int .i64 ((x:CK Int).getD 1 0),.int .i64 ((x:CK Int).getD 2 0),.int .i64 ((x:CK Int).getD 3 0),.int .i64 ((x:CK Int).getD 4 0)]):=by
  intro W g a;rcases d with h0|⟨b,off,rfl,B,hb,p⟩
  ·have h0:x=([]:CK Int):=h0;subst h0;rw[run_copy_none W 34 34 3 3 _ _ 5 5 _ _ (by kernel_rfl) (by kernel_rfl) (by simp)];exact congrArg _ (setRow_self W _ _ 224 (0,0) a).symm
  ·have:=run_copy_row Tryz.prog W 34 34 3 3 (w.heap.size+1) 0 5 5 ⟨b,off,none⟩ (x:CK Int).length cap _ 224 (((x:CK Int).take 5).map (Value.int .i64 ·)) (by kernel_rfl) (by kernel_rfl) a (by simp[Nat.min_comm]) (fun j u i=>by
    rw[eP] at i
    cases f:((x:CK Int).take 5)[j]? with
    |none=>rw[f] at i; cases i
    |some n =>
     rw[f] at i;cases i
     have l:(x:CK Int)[j]?=some n:=by
      rw[d9] at f
      split at f
      ·exact f
      ·cases f
     obtain⟨us,k,t⟩:=p j n l;have k:us=[.int .i64 n]:=k;subst k;have s:=t 0 _ rfl
     have ha:(⟨b,off,none⟩:Addr).add j=⟨b,off+j,none⟩:=by unfold Addr.add; split<;>simp_all
     rw[ha,World.cell?_of_block (w:=w) (by exact g b hb)]
     simpa[Ty.size] using s) (by simp; omega) (fun u A=>by
    obtain⟨n,_,rfl⟩:=dw.1 A
    rfl)
   rw[anr] at this;exact this
 refine(ak5 _ w _ _ _ _ _ _ c).mono fun e w' h=>?_;obtain⟨rfl,I,h2,H,E,D⟩:=h;refine⟨_,rfl,?_,I,h2,H,E,D⟩;subst z;exact⟨[.int .i64 _,.int .i64 _,.int .i64 _,.int .i64 _,.int .i64 _],⟨[_],_,rfl,rfl,[_],_,rfl,rfl,[_],_,rfl,rfl,[_],_,rfl,rfl,rfl⟩,rfl⟩
end Go.Proofs.ZzM
end

noncomputable section
set_option maxRecDepth 100000
namespace Go.Proofs.ZzM
open Go Go.Am
def agc:ZP 6 Tl:=zt (zY _) Ä rfl (Á Lq (Á Ln Ä)) fun x=>by kernel_rfl
def aj3:ZP 203 YG:=zt (P3 _) (Á xm (Á FL (Á I4 Ä))) rfl (Á P2 Ä) fun x=>by kernel_rfl
def amd:ZP 160 adu:=zt (afI _) (Á aj3 (Á aeG Ä)) rfl Ä fun x=>by kernel_rfl
def ajH:ZP 97 Yn:=zt (mf _) (Á amd Ä) rfl (Á Oq (Á Oo (Á On (Á Om (Á Ol Ä))))) fun x=>VZ x some
def lQ:ZP 44 jS:=zt (Fh _) (Á xm (Á ajH Ä)) rfl (Á OA (Á OB Ä)) fun x=>by kernel_rfl
def QY:ZP 171 zM:=zt (JR _) Ä rfl Ä fun x=>by kernel_rfl
def xj:ZP 114 nX:=zt (Fy _) (Á QY Ä) rfl Ä fun x=>by kernel_rfl
def age:ZP 115 Tn:=zt (Ae _) Ä rfl (Á Lt (Á Lu Ä)) fun x=>by kernel_rfl
def UX:ZP 113 Jo:=zt (Y5 _) (Á xj (Á age Ä)) rfl Ä fun x=>by kernel_rfl
def qU:XOk Tryz.prog 207 (.row ĉ):=Vk (r:=ĉ) (þ _) (fun {_}=>C6 (Á UX Ä) (þ _) rfl rfl rfl rfl rfl (Ŕ rfl) (mb rfl) (jb rfl)) hmix rfl (Á mC (Á mD Ä)) (fun xs x m=>nD xs x m some)
def BJ:XOk Tryz.prog 246 (.row ķ):=Vk (r:=ķ) (ą _) (fun {_}=>C6 Ä (ą _) rfl rfl rfl rfl rfl (Ŕ rfl) (mb rfl) (jb rfl)) hmix rfl (Á rV (Á rU (Á rW (Á rS Ä)))) (fun xs x m=>vk xs x m some)
noncomputable def qT {a:(Val (.slice (.slice (.slice tI))))->Int->Int->Int->a8->BY ((Val (.slice (.slice (.slice tI))))×a8)} (b:XOk Tryz.prog 208 (.row ⟨(.slice (.slice tI)),[tI,tI,tI],113,Â,fun(xs:(Val (.slice (.slice (.slice tI))))) (x:qs) (m:a8)=>a xs x.1 x.2.1 x.2.2 m⟩)):XOk Tryz.prog 208 (.row ⟨(.slice (.slice tI)),[tI,tI,tI],113,Â,fun(xs:(Val (.slice (.slice (.slice tI))))) (x:qs) (m:a8)=>ĩ a xs x.1 x.2.1 x.2.2 m some⟩):=Vk (r:=⟨(.slice (.slice tI)),[tI,tI,tI],113,Â,fun(xs:(Val (.slice (.slice (.slice tI))))) (x:qs) (m:a8)=>ĩ a xs x.1 x.2.1 x.2.2 m some⟩) (É a _) (fun {_}=>C6 (Á UX Ä) (É a _) rfl rfl rfl rfl rfl (Ŕ rfl) (Xa (Á b (Á BJ Ä)) rfl) (jb rfl)) hmix (tab:=jW a _) rfl (Á pU (Á pT (Á pS (Á pR (Á pQ Ä))))) (fun xs x m=>rO _ xs x m some)
def kq:∀n:Nat,XOk Tryz.prog 208 (.row ⟨(.slice (.slice tI)),[tI,tI,tI],113,Â,fun(xs:(Val (.slice (.slice (.slice tI))))) (x:qs) (m:a8)=>Ĩ n xs x.1 x.2.1 x.2.2 m⟩)
 |0=>ams.mk (by intro _ _ _ _ _ _ h; cases h)
 |n+1=>qT (kq n)
def yJ:XOk Tryz.prog 208 (.row mI):=kq 100
def pM:XOk Tryz.prog 170 (.row ĥ):=Vk (r:=ĥ) (ę _) (fun {_}=>C6 Ä (ę _) rfl rfl rfl rfl rfl (Ŕ rfl) (Xa (Á qU (Á yJ Ä)) rfl) (jb rfl)) hmix rfl (Á rR (Á rP (Á rQ Ä))) (fun xs x m=>vh xs x m some)
def I2:ja Tryz.prog 55 B7:=Nu (kB _) (fun {_}=>C6 Ä (kB _) rfl rfl rfl rfl rfl (Ŕ rfl) (Xa (Á pM Ä) rfl) (jb rfl)) hmix rfl Ä (rtab:=N8 _) rfl (Á (Rq QK) Ä) (Á Rp Ä) (mj fun x=>Y4 x some)
def Xh:ZP 69 NB:=zt (Y3 _) (Á xg Ä) rfl (Á VV Ä) fun x=>by kernel_rfl
def QR:ZP 132 zL:=zt (vN _) (Á Xh Ä) rfl (Á Af Ä) fun x=>by kernel_rfl
def nu:ja Tryz.prog 71 ku:=Mz (Ŵ _) (fun {_}=>C6 (Á Xh (Á QR Ä)) (Ŵ _) rfl rfl rfl rfl rfl (Ŕ rfl) (mb rfl) (jb rfl)) hmix rfl (Á E5 (Á E4 (Á EZ (Á EY Ä)))) (mj fun x=>Jz x some)
def kr:ZP 174 ų:=zt (jw _) Ä rfl (Á mU Ä) fun x=>by kernel_rfl
def aaI:ZP 224 KK:=zt (Sz _) (Á kr Ä) rfl Ä fun x=>by kernel_rfl
def ama:ZP 226 adr:=zt (JT _) (Á my Ä) rfl (Á SG (Á SF Ä)) fun x=>by kernel_rfl
def Mn:ZP 269 yS:=zt (HK _) Ä rfl Ä fun x=>by kernel_rfl
def BO:ZP 272 vE:=zt (PQ _) (Á I3 Ä) rfl (Á PP Ä) fun x=>by kernel_rfl
def QX:ZP 279 EO:=zt (Ws _) (Á aeD (Á ajY Ä)) rfl Ä fun x=>by kernel_rfl
def aof:ZP 275 ahF:=zt (ail _) (Á BO (Á QX Ä)) rfl Ä fun x=>by kernel_rfl
def Xm:ZP 270 Gm:=zt (PW _) (Á aof Ä) rfl Ä fun x=>by kernel_rfl
def acu:ZP 284 abt:=zt (aij _) Ä rfl Ä fun x=>by kernel_rfl
def EE:ZP 280 Dm:=zt (Mb _) (Á BO (Á acu Ä)) rfl Ä fun x=>by kernel_rfl
def aj0:ZP 283 ahG:=zt (ain _) (Á BO (Á QX Ä)) rfl Ä fun x=>by kernel_rfl
def ajZ:ja Tryz.prog 276 YD:=ahv (Fx _) (ZO _) (fun {_}=>C6 (Á I3 (Á EE (Á aj0 (Á acu Ä)))) (Fx _) rfl rfl rfl rfl rfl (Ŕ rfl) (mb rfl) (jb rfl)) (fun {_}=>libN (Á I3 (Á EE (Á aj0 (Á acu Ä)))) _) rfl hmix (tab:=xZ _) rfl Ä (us:=KZ) rfl (Á (by kernel_rfl) Ä) (mj fun x=>Wu x some)
def Xl:ZP 271 Gl:=zt (PV _) (Á ajZ Ä) rfl Ä fun x=>by kernel_rfl
def agv:ZP 255 TF:=zt (ZV _) (Á M4 (Á FL (Á Mn (Á Xm (Á Xl Ä))))) rfl Ä fun x=>by kernel_rfl
def aj2:ZP 256 YF:=zt (abR _) Ä rfl Ä fun x=>by kernel_rfl
def aaH:ZP 273 NQ:=zt (abN _) Ä rfl Ä fun x=>by kernel_rfl
def aj1:ZP 257 YE:=zt (abP _) (Á BO (Á aaH Ä)) rfl Ä fun x=>by kernel_rfl
def al8:ZP 258 adp:=zt (afF _) (Á BO (Á aaH Ä)) rfl Ä fun x=>by kernel_rfl
def al9:ZP 227 adq:=zt (afG _) (Á agv (Á aj2 (Á aj1 (Á al8 Ä)))) rfl Ä fun x=>by kernel_rfl
def aeE:ZP 136 VB:=zt (Cf _) (Á M4 (Á QZ (Á aeF (Á aaI (Á ama (Á al9 Ä)))))) rfl (Á SD (Á SE (Á SB Ä))) fun x=>by kernel_rfl
def CJ:ZP 80 vH:=zt (ZY _) (Á xm (Á aeE Ä)) rfl Ä fun x=>by kernel_rfl
def aeC:ZP 148 Vz:=zt (afC _) Ä rfl Ä fun x=>by kernel_rfl
def BN:ZP 89 vD:=zt (PO _) (Á aeC Ä) rfl (Á PN Ä) fun x=>by kernel_rfl
def BM:ZP 90 tp:=zt (ι _) Ä rfl (Á HC (Á HB (Á Hz (Á HA (Á Hy Ä))))) fun x=>L2 x some
def SX:ZP 116 Dk:=zt (L9 _) (Á BN (Á BM Ä)) rfl Ä fun x=>by kernel_rfl
def BI:ZP 57 tk:=zt (RD _) (Á nu (Á CJ (Á SX Ä))) rfl Ä fun x=>by kernel_rfl
def yI:ZP 45 qm:=zt (Ak _) (Á I2 (Á BI Ä)) rfl (Á Fe Ä) fun x=>by kernel_rfl
def QS:ZP 47 Ga:=zt (Oc _) Ä rfl (Á Ob Ä) fun x=>by kernel_rfl
def agw:ZP 50 TG:=zt (Z0 _) (Á U3 (Á M4 Ä)) rfl Ä fun x=>by kernel_rfl
def Xi:ZP 9 Gb:=zt (mQ _) (Á lQ (Á yI (Á QS (Á agw (Á iC Ä))))) rfl (Á Fg (Á Ff Ä)) fun x=>JA x some
def aew:ZP 46 Vt:=zt (B9 _) (Á iC Ä) rfl (Á Rs (Á Rr Ä)) fun x=>Y6 x some
def alZ:ZP 10 adg:=zt (JC _) (Á lQ (Á yI (Á aew (Á nw Ä)))) rfl (Á RG (Á RF Ä)) fun x=>by kernel_rfl
def agh:ZP 58 Tq:=zt (KQ _) Ä rfl (Á Ly Ä) fun x=>by kernel_rfl
def aaz:ZP 11 KH:=zt (ł _) (Á lQ (Á aew (Á I2 (Á BI (Á agh (Á xj Ä)))))) rfl (Á G0 (Á G3 (Á GZ (Á GY (Á GV (Á GU (Á GS (Á GW Ä)))))))) fun x=>Lz x some
def yK:ZP 17 qn:=zt (AO _) Ä rfl (Á Ft Ä) fun x=>by kernel_rfl
def aex:ja Tryz.prog 68 Vu:=Nu (iI _) (fun {_}=>C6 (Á BI Ä) (iI _) rfl rfl rfl rfl rfl (Ŕ rfl) (Xa (Á pM Ä) rfl) (jb rfl)) hmix rfl (Á RC (Á RB Ä)) (rtab:=Ou _) rfl (Á (RA QK) Ä) (Á Rz Ä) (mj fun x=>Y9 x some)
def aj4:ZP 128 YH:=zt (abS _) (Á xm (Á QZ (Á kr Ä))) rfl Ä fun x=>by kernel_rfl
def amb:ZP 129 ads:=zt (Ut _) (Á xm Ä) rfl (Á SM Ä) fun x=>by kernel_rfl
def ajW:ZP 177 YB:=zt (PE _) (Á BN (Á BM (Á aeC Ä))) rfl (Á PD Ä) fun x=>by kernel_rfl
def agu:ZP 212 TE:=zt (ka _) Ä rfl (Á L8 (Á L7 (Á L6 (Á L4 (Á L5 Ä))))) fun x=>Sn x some
def ajX:ZP 130 YC:=zt (Fw _) (Á ajW (Á agu Ä)) rfl (Á PG (Á PF Ä)) fun x=>by kernel_rfl
def agf:ZP 70 Tp:=zt (Y7 _) (Á CJ (Á aj4 (Á amb (Á ajX Ä)))) rfl Ä fun x=>by kernel_rfl
def agi:ZP 22 Tr:=zt (Az _) (Á lQ (Á QS (Á aex (Á Xh (Á agf (Á nu Ä)))))) rfl (Á LB (Á LA Ä)) fun x=>by kernel_rfl
def ajV:ZP 91 YA:=zt (PB _) Ä rfl (Á abM (Á abK (Á abJ (Á abL Ä)))) fun x=>by kernel_rfl
def aaG:ZP 35 NP:=zt (oi _) (Á BN (Á BM (Á ajV Ä))) rfl (Á PL (Á PH (Á PI (Á PJ (Á PK Ä))))) fun x=>by kernel_rfl
def aaA:ZP 28 ND:=zt (Oz _) (Á aaG (Á lQ (Á I2 (Á nu (Á CJ Ä))))) rfl (Á Oy Ä) fun x=>by kernel_rfl
def act:ZP 137 NN:=zt (HD _) Ä rfl (Á JO Ä) fun x=>by kernel_rfl
def al6:ZP 138 adn:=zt (Uf _) Ä rfl (Á Sl Ä) fun x=>by kernel_rfl
def SY:ZP 81 Dl:=zt (Ma _) (Á BN (Á act (Á al6 Ä))) rfl Ä fun x=>by kernel_rfl
def ED:ZP 29 vd:=zt (yV _) (Á lQ (Á I2 (Á nu (Á CJ (Á SY Ä))))) rfl (Á C0 Ä) fun x=>by kernel_rfl
def alY:ZP 38 adf:=zt (afu _) (Á lQ (Á I2 Ä)) rfl Ä fun x=>by kernel_rfl
def aax:ZP 39 KE:=zt (Rm _) Ä rfl Ä fun x=>by kernel_rfl
def aod:ZP 40 ahD:=zt (aib _) (Á lQ (Á aex Ä)) rfl Ä fun x=>by kernel_rfl
def ajI:ZP 41 Yo:=zt (abE _) (Á lQ (Á yI Ä)) rfl Ä fun x=>by kernel_rfl
def ajG:ja Tryz.prog 139 Ym:=Nu (η _) (fun {_}=>C6 (Á ajF Ä) (η _) rfl rfl rfl rfl rfl (Ŕ rfl) (mb rfl) (jb rfl)) hmix rfl (Á Oi Ä) (rtab:=KO _) rfl (Á (Oh ajC) Ä) (Á Og Ä) (mj fun x=>VY x some)
def aay:ZP 82 NC:=zt (abD _) (Á lQ (Á ajG Ä)) rfl Ä fun x=>by kernel_rfl
def aoc:ZP 42 ahC:=zt (ah9 _) (Á QS (Á Xh (Á aay Ä))) rfl Ä fun x=>by kernel_rfl
def aaC:ZP 43 KJ:=zt (DQ _) (Á yK Ä) rfl (Á Hf Ä) fun x=>by kernel_rfl
def acm:ZP 7 NA:=zt (Gz _) (Á Xi (Á alZ (Á aaz (Á yK (Á agi (Á aaA (Á ED (Á alY (Á aax (Á aod (Á ajI (Á aoc (Á aaC Ä))))))))))))) rfl Ä fun x=>N5 x some
def BL:ZP 76 xA:=zt (aie _) Ä rfl Ä fun x=>by kernel_rfl
def M3:ZP 25 Gi:=zt (afw _) (Á BL Ä) rfl Ä fun x=>by kernel_rfl
def al1:ZP 125 adi:=zt (T9 _) Ä rfl (Á Sg Ä) fun x=>by kernel_rfl
def aaE:ZP 66 NL:=zt (Pn _) (Á al1 Ä) rfl (Á Pm Ä) fun x=>by kernel_rfl
def MZ:ZP 146 Ge:=zt (afv _) (Á aaE Ä) rfl Ä fun x=>by kernel_rfl
def ajN:ZP 143 Ys:=zt (Fs _) (Á MZ Ä) rfl (Á O6 (Á O5 Ä)) fun x=>by kernel_rfl
def ru:ZP 85 nW:=zt (j7 _) (Á ajN Ä) rfl (Á LV (Á LU (Á LS (Á LP (Á LQ (Á LR Ä)))))) fun x=>by kernel_rfl
def UY:ZP 78 Jp:=zt (KW _) (Á ru Ä) rfl (Á LW Ä) fun x=>by kernel_rfl
def xi:ZP 15 rD:=zt (Pu _) Ä rfl (Á Ps Ä) fun x=>by kernel_rfl
def QU:ZP 64 Gg:=zt (Pl _) Ä rfl (Á Pk Ä) fun x=>by kernel_rfl
def ajO:ZP 188 Yt:=zt (O8 _) Ä rfl (Á O7 Ä) fun x=>by kernel_rfl
def aaD:ZP 144 NK:=zt (Pj _) (Á xi (Á QU (Á ajO Ä))) rfl (Á Ph Ä) fun x=>by kernel_rfl
def aeA:ZP 209 Vx:=zt (Ud _) Ä rfl (Á Sk Ä) fun x=>by kernel_rfl
def aeB:ZP 210 Vy:=zt (afB _) Ä rfl Ä fun x=>by kernel_rfl
def QW:ZP 274 EN:=zt (Wn _) (Á aeA (Á aeB Ä)) rfl Ä fun x=>by kernel_rfl
def al5:ZP 260 adm:=zt (afA _) (Á QW Ä) rfl Ä fun x=>by kernel_rfl
def al3:ZP 261 adk:=zt (afy _) Ä rfl Ä fun x=>by kernel_rfl
def al2:ZP 231 adj:=zt (afx _) (Á al5 (Á al3 Ä)) rfl Ä fun x=>by kernel_rfl
def ago:ZP 232 Tx:=zt (Zl _) (Á xi Ä) rfl Ä fun x=>by kernel_rfl
def ajU:ZP 262 Yz:=zt (abH _) Ä rfl Ä fun x=>by kernel_rfl
def al4:ZP 263 adl:=zt (afz _) (Á QW Ä) rfl Ä fun x=>by kernel_rfl
def agt:ZP 233 TD:=zt (ZD _) (Á ajU (Á al4 Ä)) rfl Ä fun x=>by kernel_rfl
def QV:ZP 189 EM:=zt (Wm _) (Á MZ (Á al2 (Á ago (Á agt Ä)))) rfl Ä fun x=>by kernel_rfl
def UZ:ZP 190 Jq:=zt (Zz _) Ä rfl Ä fun x=>by kernel_rfl
def aoe:ZP 234 ahE:=zt (aig _) Ä rfl Ä fun x=>by kernel_rfl
def aaF:ZP 191 NM:=zt (abI _) (Á aoe Ä) rfl Ä fun x=>by kernel_rfl
def ajT:ZP 235 Yy:=zt (abG _) Ä rfl Ä fun x=>by kernel_rfl
def U0:ZP 192 Jr:=zt (ZE _) (Á ajT Ä) rfl Ä fun x=>by kernel_rfl
def ajP:ZP 151 Yu:=zt (abF _) (Á QV (Á UZ (Á aaF (Á U0 Ä)))) rfl Ä fun x=>by kernel_rfl
def aez:ZP 94 Vw:=zt (Cc _) (Á UY (Á ru (Á aaD (Á MZ (Á ajP Ä))))) rfl (Á R0 (Á Sa (Á RZ Ä))) fun x=>by kernel_rfl
def uY:ZP 117 oV:=zt (RW _) Ä rfl Ä fun x=>by kernel_rfl
def ags:ZP 172 TC:=zt (ZC _) (Á aeA (Á aeB Ä)) rfl Ä fun x=>by kernel_rfl
def agp:ZP 118 Tz:=zt (Zm _) (Á M3 (Á BL (Á uY (Á ags Ä)))) rfl Ä fun x=>by kernel_rfl
def xh:ZP 123 rg:=zt (Zp _) (Á xi Ä) rfl Ä fun x=>by kernel_rfl
def ajM:ZP 119 Yr:=zt (O0 _) (Á M3 (Á xh Ä)) rfl (Á OZ Ä) fun x=>by kernel_rfl
def agn:ZP 120 Tw:=zt (ue _) (Á BL (Á uY (Á xh Ä))) rfl (Á LN (Á LM (Á LO Ä))) fun x=>by kernel_rfl
def ajQ:ZP 173 Yv:=zt (Pb _) (Á BL Ä) rfl (Á Pa Ä) fun x=>by kernel_rfl
def agm:ZP 121 Tv:=zt (Zk _) (Á M3 (Á BL (Á uY (Á ajQ Ä)))) rfl Ä fun x=>by kernel_rfl
def Xk:ZP 122 Gf:=zt (j6 _) (Á xi (Á QU (Á aaE (Á xh Ä)))) rfl (Á Fq (Á Fp (Á Fo Ä))) fun x=>JK x some
def agr:ZP 62 TB:=zt (mq _) (Á M3 (Á ru (Á aez (Á uY (Á agp (Á ajM (Á agn (Á agm (Á Xk (Á xh Ä)))))))))) rfl (Á L1 (Á LY (Á LZ (Á LX Ä)))) fun x=>Sj x some
def al0:ZP 63 adh:=zt (Ca _) (Á xi (Á BL (Á xh Ä))) rfl (Á RO (Á RN (Á RM Ä))) fun x=>by kernel_rfl
def agl:ZP 12 Tu:=zt (AI _) (Á agr (Á al0 (Á QU Ä))) rfl (Á LK (Á LL Ä)) fun x=>by kernel_rfl
noncomputable def Mm {a:u5->BY u7} (b:ja Tryz.prog 87 ⟨[(.slice tI)],[(.slice (.slice tI))],fun(x:u5)=>a x⟩):ja Tryz.prog 87 ⟨[(.slice tI)],[(.slice (.slice tI))],fun(x:u5)=>oe a x some⟩:=Mz (p:=⟨[(.slice tI)],[(.slice (.slice tI))],fun(x:u5)=>oe a x some⟩) (į a _) (fun {_}=>libN (Á b Ä) _) hmix (tab:=AA a _) rfl (Á JD (Á JE Ä)) (mj fun x=>OE x some)
def BK:∀n:Nat,ja Tryz.prog 87 ⟨[(.slice tI)],[(.slice (.slice tI))],fun(x:u5)=>rC n x⟩
 |0=>by intro _ _ _ h; cases h
 |n+1=>Mm (BK n)
def acn:ja Tryz.prog 87 NE:=BK 100
def aco:ZP 88 NF:=zt (xO _) Ä rfl (Á JF (Á JG Ä)) fun x=>by kernel_rfl
def QT:ZP 34 Gc:=zt (og _) (Á acn (Á aco Ä)) rfl (Á OJ (Á OK (Á OM (Á OH (Á OI Ä))))) fun x=>by kernel_rfl
def FK:ZP 36 xz:=zt (Wi _) (Á ru (Á aez Ä)) rfl Ä fun x=>by kernel_rfl
def ajL:ZP 20 abq:=zt (Zi _) Ä rfl (Á Wd Ä) fun x=>by kernel_rfl
def aey:ZP 75 Vv:=zt (TX _) (Á ajL Ä) rfl (Á RP Ä) fun x=>by kernel_rfl
def ajJ:ZP 95 Yp:=zt (Fk _) (Á aey Ä) rfl (Á OC (Á OD Ä)) fun x=>by kernel_rfl
def oS:ZP 37 lH:=zt (Η _) (Á aey (Á ajJ Ä)) rfl (Á C4 (Á C3 (Á C2 (Á C1 Ä)))) fun x=>He x some
def ajR:ZP 124 Yw:=zt (Fu _) Ä rfl (Á Pc (Á Pd Ä)) fun x=>by kernel_rfl
def Xj:ZP 65 Gd:=zt (OW _) (Á FK (Á oS (Á ajR Ä))) rfl Ä fun x=>by kernel_rfl
def ajK:ZP 13 Yq:=zt (OP _) (Á QT (Á Xj Ä)) rfl (Á OO Ä) fun x=>by kernel_rfl
def agd:ZP 27 Tm:=zt (KM _) Ä rfl (Á Lr Ä) fun x=>by kernel_rfl
def Kk:ZP 140 vF:=zt (sk _) (Á my Ä) rfl (Á ya Ä) fun x=>by kernel_rfl
def al7:ZP 187 ado:=zt (JQ _) (Á BN Ä) rfl (Á Sv (Á Su Ä)) fun x=>by kernel_rfl
def SZ:ZP 141 Dn:=zt (Me _) (Á al7 Ä) rfl Ä fun x=>by kernel_rfl
def amc:ZP 83 adt:=zt (afH _) (Á xm (Á aeE (Á Kk (Á SZ Ä)))) rfl Ä fun x=>by kernel_rfl
def aaB:ZP 30 KI:=zt (RK _) (Á nu (Á aay (Á amc Ä))) rfl Ä fun x=>by kernel_rfl
def acq:ZP 142 NH:=zt (Hj _) Ä rfl (Á JJ Ä) fun x=>by kernel_rfl
def acr:ZP 84 NI:=zt (Wc _) (Á acq Ä) rfl Ä fun x=>by kernel_rfl
def acp:ZP 31 NG:=zt (Hg _) (Á QT (Á FK (Á oS (Á acr Ä)))) rfl (Á JI Ä) fun x=>by kernel_rfl
def agk:ZP 32 Tt:=zt (AE _) (Á ajL Ä) rfl (Á LG (Á LH Ä)) fun x=>by kernel_rfl
def acs:ZP 145 NJ:=zt (We _) (Á UY Ä) rfl Ä fun x=>by kernel_rfl
def agq:ZP 147 TA:=zt (Zq _) (Á QV (Á UZ (Á aaF (Á U0 Ä)))) rfl Ä fun x=>by kernel_rfl
def ajS:ZP 86 Yx:=zt (Fv _) (Á xi (Á BL (Á ru (Á aaD (Á acs (Á MZ (Á agq Ä))))))) rfl (Á Pr (Á Pq Ä)) fun x=>by kernel_rfl
def agj:ZP 33 Ts:=zt (KS _) (Á oS (Á BL (Á ru (Á ajS Ä)))) rfl (Á LF Ä) fun x=>by kernel_rfl
def c_w7_SwapProofs:ja Tryz.prog 5 mH:=Mz (kz _) (fun {_}=>C6 (Á agc (Á acm (Á agl (Á ajK (Á yK (Á agd (Á aaA (Á ED (Á aaB (Á acp (Á agk (Á agj (Á QT (Á aaG (Á FK (Á oS Ä)))))))))))))))) (kz _) rfl rfl rfl rfl rfl (aiL (js:=tB) rfl) (mb rfl) (jb rfl)) hmix rfl (Á Aa Ä) (mj fun x=>EW x some)
end Go.Proofs.ZzM
end
