/- lemmas -/
import Derived.Test.YtenljaeklhlanaaGreatAmD
import Derived.Test.YtenljaeklhlanaaGreatAmE
import Derived.Ground.NamesProg
import Derived.Ground.Names2Prog
import Derived.KernelRfl
import Derived.Test.YtenljaeklhlanaaGreatMdMA
import Derived.Test.YtenljaeklhlanaaGreatMdKC
import Derived.Test.YtenljaeklhlanaaGreatMdPA
import Derived.RangeFuncBox
import Derived.Lib.SliceRun
import Derived.RangeFuncLeaves
import Derived.WalkKit
import Derived.OwnWalkIn
import Derived.TacticsInMore
import Derived.LoopNIn
import Derived.LoopIn
import Derived.Test.YtenljaeklhlanaaGreatProg
import Derived.RangeFuncFrom
import Derived.RangeFuncRecord
import Derived.Laws.CopyRow
import Derived.Laws.IdiomCopy
import Derived.Test.YtenljaeklhlanaaGreatAmA
import Derived.Test.YtenljaeklhlanaaGreatMdKB
import Derived.Test.YtenljaeklhlanaaGreatMdKA
set_option linter.all false
noncomputable section
namespace Go.Proofs
open Go.Shelf
def Tryz.laysSort_ren:Go.Shelf.Ren:=⟨fun|189=>133|125=>180|257=>179|128=>222|129=>223|294=>213|295=>214|296=>215|297=>216|298=>217|299=>218|216=>219|300=>220|301=>221|328=>250|329=>251|330=>252|331=>253|332=>254|215=>171|343=>268|n=>n,fun|28=>34|3=>3|46=>115|0=>0|51=>261|53=>263|4=>4|183=>254|182=>253|131=>203|5=>5|9=>9|218=>284|222=>288|228=>297|229=>298|n=>n,fun|n=>n⟩
def Tryz.laysSort:Go.Proofs.Lays.n189 Tryz.prog Tryz.laysSort_ren:={
 mixed:=by kernel_rfl
 f125:=Tryz.func180.trans (congrArg some (by kernel_rfl))
 f128:=Tryz.func222.trans (congrArg some (by kernel_rfl))
 f129:=Tryz.func223.trans (congrArg some (by kernel_rfl))
 f189:=Tryz.func133.trans (congrArg some (by kernel_rfl))
 f215:=Tryz.func171.trans (congrArg some (by kernel_rfl))
 f216:=Tryz.func219.trans (congrArg some (by kernel_rfl))
 f257:=Tryz.func179.trans (congrArg some (by kernel_rfl))
 f294:=Tryz.func213.trans (congrArg some (by kernel_rfl))
 f295:=Tryz.func214.trans (congrArg some (by kernel_rfl))
 f296:=Tryz.func215.trans (congrArg some (by kernel_rfl))
 f297:=Tryz.func216.trans (congrArg some (by kernel_rfl))
 f298:=Tryz.func217.trans (congrArg some (by kernel_rfl))
 f299:=Tryz.func218.trans (congrArg some (by kernel_rfl))
 f300:=Tryz.func220.trans (congrArg some (by kernel_rfl))
 f301:=Tryz.func221.trans (congrArg some (by kernel_rfl))
 f328:=Tryz.func250.trans (congrArg some (by kernel_rfl))
 f329:=Tryz.func251.trans (congrArg some (by kernel_rfl))
 f330:=Tryz.func252.trans (congrArg some (by kernel_rfl))
 f331:=Tryz.func253.trans (congrArg some (by kernel_rfl))
 f332:=Tryz.func254.trans (congrArg some (by kernel_rfl))
 f343:=Tryz.func268.trans (congrArg some (by kernel_rfl))
 t0:=Tryz.underlying0
 a0:=Tryz.isAgg0
 z0:=Tryz.sizeOf0
 v0:=Tryz.zeroValue0
 t3:=Tryz.underlying3
 a3:=Tryz.isAgg3
 z3:=Tryz.sizeOf3
 v3:=Tryz.zeroValue3
 t4:=Tryz.underlying4
 a4:=Tryz.isAgg4
 z4:=Tryz.sizeOf4
 v4:=Tryz.zeroValue4
 t5:=Tryz.underlying5
 a5:=Tryz.isAgg5
 z5:=Tryz.sizeOf5
 v5:=Tryz.zeroValue5
 t9:=Tryz.underlying9
 a9:=Tryz.isAgg9
 z9:=Tryz.sizeOf9
 v9:=Tryz.zeroValue9
 t28:=Tryz.underlying34
 a28:=Tryz.isAgg34
 z28:=Tryz.sizeOf34
 v28:=Tryz.zeroValue34
 t46:=Tryz.underlying115
 a46:=Tryz.isAgg115
 z46:=Tryz.sizeOf115
 v46:=Tryz.zeroValue115
 t51:=Tryz.underlying261
 a51:=Tryz.isAgg261
 z51:=Tryz.sizeOf261
 v51:=Tryz.zeroValue261
 t53:=Tryz.underlying263
 a53:=Tryz.isAgg263
 z53:=Tryz.sizeOf263
 v53:=Tryz.zeroValue263
 t131:=Tryz.underlying203
 a131:=Tryz.isAgg203
 z131:=Tryz.sizeOf203
 v131:=Tryz.zeroValue203
 t182:=Tryz.underlying253
 a182:=Tryz.isAgg253
 z182:=Tryz.sizeOf253
 v182:=Tryz.zeroValue253
 t183:=Tryz.underlying254
 a183:=Tryz.isAgg254
 z183:=Tryz.sizeOf254
 v183:=Tryz.zeroValue254
 t218:=Tryz.underlying284
 a218:=Tryz.isAgg284
 z218:=Tryz.sizeOf284
 v218:=Tryz.zeroValue284
 t222:=Tryz.underlying288
 a222:=Tryz.isAgg288
 z222:=Tryz.sizeOf288
 v222:=Tryz.zeroValue288
 t228:=Tryz.underlying297
 a228:=Tryz.isAgg297
 z228:=Tryz.sizeOf297
 v228:=Tryz.zeroValue297
 t229:=Tryz.underlying298
 a229:=Tryz.isAgg298
 z229:=Tryz.sizeOf298
 v229:=Tryz.zeroValue298}
def Tryz.laysCompact_ren:Go.Shelf.Ren:=⟨fun|20=>242|n=>n,fun|22=>34|3=>3|4=>4|0=>0|n=>n,fun|n=>n⟩
def Tryz.laysCompact:Go.Proofs.Lays2.n20 Tryz.prog Tryz.laysCompact_ren:={
 mixed:=by kernel_rfl
 f20:=Tryz.func242.trans (congrArg some (by kernel_rfl))
 t0:=Tryz.underlying0
 a0:=Tryz.isAgg0
 z0:=Tryz.sizeOf0
 v0:=Tryz.zeroValue0
 t3:=Tryz.underlying3
 a3:=Tryz.isAgg3
 z3:=Tryz.sizeOf3
 v3:=Tryz.zeroValue3
 t4:=Tryz.underlying4
 a4:=Tryz.isAgg4
 z4:=Tryz.sizeOf4
 v4:=Tryz.zeroValue4
 t22:=Tryz.underlying34
 a22:=Tryz.isAgg34
 z22:=Tryz.sizeOf34
 v22:=Tryz.zeroValue34
 i3:=by kernel_rfl}
end Go.Proofs
namespace Go.Proofs.ZzM
open Go Go.Am
def hmix:Tryz.prog.follows .mixedOrders=true:=by kernel_rfl
def plain_ : (Tryz.prog.funcs.toList.all fun fn => !(fn.name == "runtime.NumGoroutine")) = true := by kernel_rfl
def plain (f : Nat) (fn : Func) (h : Tryz.prog.funcs[f]? = some fn) : (fn.name == "runtime.NumGoroutine") = false := by
 have:=dG.1 plain_ fn (de (i:=f) (by simpa using h));simpa using this
def amS:Tryz.laysSort_ren.f 189=133:=by kernel_rfl
def aes:Tryz.laysCompact_ren.f 20=242:=by kernel_rfl
section
variable [Ghost] {ρ:Type}
def sortOk (f:Nat) (a:TY f=true) (h:CK Blk) (x:AV) (K:AV->CK Blk->BY ρ) (q:ρ) (e:Uz h x K=some q) (ν:Nat->Value) (w:World) (u:Value) (H:HR ν h w) (b:VR ν h w x u):IX Tryz.prog f ν h w [u] K q:=by
 have c:f=133:=by
  unfold TY at a
  split at a
  ·rfl
  ·cases a
 subst c;have:=amH Tryz.laysSort e H b ⟨_,rfl⟩
 rwa [amS] at this
def aiA (f:Nat) (a:wj f=true) (h:CK Blk) (x:AV) (K:AV->CK Blk->BY ρ) (q:ρ) (e:qv h x K=some q) (ν:Nat->Value) (w:World) (u:Value) (H:HR ν h w) (b:VR ν h w x u):IX Tryz.prog f ν h w [u] K q:=by
 have c:f=242:=by
  unfold wj at a
  split at a
  ·rfl
  ·cases a
 subst c;have:=afg Tryz.laysCompact e H b ⟨_,rfl⟩
 rwa [aes] at this
def anr:J9 Tryz.prog JK:=by
 intro g c fz S nid x v d e ν w u H a b hd;unfold JK at c
 split at c
 ·exact B0 Tryz.func103 (T:=27) (by kernel_rfl) (by kernel_rfl) e H a b hd
 ·exact B0 Tryz.func131 (T:=24) (by kernel_rfl) (by kernel_rfl) e H a b hd
 ·exact B0 Tryz.func165 (T:=34) (by kernel_rfl) (by kernel_rfl) e H a b hd
 ·exact B0 Tryz.func247 (T:=25) (by kernel_rfl) (by kernel_rfl) e H a b hd
 ·exact B0 Tryz.func248 (T:=26) (by kernel_rfl) (by kernel_rfl) e H a b hd
 ·exact B0 Tryz.func249 (T:=28) (by kernel_rfl) (by kernel_rfl) e H a b hd
 ·cases c
def Cy {c:CK (Nat×þ)} (h:∀e∈c,i5 Tryz.prog e.1 e.2) (E:Env ρ) (b:E.P=Tryz.prog) (l:E.pure=abk c) (h2:E.sort=TY) (k:E.compact=wj) (j:E.clone=JK) (i:aaf E) (g:∀f X,E.ext f=some X->afT E.P f X) (d:lF E):IV E:=by
 constructor
 ·intro f p a;rw[l] at a;rw[b];exact h (f,p) (Ud a)
 ·intro f a;rw[h2] at a;rw[b];exact sortOk f a
 ·intro f a;rw[k] at a;rw[b];exact aiA f a
 ·rw[b]; exact plain
 ·rw[b,j]; exact anr
 ·exact i
 ·exact d
 ·exact g
def libN {a:CK (Nat×þ)} (h:∀e∈a,i5 Tryz.prog e.1 e.2) (tab:CK (ô ρ)):IV (Ù a tab):=Cy h _ rfl rfl rfl rfl rfl (ŗ rfl) (lS rfl) (i6 rfl)
end
abbrev ZP (f:Nat) (p:þ):Prop:=i5 Tryz.prog f p
def zt {f:Nat} {p:þ} {a:CK (Nat×þ)} {tab:CK (ô (Val (tyL p.rs)))} (E:Env (Val (tyL p.rs))) (c:∀e∈a,i5 Tryz.prog e.1 e.2) (d:E=Ù a tab) (b:∀x∈tab,x.Ok E) (law:∀x:Val (tyL p.ts),topK E f (abo p.ts x) (fun h v=>Ã (amR p.rs h v) some)=p.F x):i5 Tryz.prog f p:=by
 subst d;exact L4 (Ù a tab) (fun {_}=>libN c _) hmix (tab:=tab) rfl b (l5 law)
end Go.Proofs.ZzM
end

noncomputable section
set_option maxRecDepth 100000
namespace Go.Proofs.ZzM
open Go Go.Am
def nf:ZP 52 jJ:=zt (lh _) Ä rfl (Á vN (Á vM Ä)) fun x=>by kernel_rfl
noncomputable def Sc {n:Nat} (b:lG Tryz.prog ⟨206,(.slice tI),(.slice tI),aam n⟩):lG Tryz.prog ⟨206,(.slice tI),(.slice tI),aam (n+1)⟩:=VT ⟨206,(.slice tI),(.slice tI),aam (n+1)⟩ (fun al=>ą al (aam n) _) rfl (fun _=>rfl) (fun _=>rfl) (fun _ {_} a=>Cy (Á nf Ä) _ rfl rfl rfl rfl rfl (ŗ rfl) (lS rfl) a) hmix (fun al=>HO (E:=ą al (aam n) _) hmix (tab:=yr al (aam n) _) rfl (Á Gf Ä) (rtab:=zB al (aam n) _) rfl (Á (Ge b) Ä) (Á Gd Ä)) (fun m xs h=>(KZ m (aam (n+1))).trans (agU h))
def IE:∀n:Nat,lG Tryz.prog ⟨206,(.slice tI),(.slice tI),aam n⟩
 |0=>⟨rfl,fun _ _ m xs h=>(Nat.not_lt_zero _ (acl (n:=0) (l:=m) (xs:=xs) h).1).elim⟩
 |n+1=>Sc (IE n)
def aiO:lG Tryz.prog PB:=(IE 10).mono fun _ _ h=>aey h
noncomputable def LO {n:Nat} (b:lG Tryz.prog ⟨168,(.slice ė),(.slice (.slice tI)),aan n⟩):lG Tryz.prog ⟨168,(.slice ė),(.slice (.slice tI)),aan (n+1)⟩:=VT ⟨168,(.slice ė),(.slice (.slice tI)),aan (n+1)⟩ (fun al=>í al (aan n) _) rfl (fun _=>rfl) (fun _=>rfl) (fun _ {_} a=>Cy Ä _ rfl rfl rfl rfl rfl (ŗ rfl) (lS rfl) a) hmix (fun al=>HO (E:=í al (aan n) _) hmix (tab:=ti al (aan n) _) rfl Ä (rtab:=vr al (aan n) _) rfl (Á (Cn b) (Á (Cr aiO) Ä)) (Á Cm (Á Cq Ä))) (fun m xs h=>(Gt m (aan (n+1))).trans (abx h))
def AY:∀n:Nat,lG Tryz.prog ⟨168,(.slice ė),(.slice (.slice tI)),aan n⟩
 |0=>⟨rfl,fun _ _ m xs h=>(Nat.not_lt_zero _ (acm (n:=0) (l:=m) (xs:=xs) h).1).elim⟩
 |n+1=>LO (AY n)
def Qb:lG Tryz.prog rV:=(AY 10).mono fun _ _ h=>ZR h
def aiN:lG Tryz.prog HS:=VT HS (fun al=>Ď al (fun _=>none) _) rfl (fun _=>rfl) (fun _=>rfl) (fun _ {_} a=>Cy Ä _ rfl rfl rfl rfl rfl (ŗ rfl) (lS rfl) a) hmix (fun _=>Me hmix rfl (Á sG Ä) rfl) (fun m xs h=>(vK m Bw).trans (af8 h))
def B8:ZP 152 vg:=zt (Zi _) Ä rfl Ä fun x=>by kernel_rfl
def ob:ZP 163 l6:=zt (Zf _) Ä rfl Ä fun x=>by kernel_rfl
def IK:ZP 197 zh:=zt (aa5 _) (Á ob Ä) rfl Ä fun x=>by kernel_rfl
def adR:ZP 264 UU:=zt (aeS _) Ä rfl Ä fun x=>by kernel_rfl
def ajd:ZP 265 aaI:=zt (Zb _) Ä rfl (Á VF Ä) fun x=>by kernel_rfl
def IJ:ZP 236 FS:=zt (aa3 _) (Á adR (Á ajd Ä)) rfl Ä fun x=>by kernel_rfl
def abJ:ZP 195 Nj:=zt (HF _) (Á B8 (Á ob (Á IK (Á IJ Ä)))) rfl Ä fun x=>Pq x some
def Qs:ZP 153 zi:=zt (vY _) (Á abJ Ä) rfl (Á AF Ä) fun x=>by kernel_rfl
def Fe:ZP 154 wT:=zt (Hm _) Ä rfl (Á JC Ä) fun x=>by kernel_rfl
def wE:ZP 107 nD:=zt (rE _) Ä rfl (Á xb Ä) fun x=>by kernel_rfl
def iB:ZP 51 Ŧ:=zt (yG _) (Á wE Ä) rfl Ä fun x=>by kernel_rfl
def adS:ZP 202 UV:=zt (JF _) (Á iB Ä) rfl (Á RV (Á RU Ä)) fun x=>by kernel_rfl
def Qr:ZP 156 FV:=zt (EW _) (Á adS Ä) rfl (Á Pn (Á Po Ä)) fun x=>by kernel_rfl
def uS:ZP 198 og:=zt (LJ _) Ä rfl Ä fun x=>by kernel_rfl
def abI:ZP 196 aaK:=zt (VH _) (Á IK (Á uS Ä)) rfl Ä fun x=>by kernel_rfl
def WE:ZP 200 UW:=zt (mU _) (Á B8 (Á ob (Á uS Ä))) rfl (Á EZ (Á EY Ä)) fun x=>JG x some
def Up:ZP 105 Je:=zt (KD _) (Á ob Ä) rfl (Á LK Ä) fun x=>by kernel_rfl
def MA:ZP 106 FW:=zt (JE _) (Á iB Ä) rfl (Á RT (Á RS Ä)) fun x=>by kernel_rfl
def adT:ZP 204 UX:=zt (TP _) (Á ob Ä) rfl (Á RW Ä) fun x=>by kernel_rfl
def LR:ZP 201 KT:=zt (š _) (Á nf (Á Up (Á MA (Á B8 (Á ob (Á IK (Á uS (Á adT Ä)))))))) rfl (Á yK (Á yI (Á yJ (Á yH Ä)))) fun x=>Cx x some
end Go.Proofs.ZzM
end

noncomputable section
namespace Go.Proofs
open Go.RowKit
attribute [local go_sem] Oper.semAt_some
noncomputable def upE (f:Nat->Int) (k:Nat):CK Int:=(List.range k).map f
def sJ (f:Nat->Int) (k:Nat):upE f (k+1)=upE f k++[f k]:=by simp[upE,fA]
def Bf (f:Nat->Int) (k:Nat):(upE f k).length=k:=by simp[upE]
def LW (f:Nat->Int) {j k:Nat} (h:j<=k):upE f j <+: upE f k:=by
 have:k=j+(k-j):=by omega
 rw[this,upE,upE,List.range_add,fk];exact ew _ _
set_option maxRecDepth 100000 in
set_option maxHeartbeats 1000000 in
noncomputable def aks (te:TypeId) (n:Nat) (hn:1<=n) (l n₀ bb tb sb:Nat) (flo fhi ga mv:Value) (hbb:bb<n₀) (htb:tb<n₀) (hsb:sb<n₀)
 (ub uo ul uc kb ko kl kc:Nat) (ubase kbase lbase cbase:BY Addr) (ll lc cl cc:Nat) (hub:0<ul->ubase=some ⟨ub,uo,none⟩/\ub<n₀) (hkb:0<kl->kbase=some ⟨kb,ko,none⟩/\kb<n₀)
 (U K:Nat->Int×Int) (eU eL eC eK:Nat->Int)
 (hul:ul<=1000) (hll:ll<=1000) (hcl:cl<=1000) (hkl:kl<=1000)
 (W:World) (hb0:W.heap[bb]?=some (.cells #[flo,fhi,ga,.slice ubase ul uc,.slice lbase ll lc,.slice cbase cl cc,.slice kbase kl kc] te (0,0)))
 (ht:W.cell? ⟨tb,0,none⟩=some (.func (.func 196) #[] #[.pointer (some ⟨sb,0,none⟩)])) (hs:W.cell? ⟨sb,0,none⟩=some mv)
 (hU:∀j,j<ul->W.cell? ⟨ub,uo+j*2,none⟩=some (.int .i64 (U j).1)/\W.cell? ⟨ub,uo+j*2+1,none⟩=some (.int .i64 (U j).2))
 (hK:∀j,j<kl->W.cell? ⟨kb,ko+j*2,none⟩=some (.int .i64 (K j).1)/\W.cell? ⟨kb,ko+j*2+1,none⟩=some (.int .i64 (K j).2))
 (cU:∀j,j<ul->∀W',Below n₀ W W'->CallsIn Fence.wide (n-1) Tryz.prog 196 #[.int .i64 (U j).1,.int .i64 (U j).2,.pointer (some ⟨sb,0,none⟩)] W' fun e W''=>e=.returned (.int .i64 (eU j))/\W'.grownBy W'' none)
 (cK:∀j,j<kl->∀W',Below n₀ W W'->CallsIn Fence.wide (n-1) Tryz.prog 196 #[.int .i64 (K j).1,.int .i64 (K j).2,.pointer (some ⟨sb,0,none⟩)] W' fun e W''=>e=.returned (.int .i64 (eK j))/\W'.grownBy W'' none)
 (cL:∀j,j<ll->∀W',Below n₀ W W'->CallsIn Fence.wide (n-1) Tryz.prog 200 #[.agg #[flo,fhi,ga,.slice ubase ul uc,.slice lbase ll lc,.slice cbase cl cc,.slice kbase kl kc],mv,.int .i64 j] W' fun e W''=>e=.returned (.int .i64 (eL j))/\W'.grownBy W'' none)
 (cC:∀j,j<cl->∀W',Below n₀ W W'->CallsIn Fence.wide (n-1) Tryz.prog 201 #[.agg #[flo,fhi,ga,.slice ubase ul uc,.slice lbase ll lc,.slice cbase cl cc,.slice kbase kl kc],mv,.int .i64 j] W' fun e W''=>e=.returned (.int .i64 (eC j))/\W'.grownBy W'' none)
 (J Jx:CK Int->World->Prop) (hJ:∀pre W W',J pre W->W.grownBy W' none->J pre W') (hJx:∀pre W W',Jx pre W->W.grownBy W' none->Jx pre W')
 (hY:∀pre x W,J pre W->pre.length<ul+(ll+(cl+kl))->YieldAt Fence.wide (n-1) Tryz.prog l #[.int .i64 x] W fun e W' =>
  (e=.returned (.bool true)/\J (pre++[x]) W'/\Below n₀ W W')\/(e=.returned (.bool false)/\Jx (pre++[x]) W'))
 (h0 : J [] W) (hn₀ : n₀ <= W.heap.size) :
  CallsIn Fence.wide n Tryz.prog 199 #[.func (.yield l) #[] #[],.pointer (some ⟨bb,0,none⟩),.pointer (some ⟨tb,0,none⟩),.pointer (some ⟨sb,0,none⟩)] W fun e W'=>(∃v,e=.returned v) /\
   ((∃xs,xs=upE eU ul++(upE eL ll++(upE eC cl++upE eK kl))/\J xs W')\/(∃pre,(pre <+: upE eU ul++(upE eL ll++(upE eC cl++upE eK kl)))/\Jx pre W')):=by
 have grown_alloc:∀(X:World) (o:Obj),X.grownBy (X.alloc o) none:=fun X o=>World.grownBy_alloc X o none
 have bel:∀{X Y:World},Below n₀ W X->X.grownBy Y none->Below n₀ W Y:=fun {X Y} h g =>
  ⟨g.os.trans h.os,g.tape.trans h.tape,g.output.trans h.output,dr h.size g.size,fun k hk=>(g.block k (dw (dw hk hn₀) h.size) (by simp)).trans (h.block k hk)⟩
 have hc:∀{X:World},Below n₀ W X->X.heap[bb]?=some (.cells #[flo,fhi,ga,.slice ubase ul uc,.slice lbase ll lc,.slice cbase cl cc,.slice kbase kl kc] te (0,0)):=fun h=>(h.block bb hbb).trans hb0;refine callsIn_of_wp Tryz.func199 rfl trivial ?_ rfl;simp only[Tryz.ntmps199,fQ,dh,dN,Nat.reduceAdd,Nat.reduceSub,Array.replicate_succ,Array.replicate_zero,List.push_toArray,gQ,dH,eJ]
 have hb3:W.cell? ⟨bb,3,none⟩=some (.slice ubase ul uc):=by simp[World.cell?,hb0]
 gi_wp2
 gi_loopw [14] (fun i wr=>∃k:Nat,k<=ul/\i=.int .i64 k/\J (upE eU k) wr/\Below n₀ W wr)
  (fun i _=>ul-(intOf i).toNat)
 case atStart=>exact⟨0,dZ _,rfl,h0,Below.refl _ _⟩
 case round =>
  obtain⟨k,hk,rfl,hJs,hnx⟩:=hrel
  by_cases hlt:k<ul
  ·obtain⟨rfl,hlu⟩:=hub (by omega);have hu1:=(hnx.cell (p:=⟨ub,uo+k*2,none⟩) hlu).trans (hU k hlt).1;have hu2:=(hnx.cell (p:=⟨ub,uo+k*2+1,none⟩) hlu).trans (hU k hlt).2;have ht':=(hnx.cell (p:=⟨tb,0,none⟩) htb).trans ht;have hta:∀o,(wr.alloc o).cell? ⟨tb,0,none⟩=some (.func (.func 196) #[] #[.pointer (some ⟨sb,0,none⟩)]):=fun o=>Lib.cell?_alloc_some _ ht'
   gi_wp2
   refine⟨trivial,(cU k hlt _ (bel hnx (grown_alloc _ _))).mono ?_⟩;rintro e W2 ⟨rfl,hg2⟩;obtain⟨fn,tmps,assign,body,hy,hR⟩:=hY _ (eU k) W2 (hJ _ _ _ (hJ _ _ _ hJs (grown_alloc _ _)) hg2) (by rw[Bf]; omega);have hb2:=bel (bel hnx (grown_alloc _ _)) hg2
   gi_wp2
   refine hR.mono ?_;rintro e W3 (⟨rfl,hJ3,hk3⟩|⟨rfl,hJx3⟩)
   ·gi_wp2
    go_roundw
    case rel=>exact⟨k+1,by omega,by simp,by rw[sJ]; exact hJ3,hb2.trans hk3⟩
    case measure=>simp[intOf]; omega
   ·gi_wp2
    refine bodyPost_ret (results_none rfl _ _ _) rfl ?_;refine⟨⟨_,rfl⟩,.inr ⟨_,?_,hJx3⟩⟩;rw[<-sJ];exact(LW eU (by omega)).trans (ew _ _)
  ·obtain rfl:ul=k:=by omega
   have hb4:wr.cell? ⟨bb,4,none⟩=some (.slice lbase ll lc):=by simp[World.cell?,hc hnx]
   gi_wp2
   gi_loopw [31] (fun i wr=>∃k:Nat,k<=ll/\i=.int .i64 k/\J (upE eU ul++upE eL k) wr/\Below n₀ W wr)
    (fun i _=>ll-(intOf i).toNat)
   case atStart=>exact⟨0,dZ _,rfl,by simpa[upE] using hJs,hnx⟩
   case round =>
    clear hJs hnx;obtain⟨k,hk,rfl,hJs,hnx⟩:=hrel
    by_cases hlt:k<ll
    ·have q0:wr.cell? ⟨bb,0,none⟩=some flo:=by simp[World.cell?,hc hnx]
     have q1:wr.cell? ⟨bb,1,none⟩=some fhi:=by simp[World.cell?,hc hnx]
     have q2:wr.cell? ⟨bb,2,none⟩=some ga:=by simp[World.cell?,hc hnx]
     have q3:wr.cell? ⟨bb,3,none⟩=some (.slice ubase ul uc):=by simp[World.cell?,hc hnx]
     have q4:wr.cell? ⟨bb,4,none⟩=some (.slice lbase ll lc):=by simp[World.cell?,hc hnx]
     have q5:wr.cell? ⟨bb,5,none⟩=some (.slice cbase cl cc):=by simp[World.cell?,hc hnx]
     have q6:wr.cell? ⟨bb,6,none⟩=some (.slice kbase kl kc):=by simp[World.cell?,hc hnx]
     have hs':=(hnx.cell (p:=⟨sb,0,none⟩) hsb).trans hs
     gi_wp2
     refine⟨trivial,(cL k hlt _ hnx).mono ?_⟩;rintro e W2 ⟨rfl,hg2⟩;obtain⟨fn,tmps,assign,body,hy,hR⟩:=hY _ (eL k) W2 (hJ _ _ _ hJs hg2) (by simp only[cZ,Bf]; omega);have hb2:=bel hnx hg2
     gi_wp2
     refine hR.mono ?_;rintro e W3 (⟨rfl,hJ3,hk3⟩|⟨rfl,hJx3⟩)
     ·gi_wp2
      go_roundw
      case rel=>exact⟨k+1,by omega,by simp,by rw[sJ,<-dj]; exact hJ3,hb2.trans hk3⟩
      case measure=>simp[intOf]; omega
     ·gi_wp2
      refine bodyPost_ret (results_none rfl _ _ _) rfl ?_;refine⟨⟨_,rfl⟩,.inr ⟨_,?_,hJx3⟩⟩;rw[dj,<-sJ];exact(eY _).2 ((LW eL (by omega)).trans (ew _ _))
    ·obtain rfl:ll=k:=by omega
     have hb5:wr.cell? ⟨bb,5,none⟩=some (.slice cbase cl cc):=by simp[World.cell?,hc hnx]
     gi_wp2
     gi_loopw [45] (fun i wr=>∃k:Nat,k<=cl/\i=.int .i64 k/\J (upE eU ul++upE eL ll++upE eC k) wr/\Below n₀ W wr)
      (fun i _=>cl-(intOf i).toNat)
     case atStart=>exact⟨0,dZ _,rfl,by simpa[upE] using hJs,hnx⟩
     case round =>
      clear hJs hnx;obtain⟨k,hk,rfl,hJs,hnx⟩:=hrel
      by_cases hlt:k<cl
      ·have q0:wr.cell? ⟨bb,0,none⟩=some flo:=by simp[World.cell?,hc hnx]
       have q1:wr.cell? ⟨bb,1,none⟩=some fhi:=by simp[World.cell?,hc hnx]
       have q2:wr.cell? ⟨bb,2,none⟩=some ga:=by simp[World.cell?,hc hnx]
       have q3:wr.cell? ⟨bb,3,none⟩=some (.slice ubase ul uc):=by simp[World.cell?,hc hnx]
       have q4:wr.cell? ⟨bb,4,none⟩=some (.slice lbase ll lc):=by simp[World.cell?,hc hnx]
       have q5:wr.cell? ⟨bb,5,none⟩=some (.slice cbase cl cc):=by simp[World.cell?,hc hnx]
       have q6:wr.cell? ⟨bb,6,none⟩=some (.slice kbase kl kc):=by simp[World.cell?,hc hnx]
       have hs':=(hnx.cell (p:=⟨sb,0,none⟩) hsb).trans hs
       gi_wp2
       refine⟨trivial,(cC k hlt _ hnx).mono ?_⟩;rintro e W2 ⟨rfl,hg2⟩;obtain⟨fn,tmps,assign,body,hy,hR⟩:=hY _ (eC k) W2 (hJ _ _ _ hJs hg2) (by simp only[cZ,Bf]; omega);have hb2:=bel hnx hg2
       gi_wp2
       refine hR.mono ?_;rintro e W3 (⟨rfl,hJ3,hk3⟩|⟨rfl,hJx3⟩)
       ·gi_wp2
        go_roundw
        case rel=>exact⟨k+1,by omega,by simp,by rw[sJ,<-dj]; exact hJ3,hb2.trans hk3⟩
        case measure=>simp[intOf]; omega
       ·gi_wp2
        refine bodyPost_ret (results_none rfl _ _ _) rfl ?_;refine⟨⟨_,rfl⟩,.inr ⟨_,?_,hJx3⟩⟩;rw[dj,<-sJ]
        exact by rw[dj]; exact(eY _).2 ((eY _).2 ((LW eC (by omega)).trans (ew _ _)))
      ·obtain rfl:cl=k:=by omega
       have hb6:wr.cell? ⟨bb,6,none⟩=some (.slice kbase kl kc):=by simp[World.cell?,hc hnx]
       gi_wp2
       gi_loopw [59] (fun i wr=>∃k:Nat,k<=kl/\i=.int .i64 k/\J ((upE eU ul++upE eL ll++upE eC cl)++upE eK k) wr/\Below n₀ W wr)
        (fun i _=>kl-(intOf i).toNat)
       case atStart=>exact⟨0,dZ _,rfl,by simpa[upE] using hJs,hnx⟩
       case round =>
        clear hJs hnx;obtain⟨k,hk,rfl,hJs,hnx⟩:=hrel
        by_cases hlt:k<kl
        ·obtain⟨rfl,hlk⟩:=hkb (by omega);have hu1:=(hnx.cell (p:=⟨kb,ko+k*2,none⟩) hlk).trans (hK k hlt).1;have hu2:=(hnx.cell (p:=⟨kb,ko+k*2+1,none⟩) hlk).trans (hK k hlt).2;have ht':=(hnx.cell (p:=⟨tb,0,none⟩) htb).trans ht;have hta:∀o,(wr.alloc o).cell? ⟨tb,0,none⟩=some (.func (.func 196) #[] #[.pointer (some ⟨sb,0,none⟩)]):=fun o=>Lib.cell?_alloc_some _ ht'
         gi_wp2
         refine⟨trivial,(cK k hlt _ (bel hnx (grown_alloc _ _))).mono ?_⟩;rintro e W2 ⟨rfl,hg2⟩;obtain⟨fn,tmps,assign,body,hy,hR⟩:=hY _ (eK k) W2 (hJ _ _ _ (hJ _ _ _ hJs (grown_alloc _ _)) hg2) (by simp only[cZ,Bf]; omega);have hb2:=bel (bel hnx (grown_alloc _ _)) hg2
         gi_wp2
         refine hR.mono ?_;rintro e W3 (⟨rfl,hJ3,hk3⟩|⟨rfl,hJx3⟩)
         ·gi_wp2
          go_roundw
          case rel=>exact⟨k+1,by omega,by simp,by rw[sJ,<-dj]; exact hJ3,hb2.trans hk3⟩
          case measure=>simp[intOf]; omega
         ·gi_wp2
          refine bodyPost_ret (results_none rfl _ _ _) rfl ?_;refine⟨⟨_,rfl⟩,.inr ⟨_,?_,hJx3⟩⟩;rw[dj,<-sJ,dj,dj];exact(eY _).2 ((eY _).2 ((eY _).2 (LW eK (by omega))))
        ·obtain rfl:kl=k:=by omega
         gi_wp2
         go_end0
         exact⟨⟨_,rfl⟩,.inl ⟨_,rfl,by simpa[dj] using hJs⟩⟩
end Go.Proofs
end

noncomputable section
set_option maxRecDepth 100000
namespace Go.Proofs.ZzM
open Go Go.Am Go.RowKit
def acj (p:String):Code:=.region 10 #[{dst:=some 5,op:=.assign (.tmp 49),type:=37,pos:=p,after:=#[],guard:=none}] false
def al5 (q r:String):Code:=.block 1 (.seq (.region 11 #[{dst:=some 50,op:=.move (.tmp 5),type:=37,pos:=q,after:=#[],guard:=none},{dst:=some 51,op:=.binOp .neq 37 (.tmp 50) (.const (.int .i64 0)) 37,type:=4,pos:=q,after:=#[{on:=0,ground:=.data}],guard:=none}] false)
 (.cond (.tmp 51) (.seq (.region 12 #[{dst:=some 52,op:=.move (.tmp 5),type:=37,pos:=r,after:=#[],guard:=none},{dst:=none,op:=.store 37 (.tmp 2) (.tmp 52),type:=0,pos:=r,after:=#[{on:=0,ground:=.data},{on:=0,ground:=.phase}],guard:=none}] false) .ret) .skip))
section
variable {P:Program} {F:Fence} {n:Nat}
def FZ {b:Array Oper} {i d:Nat} {o:Oper} {u:Value} {w w':World} {a:Act} {next:Act->World->Prop} {Q:Exit->Act->World->Prop} (m:∀f,F.fn f) (j:b[i]?=some o) (l:o.guard=none) (hd:o.dst=some d) (g:∀c,o.op≠.defer c)
 (e:(execOp a.eval o).run P w=.ok (.value u) w') (k:next (a.put (some d) u) w'):wpOpIn F n P b Q i next a w:=by
 unfold wpOpIn;rw[j]
 have h:Region.wanted o (yielded b a.tmps)=true:=by simp[Region.wanted,l]
 simp only[h,if_true];refine⟨fun _ _=>m _,?_⟩;rw[Oper.semAt_eq _ _ _ g,e];rw[<-hd] at k;exact k
def aeA {b:Array Oper} {i:Nat} {o:Oper} {w w':World} {a:Act} {next:Act->World->Prop} {Q:Exit->Act->World->Prop} (l:∀f,F.fn f) (h:b[i]?=some o) (j:o.guard=none) (hd:o.dst=none) (e:∀c,o.op≠.defer c)
 (d:(execOp a.eval o).run P w=.ok .skip w') (k:next a w'):wpOpIn F n P b Q i next a w:=by
 unfold wpOpIn;rw[h]
 have g:Region.wanted o (yielded b a.tmps)=true:=by simp[Region.wanted,j]
 simp only[g,if_true];refine⟨fun _ _=>l _,?_⟩;rw[Oper.semAt_eq _ _ _ e,d];show next (a.put o.dst undef) w';rw[hd];exact k
end
def kH (T:Array Value) (i j:Nat) (v:Value):(T.setIfInBounds i v).getD j undef=if i=j/\i<T.size then v else T.getD j undef:=by
 simp only[eF,fW]
 by_cases h:i=j
 ·subst h
  by_cases h2:i<T.size
  ·simp[h2]
  ·simp[h2]
 ·simp[h]
noncomputable def mark (D:Nat):Deferred:={target:=.collected D,args:=#[]}
structure Put1 (n₀ rb:Nat) (x:Int) (w W:World):Prop where
 os:W.os=w.os
 tape:W.tape=w.tape
 output:W.output=w.output
 size:w.heap.size<=W.heap.size
 block:∀k,k<n₀->k≠rb->W.heap[k]?=w.heap[k]?
 cell:∃e,W.heap[rb]?=some (.cells #[.int .i64 x] e (0,0))
set_option maxHeartbeats 4000000 in
def amP {a:Act} {w:World} {Q:Exit->Act->World->Prop} {lb:Array Value} {L:CK Int} {rb:Nat} {e0:TypeId} {v0:Value} {p q r:String}
 (O:SeqStopsK Fence.wide 1 Tryz.prog 199 lb (fun x:Int=>#[.int .i64 x]) (Below w.heap.size) (fun xs=>xs=L) (fun i=>i <+: L) L.length w)
 (hg:a.tmps.getD 48 undef=.func (.func 199) #[] lb) (h2:a.tmps.getD 2 undef=.pointer (some ⟨rb,0,none⟩)) (hsz:78<=a.tmps.size)
 (U:w.heap[rb]?=some (.cells #[v0] e0 (0,0)))
 (z:∀D W,(∀x∈L,x=0)->Below w.heap.size w W->w.heap.size<=D->W.heap[D]?=some (.deferred (some []))->Q .normal {a with defers:=mark D::a.defers} W)
 (m:∀D W x,L.find? (fun e=>e != 0)=some x->Put1 w.heap.size rb x w W->w.heap.size<=D->W.heap[D]?=some (.deferred (some []))->Q .ret {a with defers:=mark D::a.defers} W) :
 (Code.rangeFunc (.tmp 48) #[49] (acj p) (al5 q r)).wpIn Fence.wide 2 Tryz.prog Q a w:=by
 have X:∀f,Fence.wide.fn f:=fun _=>trivial;have R:=ģ U
 refine wpIn_rangeFunc_ownF (α:=Int) (encs:=fun x=>#[.int .i64 x]) (Kp:=Below w.heap.size) (S:=fun xs=>xs=L) (Sp:=fun i=>i <+: L) (N:=L.length) (w0:=w) rfl (by omega) hg trivial (fun args w=>?eg) O
  (fun h k=>h.trans k) (fun W l o o' hl ho hc hw=>belowK_b (cX _) W l o o' hl ho hc hw) (Below.refl _ _) (fun _=>rfl)
  (fun i W=>(∀x∈i,x=0)/\Below w.heap.size w W)
  (fun c i W=>c=.ret/\∃j x,i=j++[x]/\(∀x∈j,x=0)/\x≠0/\Put1 w.heap.size rb x w W)
  ?hI ?hIx ⟨by simp,Below.refl _ _⟩ (fun x=>{tmps:=(a.tmps.setIfInBounds 49 (.int .i64 x)).setIfInBounds 5 (.int .i64 x),defers:=[]}) ?hassign ?hbody ?z ?m
 case eg=>simp[callFunc,Sem.run_bind,run_program,Result.andThen_ok,Tryz.func199,plain 199 _ Tryz.func199,show Tryz.f199.body.isNone=false from rfl]; rfl
 case hI =>
  intro s W W' row ⟨E,h2⟩ g hr;exact⟨E,g.os.trans h2.os,g.tape.trans h2.tape,g.output.trans h2.output,dr h2.size g.size,fun k A=>(g.block k (dw A h2.size) (fun e=>by have:=(hr k e.symm).1; omega)).trans (h2.block k A)⟩
 case hIx =>
  intro c s W W' row ⟨E,j,x,h3,h4,h5,C⟩ g hr;have hb:∀k,k<w.heap.size->W'.heap[k]?=W.heap[k]?:=fun k A=>g.block k (dw A C.size) (fun e=>by have:=(hr k e.symm).1; omega)
  exact⟨E,j,x,h3,h4,h5,g.os.trans C.os,g.tape.trans C.tape,g.output.trans C.output,dr C.size g.size,fun k A G=>(hb k A).trans (C.block k A G),by
   obtain⟨e,he⟩:=C.cell
   exact⟨e,(hb rb R).trans he⟩⟩
 case hassign =>
  intro l x W K hK
  have hf:((#[49]:Array Tmp).zip #[Value.int .i64 x]).foldl (fun t (p,v)=>t.setIfInBounds p v) a.tmps=a.tmps.setIfInBounds 49 (.int .i64 x):=by simp
  rw[hf];refine wpIn_region ?_;rw[show ∀o:Oper,List.range (#[o]:Array Oper).size=[0] from fun _=>rfl,wpOpsIn_cons];refine FZ (d:=5) (u:=.int .i64 x) (w':=W) X rfl rfl rfl (by simp) ?_ hK;show Result.ok (Next.value ((a.tmps.setIfInBounds 49 (.int .i64 x)).getD 49 undef)) W=_;rw[kH,if_pos ⟨rfl,by omega⟩]
 case hbody =>
  intro l i x W ⟨E,hbel⟩ hpre;refine wpIn_block (wpIn_seq (wpIn_region ?_));rw[show ∀o p:Oper,List.range (#[o,p]:Array Oper).size=[0,1] from fun _ _=>rfl,wpOpsIn_cons]
  refine FZ (d:=50) (u:=.int .i64 x) (w':=W) X rfl rfl rfl (by simp) (by
   show Result.ok (Next.value (((a.tmps.setIfInBounds 49 (.int .i64 x)).setIfInBounds 5 (.int .i64 x)).getD 5 undef)) W=_
   rw[kH,if_pos ⟨rfl,by simp; omega⟩]) ?_
  rw[wpOpsIn_cons]
  refine FZ (d:=51) (u:=.bool (x != 0)) (w':=W) X rfl rfl rfl (by simp) (by
   show((do let u <-(do eqGuard .neq 37 (.tmp 50) (.const (.int .i64 0)) ((((a.tmps.setIfInBounds 49 (.int .i64 x)).setIfInBounds 5 (.int .i64 x)).setIfInBounds 50 (.int .i64 x)).getD 50 undef) (.int .i64 0); binOp .neq 37 ((((a.tmps.setIfInBounds 49 (.int .i64 x)).setIfInBounds 5 (.int .i64 x)).setIfInBounds 50 (.int .i64 x)).getD 50 undef) (.int .i64 0)); pure (.value u)):Sem Next).run Tryz.prog W=_;rw[kH,if_pos ⟨rfl,by simp; omega⟩]
   simp[eqGuard,binOp,Op.intCmp]) ?_
  show Code.wpIn (Fence.wide.inRound l) (2-1-1) Tryz.prog (Code.cond (.tmp 51) _ .skip) _ {tmps:=((((a.tmps.setIfInBounds 49 (.int .i64 x)).setIfInBounds 5 (.int .i64 x)).setIfInBounds 50 (.int .i64 x)).setIfInBounds 51 (.bool (x != 0))),defers:=[]} W;obtain⟨T,B⟩:∃T,T=((((a.tmps.setIfInBounds 49 (.int .i64 x)).setIfInBounds 5 (.int .i64 x)).setIfInBounds 50 (.int .i64 x)).setIfInBounds 51 (.bool (x != 0))):=⟨_,rfl⟩;rw[<-B]
  have J:T.getD 51 undef=.bool (x != 0):=by rw[B,kH,if_pos ⟨rfl,by simp; omega⟩]
  have t5:T.getD 5 undef=.int .i64 x:=by rw[B,kH,if_neg (by simp),kH,if_neg (by simp),kH,if_pos ⟨rfl,by simp; omega⟩]
  have t2:T.getD 2 undef=.pointer (some ⟨rb,0,none⟩):=by rw[B,kH,if_neg (by simp),kH,if_neg (by simp),kH,if_neg (by simp),kH,if_neg (by simp),h2]
  have tsz:78<=T.size:=by rw[B]; simpa using hsz
  clear B
  by_cases Y:x=0
  ·have I:Act.eval {tmps:=T,defers:=[]} (.tmp 51)=.bool false:=J.trans (by simp[Y]);refine wpIn_cond_false I (wpIn_skip ?_);simp only[Exit.inBlock,ownPostK];exact⟨KeepsOthers.refl _,Below.refl _ _,fun y hy=>(df.1 hy).elim (E y) (fun h=>by rw[di] at h; rw[h,Y]),hbel⟩
  ·have I:Act.eval {tmps:=T,defers:=[]} (.tmp 51)=.bool true:=J.trans (by simp[Y]);refine wpIn_cond_true I (wpIn_seq (wpIn_region ?_));rw[show ∀o p:Oper,List.range (#[o,p]:Array Oper).size=[0,1] from fun _ _=>rfl,wpOpsIn_cons]
   have e5:(execOp (Act.eval {tmps:=T,defers:=[]}) {dst:=some 52,op:=.move (.tmp 5),type:=37,pos:=r,after:=#[],guard:=none}).run Tryz.prog W=.ok (.value (.int .i64 x)) W:=by
    show Result.ok (Next.value (T.getD 5 undef)) W=_;rw[t5]
   refine FZ (d:=52) (u:=.int .i64 x) (w':=W) X rfl rfl rfl (by simp) e5 ?_;rw[wpOpsIn_cons];have hW:W.heap[rb]?=some (.cells #[v0] e0 (0,0)):=(hbel.block rb R).trans U
   letI:Ghost:=(Gk (fun _=>False) [] (none))
   have hst:=yV (P:=Tryz.prog) (w:=W) (t:=37) (u:=.int .i64 x) (n:=1) (b:=rb) (o:=0) (by kernel_rfl) rfl hW (by simp) (by simp[Value.cells,Value.oneCell'])
   have M:(storeVar 37 ⟨rb,0,none⟩ (.int .i64 x)).run Tryz.prog W=.ok () (W.setRow rb #[.int .i64 x]):=by simpa[Value.cells] using hst
   have Z:(T.setIfInBounds 52 (.int .i64 x)).getD 52 undef=.int .i64 x:=by rw[kH,if_pos ⟨rfl,by omega⟩]
   have t2':(T.setIfInBounds 52 (.int .i64 x)).getD 2 undef=.pointer (some ⟨rb,0,none⟩):=by rw[kH,if_neg (by simp),t2]
   have e6:(execOp (Act.eval {tmps:=T.setIfInBounds 52 (.int .i64 x),defers:=[]}) {dst:=none,op:=.store 37 (.tmp 2) (.tmp 52),type:=0,pos:=r,after:=#[{on:=0,ground:=.data},{on:=0,ground:=.phase}],guard:=none}).run Tryz.prog W=.ok .skip (W.setRow rb #[.int .i64 x]):=by
    show((do Instr.storeAt 37 ((T.setIfInBounds 52 (.int .i64 x)).getD 2 undef) ((T.setIfInBounds 52 (.int .i64 x)).getD 52 undef); pure .skip):Sem Next).run Tryz.prog W=_;rw[Z,t2'];simp[Instr.storeAt,Instr.sureAddr,M]
   refine aeA (w':=W.setRow rb #[.int .i64 x]) X rfl rfl rfl (by simp) e6 ?_;refine wpIn_ret ?_;simp only[Exit.inBlock,ownPostK];refine⟨⟨by simp,fun k o A ho=>?_⟩,trivial,i,x,rfl,E,Y,hbel.os,hbel.tape,hbel.output,by simpa using hbel.size,fun k A G=>(setRow_other _ _ _ _ G).trans (hbel.block k A),⟨_,setRow_heap _ _ _ _ _ _ hW⟩⟩
   by_cases V:k=rb
   ·subst V; rw[hW] at A; cases A; simp[Obj.isCells] at ho
   ·rw[setRow_other _ _ _ _ V]; exact A
 case z =>
  intro D xs W hD hS ⟨E,hbel⟩ H;subst hS;exact z D W E hbel hD H
 case m =>
  intro D c i W hD hS ⟨hc,j,x,h3,h4,h5,C⟩ H;subst hc;refine wpIn_ret (m D W x ?_ C hD H);obtain⟨t,rfl⟩:=hS;rw[h3,dj,List.find?_append]
  have:List.find? (fun e=>e != 0) j=none:=eo.2 fun y hy=>by simp[h4 y hy]
  rw[this];simp[h5]
end Go.Proofs.ZzM
end

noncomputable section
set_option maxRecDepth 100000
namespace Go.Proofs.ZzM
open Go Go.Am Go.RowKit
noncomputable def fstC:Code->Code
 |.seq a _=>a
 |c=>c
noncomputable def sndC:Code->Code
 |.seq _ b=>b
 |c=>c
noncomputable def ag5:Nat->Code->Code
 |0,c=>fstC c
 |n+1,c=>ag5 n (sndC c)
noncomputable def ak7:Nat->Code->Code
 |0,c=>c
 |n+1,c=>ak7 n (sndC c)
noncomputable def ckB:Code:=Tryz.f96.body.getD .skip
noncomputable def ckA5:Code:=fstC (ak7 5 ckB |> fstC)
noncomputable def ckRF:Code:=sndC (ak7 5 ckB |> fstC)
noncomputable def Um:Code:=sndC (ak7 5 ckB)
noncomputable def ckPre:Code:=.seq (ag5 0 ckB) (.seq (ag5 1 ckB) (.seq (ag5 2 ckB) (.seq (ag5 3 ckB) (.seq (ag5 4 ckB) ckA5))))
def amp:Tryz.f96.body=some (.seq (ag5 0 ckB) (.seq (ag5 1 ckB) (.seq (ag5 2 ckB) (.seq (ag5 3 ckB) (.seq (ag5 4 ckB) (.seq (.seq ckA5 ckRF) Um)))))):=by kernel_rfl
noncomputable def ck_pt:CK (Nat×þ):=[(156,FV),(154,wT),(152,vg),(153,zi)]
noncomputable def ckE (ρ:Type):Env ρ:=Ù ck_pt []
abbrev ckR:Type:=Int ⊕ (CK AV×CK Blk)
noncomputable def aiL (S:St):BY Int:=match uX Tryz.prog Tryz.f96 S with
 |some v=>amR [tI] S.h v
 |none=>none
noncomputable def ckK (e:Exit) (S:St):BY ckR:=match e with
 |.ret=>match aiL S with
  |some n=>some (.inl n)
  |none=>none
 |.normal=>match decide (78<=S.t.length) with
  |true=>some (.inr ([lk S.t 1,lk S.t 2,lk S.t 48],S.h))
  |false=>none
 |_=>none
noncomputable def ckH (x:b6) (s:kw) (n:Int):CK Blk :=
 [.cells (flat Ë x),.cells [.int .i64 n],.cells (flat Ë x),.cells [.mp tI Ú s],.cells [.fn (.func 196) [] [.box 3 0]]]
noncomputable def ckM (x:b6):BY ckR :=
 Ã (Λ x.1 (0:Int) (1000000:Int)) fun r1=>ifb (!r1) (some (.inl 1)) (ifb (igt (Ó x.2.1) (12:Int)) (some (.inl 2)) (ifb (igt (Ó x.2.2.1) (40:Int)) (some (.inl 2)) (ifb (igt (Ó x.2.2.2.1) (12:Int)) (some (.inl 2)) (ifb (igt (Ó x.2.2.2.2.1) (40:Int)) (some (.inl 2)) (ifb (igt (Ó x.2.2.2.2.2) (10:Int)) (some (.inl 2))
  (Ã (ż x) fun r2=>ifb (ine r2 (0:Int)) (some (.inl r2)) (Ã (Ň x) fun a=>some (.inr ([.box 0 0,.box 1 0,.fn (.func 199) [] [.box 2 0,.box 4 0,.box 3 0]],ckH x a 0)))))))))
def ck_pre (x:b6):goC (ckE ckR) (ŧ (ckE ckR) 10) 96 [] 0 0 ckPre {t:=abo [Ë] x++List.replicate 77 .any,h:=[]} ckK=ckM x:=by kernel_rfl
noncomputable def alh (ρ:Type):Env ρ:={ckE ρ with inl:=fun _=>false}
noncomputable def ckS (x:b6):BY Int :=
 Ã (sg x) fun c=>ifb (igt (Ó c) (59:Int)) (some (2:Int)) (ck ((2:Int)*(Ó x.2.1)) fun n6=>ck ((Ó c)-(Ó x.2.1)) fun f=>ck ((2:Int)*f) fun e=>ck (n6+e) fun d=>ck ((2:Int)*(Ó x.2.2.2.2.1)) fun b=>ck (d+b) fun a=>ifb (igt a (300:Int)) (some (2:Int)) (some (0:Int)))
noncomputable def ckK2 (e:Exit) (S:St):BY Int:=match e with
 |.ret=>match lk S.t 2 with
  |.box 1 0=>match lkB S.h 1 with
   |.cells [.int .i64 n]=>some n
   |_=>none
  |_=>none
 |_=>none
def ck_suf (x:b6) (s:kw):goC (alh Int) (ŧ (alh Int) 10) 96 [] 0 0 Um {t:=[.any,.box 0 0,.box 1 0]++List.replicate 75 .any,h:=ckH x s 0} ckK2=ckS x:=by kernel_rfl
def alg (x:b6):ζ x=match ckM x with
 |none=>none
 |some (.inl n)=>some n
 |some (.inr _)=>Ã (Ň x) fun s=>Xu (pl x s) some (ckS x):=by
 unfold ζ Pu ckM ckS
 cases Λ x.1 (0:Int) (1000000:Int) with
 |none=>rfl
 |some r1 =>
 cases r1 with
 |false=>rfl
 |true =>
 simp only[Ã,ifb,dP]
 cases igt (Ó x.2.1) (12:Int) with
 |true=>rfl
 |false =>
 cases igt (Ó x.2.2.1) (40:Int) with
 |true=>rfl
 |false =>
 cases igt (Ó x.2.2.2.1) (12:Int) with
 |true=>rfl
 |false =>
 cases igt (Ó x.2.2.2.2.1) (40:Int) with
 |true=>rfl
 |false =>
 cases igt (Ó x.2.2.2.2.2) (10:Int) with
 |true=>rfl
 |false =>
 cases ż x with
 |none=>rfl
 |some r2 =>
 simp only
 cases ine r2 (0:Int) with
 |true=>rfl
 |false =>
 cases Ň x with
 |none=>rfl
 |some a=>rfl
def anu {x:b6} {q:CK AV×CK Blk} (h:ckM x=some (.inr q)):((x.2.2.1:CK bl).length<=1000/\(x.2.2.2.1:CK u6).length<=1000/\(x.2.2.2.2.1:CK i4).length<=1000/\(x.2.2.2.2.2:CK bl).length<=1000) /\
 ∃s,Ň x=some s/\q=([.box 0 0,.box 1 0,.fn (.func 199) [] [.box 2 0,.box 4 0,.box 3 0]],ckH x s 0):=by
 unfold ckM at h
 cases h0:Λ x.1 (0:Int) (1000000:Int) with
 |none=>rw[h0] at h; cases h
 |some r1 =>
 rw[h0] at h
 cases r1 with
 |false=>cases h
 |true =>
 simp only[Ã,ifb,dP] at h
 cases g:igt (Ó x.2.1) (12:Int) with
 |true=>rw[g] at h; cases h
 |false =>
 rw[g] at h
 cases h2:igt (Ó x.2.2.1) (40:Int) with
 |true=>rw[h2] at h; cases h
 |false =>
 rw[h2] at h
 cases c:igt (Ó x.2.2.2.1) (12:Int) with
 |true=>rw[c] at h; cases h
 |false =>
 rw[c] at h
 cases b:igt (Ó x.2.2.2.2.1) (40:Int) with
 |true=>rw[b] at h; cases h
 |false =>
 rw[b] at h
 cases a:igt (Ó x.2.2.2.2.2) (10:Int) with
 |true=>rw[a] at h; cases h
 |false =>
 rw[a] at h
 cases f:ż x with
 |none=>rw[f] at h; cases h
 |some r2 =>
 rw[f] at h;simp only at h
 cases e:ine r2 (0:Int) with
 |true=>rw[e] at h; cases h
 |false =>
 rw[e] at h
 cases d:Ň x with
 |none=>rw[d] at h; cases h
 |some i =>
 rw[d] at h
 have lt:∀{α:Type} (l:CK α) (n:Nat),igt (Ó l) (n:Int)=false->l.length<=n:=by
  intro α l n h;unfold Ó at h;rw[Nq] at h;simp only[igt,gt_iff_lt,decide_eq_false_iff_not] at h;omega
 simp only[Option.some.injEq,Sum.inr.injEq] at h;exact⟨⟨by have:=lt x.2.2.1 40 h2; omega,by have:=lt x.2.2.2.1 12 c; omega,by have:=lt x.2.2.2.2.1 40 b; omega,by have:=lt x.2.2.2.2.2 10 a; omega⟩,i,rfl,h.symm⟩
def F7 {α β:Type} {f:α->BY β}:∀{l:CK α} {m:CK β},Nw f l=some m->m.length=l.length/\∀(i:Nat) (a:α),l[i]?=some a->∃b,m[i]?=some b/\f a=some b
 |[],m,h=>by cases h; exact⟨rfl,fun i a ha=>by simp at ha⟩
 |a::l,m,h=>by
  unfold Nw at h
  cases ha:f a with
  |none=>rw[ha] at h; cases h
  |some b =>
   rw[ha] at h
   cases d:Nw f l with
   |none=>rw[d] at h; cases h
   |some j =>
    rw[d] at h;cases h;obtain⟨g,h2⟩:=F7 d;refine⟨by simp[g],fun i c e=>?_⟩
    cases i with
    |zero=>simp at e; subst e; exact⟨b,by simp,ha⟩
    |succ i=>simpa using h2 i c (by simpa using e)
def LX (l:CK Int):upE (fun j=>l[j]?.getD 0) l.length=l:=by
 unfold upE;refine List.ext_getElem (by simp) fun i a h2=>?_;simp at a;simp[a]
def CR.below {a:Nat} {w W:World} {av:Nat->Prop} (hb:Below a w W) (d:w.heap.size<=a) {t:Ty} {x:Val t} {vs:CK Value} (h:CR w av t x vs):CR W av t x vs :=
 h.keep fun b c ha=>⟨hb.block b (dw c d),ha⟩
def MP {w:World} {av:Nat->Prop} {xs:CK (Int×Int)} {v:Value} (h:CR w av (.slice Ç) xs [v]):∃base cap b off,v=.slice base xs.length cap/\(0<xs.length->base=some ⟨b,off,none⟩/\b<w.heap.size) /\
 ∀j,j<xs.length->w.cell? ⟨b,off+j*2,none⟩=some (.int .i64 (xs[j]?.getD (0,0)).1)/\w.cell? ⟨b,off+j*2+1,none⟩=some (.int .i64 (xs[j]?.getD (0,0)).2):=by
 obtain⟨base,cap,e,r,a⟩:=h;cases e;rcases a with a|⟨b,off,hb,f,d,a⟩
 ·refine⟨base,cap,0,0,rfl,fun h=>?_,fun j c=>?_⟩
  ·rw[show xs=[] from a] at h; simp at h
  ·rw[show xs=[] from a] at c; simp at c
 ·refine⟨base,cap,b,off,rfl,fun _=>⟨hb,d⟩,fun j c=>?_⟩;obtain⟨us,k,h2⟩:=a j xs[j] (cW c);obtain⟨u1,u2,o,i,g⟩:=k;have m:u1=[.int .i64 xs[j].1]:=i;have l:u2=[.int .i64 xs[j].2]:=g;subst m l o;have s:(Ç).size=2:=rfl;rw[s] at h2;have q:=h2 0 _ rfl;have p:=h2 1 _ rfl;rw[cW c];exact⟨by simpa using q,by simpa[Nat.add_assoc] using p⟩
end Go.Proofs.ZzM
end

noncomputable section
set_option maxRecDepth 100000
namespace Go.Proofs.ZzM
open Go Go.Am Go.RowKit
section
variable {w W W':World}
abbrev noG:Nat->Prop:=fun _=>False
def VU (w:World) (n:Int):mj w noG tI n (.int .i64 n):=⟨[.int .i64 n],rfl,rfl⟩
def am5 {a:Nat} {b:Value} {e:TypeId} {s:kw} (h:w.heap[a]?=some (.cells #[b] e (0,0))) (c:CR w noG (.map tI Ú) s [b]):mj w noG (.ptr (.map tI Ú)) s (.pointer (some ⟨a,0,none⟩)):=by
 letI:Ghost:=(Gk (fun _=>False) [] (none))
 exact⟨[.pointer (some ⟨a,0,none⟩)],⟨a,0,[b],rfl,id,ģ h,c,CellsAt.of_cells h⟩,rfl⟩
def amQ {y:Int} {u:Value} (h:RR w noG [tI] y u):u=.int .i64 y:=by
 obtain⟨us,a,rfl⟩:=h;have:us=[.int .i64 y]:=a;rw[this]; rfl
def akT (e:∀b,b<W.heap.size->W'.heap[b]?=W.heap[b]?) (h2:W.heap.size<=W'.heap.size) (d:W'.os=W.os) (c:W'.tape=W.tape) (a:W'.output=W.output):W.grownBy W' none :=
 ⟨d,c,a,h2,fun b hb _=>e b hb⟩
def Wr {f:Nat} {p:þ} (d:i5 Tryz.prog f p) (a:p.rs=[tI]) {x:Val (tyL p.ts)} {y:Int} (c:p.F x=some (a▸(show Val (tyL [tI]) from y))) {vals:CK Value} (ha:AL W noG p.ts x vals) :
 CallsIn Fence.wide 0 Tryz.prog f vals.toArray W fun e b=>e=.returned (.int .i64 y)/\W.grownBy b none:=by
 obtain⟨ts,rs,F⟩:=p;dsimp only at a c ha x;subst a;refine(d noG x y c W vals (fun _ h=>h.elim) ha).2.mono fun e w' ⟨u,h0,l,h2,k,j,i,g⟩=>⟨?_,akT h2 k j i g⟩;rw[h0,amQ l]
def WX {s:kw} {a b y:Int} (i:ň a b s=some y) {c:Nat} {f:Value} {e:TypeId} (h:W.heap[c]?=some (.cells #[f] e (0,0))) (g:CR W noG (.map tI Ú) s [f]) :
 CallsIn Fence.wide 0 Tryz.prog 196 #[.int .i64 a,.int .i64 b,.pointer (some ⟨c,0,none⟩)] W fun e d=>e=.returned (.int .i64 y)/\W.grownBy d none :=
 Wr abI rfl (x:=(a,b,s)) (y:=y) i (vals:=[.int .i64 a,.int .i64 b,.pointer (some ⟨c,0,none⟩)]) ⟨_,_,rfl,VU _ _,_,_,rfl,VU _ _,_,rfl,am5 h g⟩
def ahi {a:Value} {s:kw} (b:CR W noG (.map tI Ú) s [a]):mj W noG (.map tI Ú) s a:=⟨[a],b,rfl⟩
def adV {x:b6} {cs:Array Value} (hb:CR W noG Ë x cs.toList):mj W noG Ë x (.agg cs):=⟨cs.toList,hb,by show Value.agg cs=Value.agg cs.toList.toArray; rw[Array.toArray_toList]⟩
def ahK {x:b6} {s:kw} {i y:Int} (d:ε x s i=some y) {a:Value} {cs:Array Value} (hb:CR W noG Ë x cs.toList) (c:CR W noG (.map tI Ú) s [a]) :
 CallsIn Fence.wide 0 Tryz.prog 200 #[.agg cs,a,.int .i64 i] W fun e b=>e=.returned (.int .i64 y)/\W.grownBy b none :=
 Wr WE rfl (x:=(x,s,i)) (y:=y) d (vals:=[.agg cs,a,.int .i64 i]) ⟨_,_,rfl,adV hb,_,_,rfl,ahi c,_,rfl,VU _ _⟩
def ZQ {x:b6} {s:kw} {i y:Int} (d:ō x s i=some y) {a:Value} {cs:Array Value} (hb:CR W noG Ë x cs.toList) (c:CR W noG (.map tI Ú) s [a]) :
 CallsIn Fence.wide 0 Tryz.prog 201 #[.agg cs,a,.int .i64 i] W fun e b=>e=.returned (.int .i64 y)/\W.grownBy b none :=
 Wr LR rfl (x:=(x,s,i)) (y:=y) d (vals:=[.agg cs,a,.int .i64 i]) ⟨_,_,rfl,adV hb,_,_,rfl,ahi c,_,rfl,VU _ _⟩
end
def qT {w:World} {av:Nat->Prop} {t:Ty} {xs:CK (Val t)} {vs:CK Value} (h:CR w av (.slice t) xs vs):∃base cap,vs=[.slice base xs.length cap]:=by
 obtain⟨base,cap,e,_⟩:=h;exact⟨base,cap,e⟩
def akj {x:b6} {s:kw} {E A z D:CK Int} (h1:Nw (fun u=>ň u.1 u.2 s) (x.2.2.1:CK (Int×Int))=some E) (h2:Nw (fun i=>ε x s i) (yP (x.2.2.2.1:CK u6).length)=some A)
 (h3:Nw (fun i=>ō x s i) (yP (x.2.2.2.2.1:CK i4).length)=some z) (h4:Nw (fun u=>ň u.1 u.2 s) (x.2.2.2.2.2:CK (Int×Int))=some D)
 (o:(x.2.2.1:CK bl).length<=1000/\(x.2.2.2.1:CK u6).length<=1000/\(x.2.2.2.2.1:CK i4).length<=1000/\(x.2.2.2.2.2:CK bl).length<=1000)
 {w:World} {bb tb Q:Nat} {te te2 te3:TypeId} {cb:Array Value} {mv:Value} (Z:w.heap[bb]?=some (.cells cb te (0,0))) (M:CR w noG Ë x cb.toList) (Y:w.heap[tb]?=some (.cells #[.func (.func 196) #[] #[.pointer (some ⟨Q,0,none⟩)]] te2 (0,0)))
 (B:w.heap[Q]?=some (.cells #[mv] te3 (0,0))) (C:CR w noG (.map tI Ú) s [mv]) :
 SeqStopsK Fence.wide 1 Tryz.prog 199 #[.pointer (some ⟨bb,0,none⟩),.pointer (some ⟨tb,0,none⟩),.pointer (some ⟨Q,0,none⟩)] (fun x:Int=>#[.int .i64 x]) (Below w.heap.size) (fun xs=>xs=E++(A++(z++D))) (fun m=>m <+: (E++(A++(z++D)))) (E++(A++(z++D))).length w:=by
 intro l J Jx W d hJ hJx hY h0;obtain⟨fl,r0,e0,hfl,hr0⟩:=id M;obtain⟨ga,r1,e1,hga,hr1⟩:=hr0;obtain⟨us,r2,e2,G,hr2⟩:=hr1;obtain⟨lo,r3,e3,hlo,hr3⟩:=hr2;obtain⟨co,ko,e4,hco,I⟩:=hr3;obtain⟨f1,f2,e5,hf1,hf2⟩:=hfl;have e6:f1=[.int .i64 x.1.1]:=hf1;have e7:f2=[.int .i64 x.1.2]:=hf2;obtain⟨gab,gac,e8⟩:=qT hga;obtain⟨U,T,e9⟩:=qT hlo;obtain⟨cob,coc,e10⟩:=qT hco;obtain⟨usb0,usc0,O⟩:=qT G;obtain⟨kob0,koc0,N⟩:=qT I;rw[O] at G;rw[N] at I;obtain⟨S,R,ub,uo,e13,H,hU⟩:=MP G;obtain⟨X,V,kb,kof,e14,K,hK⟩:=MP I;rw[e13] at O;rw[e14] at N
 have L:cb=#[.int .i64 x.1.1,.int .i64 x.1.2,.slice gab (x.2.1:CK pi).length gac,.slice S (x.2.2.1:CK bl).length R,.slice U (x.2.2.2.1:CK u6).length T,.slice cob (x.2.2.2.2.1:CK i4).length coc,.slice X (x.2.2.2.2.2:CK bl).length V]:=by
  rw[<-eO,e0,e1,e2,e3,e4,e5,e6,e7,e8,e9,e10,O,N];rfl
 obtain⟨g1,q1⟩:=F7 h1;obtain⟨g2,q2⟩:=F7 h2;obtain⟨g3,q3⟩:=F7 h3;obtain⟨g4,q4⟩:=F7 h4
 have gl2:A.length=(x.2.2.2.1:CK u6).length:=by rw[g2]; simp[yP]
 have gl3:z.length=(x.2.2.2.2.1:CK i4).length:=by rw[g3]; simp[yP]
 have up1:upE (fun j=>E[j]?.getD 0) (x.2.2.1:CK bl).length=E:=by rw[<-g1]; exact LX E
 have up2:upE (fun j=>A[j]?.getD 0) (x.2.2.2.1:CK u6).length=A:=by rw[<-gl2]; exact LX A
 have up3:upE (fun j=>z[j]?.getD 0) (x.2.2.2.2.1:CK i4).length=z:=by rw[<-gl3]; exact LX z
 have up4:upE (fun j=>D[j]?.getD 0) (x.2.2.2.2.2:CK bl).length=D:=by rw[<-g4]; exact LX D
 have at1:∀{xs:CK (Int×Int)} {q:CK Int},(∀(i:Nat) (a:Int×Int),xs[i]?=some a->∃b,q[i]?=some b/\ň a.1 a.2 s=some b)->∀j,j<xs.length->ň (xs[j]?.getD (0,0)).1 (xs[j]?.getD (0,0)).2 s=some (q[j]?.getD 0):=by
  intro xs q hq j k;obtain⟨b,hb,hf⟩:=hq j xs[j] (cW k);rw[cW k,hb];exact hf
 have at2:∀{n:Nat} {q:CK Int} {f:Int->BY Int},(∀(i:Nat) (a:Int),(yP n)[i]?=some a->∃b,q[i]?=some b/\f a=some b)->∀j,j<n->f (j:Int)=some (q[j]?.getD 0):=by
  intro n q f hq j k;obtain⟨b,hb,hf⟩:=hq j j (by simp[yP,k]);rw[hb]; exact hf
 have c:∀{W':World},Below w.heap.size W W'->Below w.heap.size w W':=fun h=>d.trans h;have g:∀{W':World} {p:Addr} {v:Value},Below w.heap.size w W'->w.cell? p=some v->p.block<w.heap.size->W'.cell? p=some v:=fun {W'} {p} {v} h hc hp=>(h.cell (p:=p) hp).trans hc;have lb:=ģ Z;have lt:=ģ Y;have q:=ģ B
 have:=aks te 1 (by omega) l w.heap.size bb tb Q (.int .i64 x.1.1) (.int .i64 x.1.2) (.slice gab (x.2.1:CK pi).length gac) mv lb lt q
  ub uo (x.2.2.1:CK bl).length R kb kof (x.2.2.2.2.2:CK bl).length V S X U cob (x.2.2.2.1:CK u6).length T (x.2.2.2.2.1:CK i4).length coc H K
  (fun j=>(x.2.2.1:CK (Int×Int))[j]?.getD (0,0)) (fun j=>(x.2.2.2.2.2:CK (Int×Int))[j]?.getD (0,0)) (fun j=>E[j]?.getD 0) (fun j=>A[j]?.getD 0) (fun j=>z[j]?.getD 0) (fun j=>D[j]?.getD 0)
  o.1 o.2.1 o.2.2.1 o.2.2.2 W ((d.block bb lb).trans (by rw[Z,L])) (g d (by simp[World.cell?,Y]) lt) (g d (by simp[World.cell?,B]) q)
  (fun j k=>⟨g d (hU j k).1 (H (by omega)).2,g d (hU j k).2 (H (by omega)).2⟩) (fun j k=>⟨g d (hK j k).1 (K (by omega)).2,g d (hK j k).2 (K (by omega)).2⟩)
  (fun j k W' t=>WX (at1 q1 j k) (((c t).block Q q).trans B) (CR.below (c t) (cX _) C))
  (fun j k W' t=>WX (at1 q4 j k) (((c t).block Q q).trans B) (CR.below (c t) (cX _) C))
  (fun j k W' t=>ahK (at2 q2 j k) (by have:=CR.below (c t) (cX _) M; rwa [L] at this) (CR.below (c t) (cX _) C))
  (fun j k W' t=>ZQ (at2 q3 j k) (by have:=CR.below (c t) (cX _) M; rwa [L] at this) (CR.below (c t) (cX _) C))
  J Jx (fun m W1 W2 k hg=>hJ m W1 W2 none k hg (fun r e=>by cases e)) (fun m W1 W2 k hg=>hJx m W1 W2 none k hg (fun r e=>by cases e))
  (fun m y W1 k hl=>hY m y W1 k (by simp only[cZ]; omega)) h0 d.size
 rw[up1,up2,up3,up4] at this;exact this
end Go.Proofs.ZzM
end

noncomputable section
set_option maxRecDepth 100000
namespace Go.Proofs.ZzM
open Go Go.Am Go.RowKit
section
variable [Ghost] {ρ:Type} {ν:Nat->Value} {w:World}
def peel (k:Ghost.Q=none) {E:Env ρ} {call:CK Nat->Bool->Nat->CK AV->CK Blk->(AV->CK Blk->BY ρ)->BY ρ} {L:Nat} (s:nt E L call) (t:wK E L call) (p:E.joins=fun _ _ _ _=>none) {fid:Nat} {path:CK Nat} (m:path.length+2=L) {x y c:Code} {bid n:Nat} {S:St} {K:Exit->St->BY ρ} {r:ρ} {a:Act} {Q:Exit->Act->World->Prop}
 (q:∀z∈â bid x,uD E path fid z.1 z.2) (e:goC E call fid path 0 bid (.seq x y) S K=some r) (H:Sim ν S a w)
 (o:∀ν' b d w',Sim ν' b d w'->Ev 0 ν S.h w ν' b.h w'->goC E call fid path 0 bid y b K=some r->c.wpIn Fence.wide n E.P Q d w')
 (i:∀ν' b d w' e,e≠.normal->Sim ν' b d w'->Ev 0 ν S.h w ν' b.h w'->K e b=some r->Q e d w'):(Code.seq x c).wpIn Fence.wide n E.P Q a w:=by
 simp only[goC,p] at e;have j:=wn s t m x bid S _ ν a w q e H (dZ _);rw[adB k] at j;refine wpIn_seq (wpIn_wide.2 (wpIn_wide.1 (wpIn_mono j fun u d w' ha=>?_)));obtain⟨ν',b,g,h2,A,v,f⟩:=ha
 cases u with
 |normal=>exact o ν' b d w' g h2 f
 |exit id=>exact i ν' b d w' _ (by simp) g h2 f
 |goto l=>exact i ν' b d w' _ (by simp) g h2 f
 |ret=>exact i ν' b d w' _ (by simp) g h2 f
 |panic ch=>exact i ν' b d w' _ (by simp) g h2 f
 |outgrown=>exact i ν' b d w' _ (by simp) g h2 f
end
def agz {T:Array Value} {rb:Nat} {n:Int} {e:TypeId} {W:World} (h2:T.getD 2 undef=.pointer (some ⟨rb,0,none⟩)) (f:W.heap[rb]?=some (.cells #[.int .i64 n] e (0,0))):(results Tryz.f96 T).run Tryz.prog W=.ok (.int .i64 n) W:=by
 letI:Ghost:=(Gk (fun _=>False) [] (none))
 have d:(loadVar 37 ⟨rb,0,none⟩).run Tryz.prog W=.ok (.int .i64 n) W:=by
  have:=run_loadVar (P:=Tryz.prog) (w:=W) (t:=37) (agg:=false) (n:=1) (by kernel_rfl) (us:=[.int .i64 n]) rfl (fun _=>rfl) (a:=⟨rb,0,none⟩) (fun j v b=>by
   have:=CellsAt.of_cells f j v (by simpa using b)
   cases j with
   |zero=>simpa[Addr.add] using this
   |succ j=>simp at b)
  exact this
 have c:Tryz.f96.results=#[.cell 2 37]:=by kernel_rfl
 unfold results;rw[c,Array.mapM_eq_mapM_toList];simp only[Sem.run_bind,Sem.run_map,List.mapM_cons,List.mapM_nil,h2,asAddr,Sem.run_pure,Result.andThen_ok,d];rfl
@[reducible] def gck (G:Nat->Prop) (M:Nat):Ghost:=(Gh G).re G [] none M
def anD [Ghost] {ν:Nat->Value} {h:CK Blk} {w:World} {x:b6} {us:CK Value} (a:Ē (VRc ν h w) (flat Ë x) us):CR w noG Ë x us:=by
 have e:Û Ë (flat Ë x)=some x:=rfl;have h2:Ē (VRs w (Av ν h)) (flat Ë x) us:=a.mono fun c u b=>b.1.data;exact CR.mono (fun _ d=>d.elim) (Ġ e h2)
def D8 (G:Nat->Prop) (y:Int) (w:World) (e:Ending) (w':World):Prop :=
 ∃u,e=.returned u/\RR w' G [tI] y u/\(∀b,b<w.heap.size->w'.heap[b]?=w.heap[b]?)/\w.heap.size<=w'.heap.size/\w'.os=w.os/\w'.tape=w.tape/\w'.output=w.output
def adI {G:Nat->Prop} {y:Int} {w0 w:World} {a:Act} {ms:CK Nat} {rb:Nat} {e:TypeId} (hd:a.defers=ms.map mk1) (q:ms.Nodup) (i:∀k∈ms,w.heap[k]?=some (.deferred (some []))/\w0.heap.size<=k) (h2:a.tmps.getD 2 undef=.pointer (some ⟨rb,0,none⟩)) (g:w.heap[rb]?=some (.cells #[.int .i64 y] e (0,0)))
 (hb:∀b,b<w0.heap.size->w.heap[b]?=w0.heap[b]?) (c:w0.heap.size<=w.heap.size) (v:w.os=w0.os) (u:w.tape=w0.tape) (t:w.output=w0.output):LeavesInM Fence.wide 2 Tryz.prog Tryz.f96 a.tmps (D8 G y w0) a.defers .returning w:=by
 rw[hd]
 have d:rb∉ms:=fun h=>by rw[(i rb h).1] at g; cases g
 refine uq ms w q (fun k s=>(i k s).1) fun w2 p o m l j=>?_;exact⟨.int .i64 y,agz h2 ((j rb d).trans g),.int .i64 y,rfl,⟨[.int .i64 y],rfl,rfl⟩,fun b f=>(j b fun r=>by have:=(i b r).2; omega).trans (hb b f),by rw[p]; exact c,o.trans v,m.trans u,l.trans t⟩
def anv (S:St):ckK .ret S=(aiL S).map .inl:=by
 unfold ckK
 cases aiL S<;>rfl
def afl (S:St):ckK .normal S=if decide (78<=S.t.length)=true then some (.inr ([lk S.t 1,lk S.t 2,lk S.t 48],S.h)) else none:=by
 unfold ckK
 cases decide (78<=S.t.length)<;>rfl
def mb [Ghost] {ρ:Type} {E:Env ρ} (h0:E.loops=kE []) (c:E.ranges=fun _ _ _ _ _ _ _=>none) {path:CK Nat} {fid bid:Nat} {b:LI}:uD E path fid bid b:=by
 cases b with
 |lp b=>exact fun m S K r ν a w e=>by rw[h0] at e; cases e
 |rf g ps x y=>exact fun m S K r ν a w e=>by rw[c] at e; cases e
def amo {ρ:Type} (E:Env ρ) (e:E.P.follows .mixedOrders=true) (a:∀[Ghost],lF E->IV E) (h0:E.loops=kE []) (g:E.ranges=fun _ _ _ _ _ _ _=>none) (d:E.yld=none) [Ghost]:nt E 2 (ŧ E 10) :=
 sj a (fun L call b=>nZ e L call b) (fun n h b _ _ path f fn c _ _ _ z _=>mb h0 g) 10 (cX _) (i6 d)
noncomputable def amV:Code->String
 | .region _ ops _ => ((ops[0]?).map fun o => o.pos).getD ""
 | _ => ""
noncomputable def rfA:Code->Code
 |.block _ (.rangeFunc _ _ a _)=>a
 |_=>.skip
noncomputable def rfB:Code->Code
 |.block _ (.rangeFunc _ _ _ (.block _ (.seq a _)))=>a
 |_=>.skip
noncomputable def rfC:Code->Code
 |.block _ (.rangeFunc _ _ _ (.block _ (.seq _ (.cond _ (.seq a _) _))))=>a
 |_=>.skip
def ant:ckRF=Code.block 0 (Code.rangeFunc (.tmp 48) #[49] (acj (amV (rfA ckRF))) (al5 (amV (rfB ckRF)) (amV (rfC ckRF)))):=by kernel_rfl
def amn:∀e∈ck_pt,i5 Tryz.prog e.1 e.2:=Á Qr (Á Fe (Á B8 (Á Qs Ä)))
def aiM {e:Exit} {S:St} {n:Int} (h:ckK2 e S=some n):e=.ret/\lk S.t 2=.box 1 0/\lkB S.h 1=.cells [.int .i64 n]:=by
 unfold ckK2 at h
 split at h
 ·split at h
  ·rename_i h2
   split at h
   ·rename_i a;cases h;exact⟨rfl,h2,a⟩
   ·cases h
  ·cases h
 ·cases h
def Zx [Ghost] {ν:Nat->Value} {h:CK Blk} {w:World} {n:Int} {id:Nat} (H:HR ν h w) (d:lkB h id=.cells [.int .i64 n]):∃b e,ν id=.pointer (some ⟨b,0,none⟩)/\w.heap[b]?=some (.cells #[.int .i64 n] e (0,0)):=by
 have a:=H.blk id;rw[d] at a;obtain⟨b,c,e,k,h2,j⟩:=a;obtain⟨u,i,g⟩:=j.one;have f:u=.int .i64 n:=g.1;refine⟨b,e,k,?_⟩;rw[h2]
 have:c=#[.int .i64 n]:=by rw[<-eO,i,f]
 rw[this]
def J3 [Ghost] {ν:Nat->Value} {h:CK Blk} {w:World} {id off:Nat} {v:Value} {b:Nat} (a:VR ν h w (.box id off) v) (hb:ν id=.pointer (some ⟨b,0,none⟩)):v=.pointer (some ⟨b,off,none⟩):=by
 obtain⟨cs,e,d,h2,c⟩:=a;rw[hb] at h2;cases h2;exact c
def ans {G:Nat->Prop} {x:b6} {s:kw} {y:Int} (U:ckS x=some y) {ν:Nat->Value} {w0 w6 W:World} {a:Act} (H:@HR (gck G w0.heap.size) ν (ckH x s 0) w6) (hb:Below w6.heap.size w6 W) {ms:CK Nat} (hd:a.defers=ms.map mk1) (T:ms.Nodup) (C:∀k∈ms,W.heap[k]?=some (.deferred (some []))/\w0.heap.size<=k) (p:78<=a.tmps.size)
 (K:@VR (gck G w0.heap.size) ν (ckH x s 0) w6 (.box 0 0) (a.tmps.getD 1 undef)) (t2:@VR (gck G w0.heap.size) ν (ckH x s 0) w6 (.box 1 0) (a.tmps.getD 2 undef))
 (h0:∀b,b<w0.heap.size->w6.heap[b]?=w0.heap[b]?/\¬Fp ν (ckH x s 0) b) (B:w0.heap.size<=w6.heap.size) (q:w6.os=w0.os) (X:w6.tape=w0.tape) (V:w6.output=w0.output) :
 Um.wpIn Fence.wide 2 Tryz.prog (bodyPostM Fence.wide 2 Tryz.prog Tryz.f96 (D8 G y w0)) a W:=by
 have D:∀b,Fp ν (ckH x s 0) b->b<w6.heap.size:=fun b I=>@HR.ltA (gck G w0.heap.size) _ _ _ H b (.inl I)
 have v:∃b,ν 0=.pointer (some ⟨b,0,none⟩)/\a.tmps.getD 1 undef=.pointer (some ⟨b,0,none⟩):=by
  obtain⟨cs,b,_,h2,q⟩:=K;exact⟨b,h2,q⟩
 have u:∃b,ν 1=.pointer (some ⟨b,0,none⟩)/\a.tmps.getD 2 undef=.pointer (some ⟨b,0,none⟩):=by
  obtain⟨cs,b,_,h2,q⟩:=t2;exact⟨b,h2,q⟩
 letI:Ghost:=gck G w0.heap.size
 have H1:HR ν (ckH x s 0) w6:=H;have H2:HR ν (ckH x s 0) W:=(H1.grow (fun b f=>hb.block b f) hb.size hb.os hb.tape hb.output 0).2;have g:∀L call,nt (alh Int) L call->wK (alh Int) L call:=nZ hmix;have E:(alh Int).loops=kE []:=rfl;have d:nt (alh Int) 2 (ŧ (alh Int) 10):=amo (alh Int) hmix (fun {_} _=>Cy amn (alh Int) rfl rfl rfl rfl rfl (ŗ rfl) (lS rfl) (i6 rfl)) rfl rfl rfl;have law:=ck_suf x s;rw[U] at law
 have A:Sim ν {t:=[.any,.box 0 0,.box 1 0]++List.replicate 75 .any,h:=ckH x s 0} a W:=by
  refine⟨⟨⟨ms,hd.trans (dv _).symm,T,C⟩,fun l I=>(by cases I),dZ _,dr B hb.size⟩,by simpa using p,fun i=>?_,H2⟩;simp only[TV];rcases i with _|_|_|i
  ·trivial
  ·obtain⟨b,j,c⟩:=v;exact⟨_,b,rfl,j,c⟩
  ·obtain⟨b,j,c⟩:=u;exact⟨_,b,rfl,j,c⟩
  ·trivial
 refine wpIn_wide.2 (wpIn_wide.1 (wpIn_mono (wn d (g _ _ d) rfl Um 0 _ _ ν a W (fun z _=>mb E rfl) law A (dZ _)) fun e Z w' ha=>?_));obtain⟨ν',S',j,c,_,_,Y⟩:=ha;obtain⟨rfl,S,R⟩:=aiM Y;obtain⟨rb,te,r1,r2⟩:=Zx j.heap R;have J:=j.tmps 2;rw[S] at J;have M:=J3 J r1;obtain⟨⟨N,m1,Q,O⟩,_⟩:=j.defers;refine adI (w:=w') (a:=Z) (G:=G) (y:=y) (w0:=w0) (rb:=rb) (m1.trans (dv _)) Q O M r2 (fun b f=>?_) (by have:=c.size; have:=hb.size; omega) (c.os.trans (hb.os.trans q)) (c.tape.trans (hb.tape.trans X)) (c.output.trans (hb.output.trans V));have r:=h0 b f
 have o:b<w6.heap.size:=by omega
 have m:b<W.heap.size:=by have:=hb.size; omega
 exact(c.keep b m r.2).1.trans ((hb.block b o).trans r.1)
set_option maxHeartbeats 2000000 in
def afm (G:Nat->Prop) (x:b6) (y:Int) (r:ζ x=some y) (w:World) (vals:CK Value) (hG:∀b,G b->b<w.heap.size) (hAL:AL w G [Ë] x vals) :
 (∃fn c,Tryz.prog.funcs[96]?=some fn/\fn.body=some c)/\CallsIn Fence.wide 0 Tryz.prog 96 vals.toArray w (D8 G y w):=by
 rw[alg] at r
 letI:Ghost:=gck G w.heap.size
 have hpt:=amn;have hdraw:∀L call,nt (ckE ckR) L call->wK (ckE ckR) L call:=nZ hmix;have h0:(ckE ckR).loops=kE []:=rfl;have m:nt (ckE ckR) 2 (ŧ (ckE ckR) 10):=amo (ckE ckR) hmix (fun {_} _=>Cy hpt (ckE ckR) rfl rfl rfl rfl rfl (ŗ rfl) (lS rfl) (i6 rfl)) rfl rfl rfl;have hD:=hdraw _ _ m;have H:HR (fun _=>undef) [] w:=⟨fun _=>trivial,fun _ _ _ h=>(by cases h),hG,fun _ _ h=>(by cases h)⟩;have hav:∀b,Av (fun _=>undef) [] b->G b:=fun b hb=>hb.elim (fun⟨_,h,_⟩=>by cases h) id;have C:Ē (VR (fun _=>undef) [] w) (abo [Ë] x) vals:=AL.VR (hAL.mono hav);refine⟨⟨Tryz.f96,_,Tryz.func96,amp⟩,?_⟩
 have hlen:vals.length=1:=by
  have:=C.length;simpa[abo,ail] using this.symm
 cases hM:ckM x with
 |none=>rw[hM] at r; cases r
 |some r0 =>
 rw[hM] at r;have law:=ck_pre x;rw[hM] at law;refine callsIn_wide.2 (callsIn_wide.1 (callsIn_of_wp_marks (n:=2) Tryz.func96 amp trivial ?_ (R:=D8 G y w)))
 have hS:Sim (fun _=>undef) {t:=abo [Ë] x++List.replicate 77 .any,h:=[]} {tmps:=vals.toArray++Array.replicate (Tryz.f96.ntmps-vals.toArray.size) undef,defers:=[]} w:=by
  refine⟨⟨⟨[],rfl,gI,fun _ h=>(by cases h)⟩,fun l hl=>(by cases hl),dZ _,cX _⟩,?_,fun i=>?_,H⟩
  ·have:Tryz.f96.ntmps=78:=by kernel_rfl
   have hl2:(abo [Ë] x).length=1:=rfl;simp[this,hlen,hl2]
  ·simp only[TV];rcases dk i (abo [Ë] x).length with hi|hi
   ·have:=Ē.lk (R:=VR (fun _=>undef) [] w) (fun _=>trivial) i C
    have hv:i<vals.length:=by rw[<-C.length]; exact hi
    have h2:(vals.toArray++Array.replicate (Tryz.f96.ntmps-vals.toArray.size) undef).getD i undef=vals.getD i undef:=by
     simp[eF,f7,hv]
    rw[h2]; exact this
   ·rw[akE _ _ hi]; trivial
 -- the ways out ahead of the loop
 have out:∀ν' N Y w' e,e≠.normal->Sim ν' N Y w'->Ev 0 (fun _=>undef) [] w ν' N.h w'->ckK e N=some r0->bodyPostM Fence.wide 2 Tryz.prog Tryz.f96 (D8 G y w) e Y w':=by
  intro ν' N Y w' e K q E d
  cases e with
  |normal=>exact(K rfl).elim
  |ret =>
   rw[anv] at d
   cases hr:aiL N with
   |none=>rw[hr] at d; cases d
   |some n =>
    rw[hr,ee] at d;cases d
    have hyn:n=y:=by simpa using r
    subst hyn;unfold aiL at hr
    split at hr
    ·rename_i v hv;show LeavesInM _ _ _ _ _ _ Y.defers _ _;obtain⟨⟨ms,m1,m2,m3⟩,_,m4,m5⟩:=q.defers;rw[show Y.defers=ms.map mk1 from m1.trans (dv _)];refine uq ms w' m2 (fun k d=>(m3 k d).1) fun w2 q1 q2 q3 q4 q5=>?_
     have hk2:∀(b:Nat) (o:Obj),w'.heap[b]?=some o->S7 o=true\/b<(gck G w.heap.size).B->w2.heap[b]?=some o:=fun b o hb hd=>by
      have hbm:b∉ms:=fun hm=>by
       rw[(m3 b hm).1] at hb; cases hb;rcases hd with hd|hd
       ·cases hd
       ·exact absurd hd (Nat.not_lt_zero _)
      rw[q5 b hbm]; exact hb
     have KG:nr (gck G w.heap.size) ν' N.h w' (gck G w.heap.size).G w2:=nr.nds q2 q3 q4 (by omega) hk2
     have sim2:Sim ν' N {Y with defers:=[]} w2:=⟨⟨⟨[],rfl,gI,fun _ h=>(by cases h)⟩,fun l hl=>(by cases hl),dZ _,by rw[q1]; exact m5⟩,q.len,fun i=>VR.step (g:=gck G w.heap.size) (D:=[]) (Q:=none) (M:=w.heap.size) KG (q.tmps i),
      HR.step (g:=gck G w.heap.size) (D:=[]) (Q:=none) (M:=w.heap.size) KG (fun b hb=>by rw[q1]; exact q.heap.ghlt b hb) (fun b hb hg=>by obtain⟨id,h1,h2⟩:=hb; exact q.heap.ghne id b h1 h2 hg) q.heap⟩
     obtain⟨u,r1,r2⟩:=Sy sim2 hv;exact⟨u,r1,u,rfl,ack sim2.heap [tI] r2 hr,fun b hb=>(q5 b fun hm=>by have m7:w.heap.size<=b:=(m3 b hm).2; omega).trans (E.keep b hb fun⟨_,h,_⟩=>by cases h).1,by rw[q1]; exact E.size,q2.trans E.os,q3.trans E.tape,q4.trans E.output⟩
    ·cases hr
  |exit id=>cases d
  |goto l=>cases d
  |panic ch=>cases d
  |outgrown=>cases d
 have I:∀{U:Nat->Value} {h₁:CK Blk} {w₁:World},Ev 0 (fun _=>undef) [] w U h₁ w₁->∀ν' N Y w' e,e≠.normal->Sim ν' N Y w'->Ev 0 U h₁ w₁ ν' N.h w'->ckK e N=some r0->bodyPostM Fence.wide 2 Tryz.prog Tryz.f96 (D8 G y w) e Y w' :=
  fun hE ν' N Y w' e K q E d=>out ν' N Y w' e K q (hE.trans E (cX _)) d
 refine peel rfl m hD rfl rfl (fun z _=>mb h0 rfl) law hS (fun ν1 S1 a1 w1 s1 e1 k1=>?_) out;refine peel rfl m hD rfl rfl (fun z _=>mb h0 rfl) k1 s1 (fun ν2 S2 a2 w2 s2 e2 k2=>?_) (I e1);have t2:=e1.trans e2 (cX _);refine peel rfl m hD rfl rfl (fun z _=>mb h0 rfl) k2 s2 (fun ν3 S3 a3 w3 s3 e3 k3=>?_) (I t2);have t3:=t2.trans e3 (cX _);refine peel rfl m hD rfl rfl (fun z _=>mb h0 rfl) k3 s3 (fun ν4 S4 a4 w4 s4 e4 k4=>?_) (I t3);have t4:=t3.trans e4 (cX _);refine peel rfl m hD rfl rfl (fun z _=>mb h0 rfl) k4 s4 (fun ν5 S5 a5 w5 s5 e5 k5=>?_) (I t4);have t5:=t4.trans e5 (cX _);refine wpIn_seq (wpIn_seq (wpIn_wide.2 (wpIn_wide.1 (wpIn_mono (wn m hD rfl ckA5 0 S5 _ ν5 a5 w5 (fun z _=>mb h0 rfl) k5 s5 (dZ _)) fun e' Z w6 ha=>?_))));obtain⟨ν,S,V,e6,_,_,k6⟩:=ha;have J:=t5.trans e6 (cX _)
 have f:∀e,e≠.normal->ckK e S=some r0->Exit.then (Code.wpIn Fence.wide 2 Tryz.prog Um (bodyPostM Fence.wide 2 Tryz.prog Tryz.f96 (D8 G y w))) (bodyPostM Fence.wide 2 Tryz.prog Tryz.f96 (D8 G y w)) e Z w6:=by
  intro e K d;have:=out ν S Z w6 e K V J d
  cases e<;>first|exact(K rfl).elim|exact this
 cases e' with
 |exit id=>exact f _ (by simp) k6
 |goto l=>exact f _ (by simp) k6
 |ret=>exact f _ (by simp) k6
 |panic ch=>exact f _ (by simp) k6
 |outgrown=>exact f _ (by simp) k6
 |normal =>
 clear f;rw[afl] at k6
 split at k6<;>try (cases k6; done)
 rename_i h78
 have h78':78<=S.t.length:=by simpa using h78
 cases k6;obtain⟨hlens,s,hs,hq⟩:=anu hM;simp only[Prod.mk.injEq,List.cons.injEq,and_true] at hq;obtain⟨⟨q1,q2,q48⟩,qh⟩:=hq
 have X:Xu (pl x s) some (ckS x)=some y:=by
  simp only at r;rw[hs] at r;exact r
 -- what the errors are
 obtain⟨L,O,hLy⟩:∃L,pl x s=some L/\(match L.find? (fun e=>e != 0) with|some e=>some e|none=>ckS x)=some y:=by
  unfold Xu at X
  cases hl:pl x s with
  |none=>rw[hl] at X; cases X
  |some L=>rw[hl] at X; exact⟨L,rfl,X⟩
 obtain⟨l1,l2,l3,l4,m1,m2,m3,m4,rfl⟩:∃l1 l2 l3 l4,Nw (fun u=>ň u.1 u.2 s) (x.2.2.1:CK (Int×Int))=some l1/\Nw (fun i=>ε x s i) (yP (x.2.2.2.1:CK u6).length)=some l2 /\
  Nw (fun i=>ō x s i) (yP (x.2.2.2.2.1:CK i4).length)=some l3/\Nw (fun u=>ň u.1 u.2 s) (x.2.2.2.2.2:CK (Int×Int))=some l4/\L=l1++(l2++(l3++l4)):=by
  unfold pl at O
  cases m1:Nw (fun u=>ň u.1 u.2 s) (x.2.2.1:CK (Int×Int)) with
  |none=>rw[m1] at O; cases O
  |some l1 =>
  rw[m1] at O
  cases m2:Nw (fun i=>ε x s i) (yP (x.2.2.2.1:CK u6).length) with
  |none=>simp only[Ã,m2] at O; cases O
  |some l2 =>
  cases m3:Nw (fun i=>ō x s i) (yP (x.2.2.2.2.1:CK i4).length) with
  |none=>simp only[Ã,m2,m3] at O; cases O
  |some l3 =>
  cases m4:Nw (fun u=>ň u.1 u.2 s) (x.2.2.2.2.2:CK (Int×Int)) with
  |none=>simp only[Ã,m2,m3,m4] at O; cases O
  |some l4 =>
  simp only[Ã,m2,m3,m4] at O;cases O;exact⟨l1,l2,l3,l4,rfl,rfl,rfl,rfl,rfl⟩
 -- the blocks
 obtain⟨T,Hh⟩:=S;dsimp only at q1 q2 q48 qh h78';subst qh;have p1:=V.tmps 1;have p2:=V.tmps 2;have p48:=V.tmps 48;dsimp only at p1 p2 p48;rw[q1] at p1;rw[q2] at p2;rw[q48] at p48;obtain⟨rb,te1,n1,hrb⟩:=Zx (id:=1) (n:=0) V.heap rfl;have hB2:BR ν (ckH x s 0) w6 2 (.cells (flat Ë x)):=V.heap.blk 2;have hB3:BR ν (ckH x s 0) w6 3 (.cells [.mp tI Ú s]):=V.heap.blk 3;have hB4:BR ν (ckH x s 0) w6 4 (.cells [.fn (.func 196) [] [.box 3 0]]):=V.heap.blk 4;obtain⟨bb,cb,te,n2,hbb,hb2⟩:=hB2;obtain⟨sb,cs3,te3,n3,hsb,hb3⟩:=hB3;obtain⟨tb,cs4,te2,n4,htb,hb4⟩:=hB4;obtain⟨mv,z3,hm3⟩:=hb3.one;obtain⟨fv,z4,hm4⟩:=hb4.one;have hmv:CR w6 noG (.map tI Ú) s [mv]:=CR.mono (fun _ hf=>hf.elim) (show CR w6 (Av ν (ckH x s 0)) (.map tI Ú) s [mv] from hm3.1)
 have hc3:cs3=#[mv]:=by rw[<-eO,z3]
 have hfv:fv=.func (.func 196) #[] #[.pointer (some ⟨sb,0,none⟩)]:=by
  obtain⟨fs,cs,h1,h2,h3⟩:=hm4.1
  have e1:fs=#[]:=by rw[<-eO]; exact h2.nil_left
  obtain⟨u,e2,h4⟩:=h3.one;have e3:u=.pointer (some ⟨sb,0,none⟩):=J3 (w:=w6) (id:=3) (off:=0) h4 n3
  have e4:cs=#[.pointer (some ⟨sb,0,none⟩)]:=by rw[<-eO,e2,e3]
  rw[h1,e1,e4]
 have hc4:cs4=#[fv]:=by rw[<-eO,z4]
 rw[hc3] at hsb;rw[hc4,hfv] at htb
 have hg:Z.tmps.getD 48 undef=.func (.func 199) #[] #[.pointer (some ⟨bb,0,none⟩),.pointer (some ⟨tb,0,none⟩),.pointer (some ⟨sb,0,none⟩)]:=by
  obtain⟨fs,cs,h1,h2,h3⟩:=p48
  have e1:fs=#[]:=by rw[<-eO]; exact h2.nil_left
  have hl:=h3.length
  obtain⟨u1,u2,u3,e2⟩:∃u1 u2 u3,cs.toList=[u1,u2,u3]:=by
   rcases hcs:cs.toList with _|⟨u1,_|⟨u2,_|⟨u3,_|⟨u4,t⟩⟩⟩⟩<;>rw[hcs] at hl<;>simp at hl
   exact⟨u1,u2,u3,rfl⟩
  rw[e2] at h3;have e3:u1=.pointer (some ⟨bb,0,none⟩):=J3 (w:=w6) (id:=2) (off:=0) h3.1 n2;have e4:u2=.pointer (some ⟨tb,0,none⟩):=J3 (w:=w6) (id:=4) (off:=0) h3.2.1 n4;have e5:u3=.pointer (some ⟨sb,0,none⟩):=J3 (w:=w6) (id:=3) (off:=0) h3.2.2.1 n3;rw[h1,e1];congr 1;rw[<-eO,e2,e3,e4,e5]
 have hseq:=akj m1 m2 m3 m4 hlens hbb (anD hb2) htb hsb hmv;have h2:=J3 p2 n1;have hsz:78<=Z.tmps.size:=dr h78' V.len
 have A:∀b,b<w.heap.size->w6.heap[b]?=w.heap[b]?/\¬Fp ν (ckH x s 0) b:=fun b hb=>J.keep b hb fun⟨_,h,_⟩=>by cases h
 obtain⟨⟨ms,m1',m2',p⟩,_⟩:=V.defers;have hdef:Z.defers=ms.map mk1:=m1'.trans (dv _);show ckRF.wpIn Fence.wide 2 Tryz.prog (Exit.then (Um.wpIn Fence.wide 2 Tryz.prog (bodyPostM Fence.wide 2 Tryz.prog Tryz.f96 (D8 G y w))) (bodyPostM Fence.wide 2 Tryz.prog Tryz.f96 (D8 G y w))) Z w6;rw[ant];refine wpIn_block (amP hseq hg h2 hsz hrb (fun D W hall hbel hDl hDo=>?_) (fun D W z hz j hDl hDo=>?_))
 ·have hck:ckS x=some y:=by
   have:(l1++(l2++(l3++l4))).find? (fun e=>e != 0)=none:=eo.2 fun z hz=>by rw[hall z hz]; simp
   rw[this] at hLy;exact hLy
  have hDn:D∉ms:=fun hm=>by have:=ģ (p D hm).1; omega
  exact ans (s:=s) (ms:=D::ms) hck V.heap hbel (by show mark D::Z.defers=_; rw[hdef]; rfl) (fB.2 ⟨hDn,m2'⟩) (fun k d=>by
   rcases dg.1 d with rfl|d
   ·exact⟨hDo,dr J.size hDl⟩
   ·exact⟨(hbel.block k (ģ (p k d).1)).trans (p k d).1,(p k d).2⟩) hsz p1 p2 A J.size J.os J.tape J.output
 ·have hzy:z=y:=by
   rw[hz] at hLy;simpa using hLy
  subst hzy;obtain⟨te5,hcell⟩:=j.cell;have hlb:=ģ hrb;have hlive:Fp ν (ckH x s 0) rb:=⟨1,rfl,by rw[n1]; rfl⟩
  have hDn:D∉ms:=fun hm=>by have:=ģ (p D hm).1; omega
  exact adI (a:={Z with defers:=mark D::Z.defers}) (w:=W) (ms:=D::ms) (by show mark D::Z.defers=_; rw[hdef]; rfl) (fB.2 ⟨hDn,m2'⟩) (fun k d=>by
   rcases dg.1 d with rfl|d
   ·exact⟨hDo,dr J.size hDl⟩
   ·exact⟨(j.block k (ģ (p k d).1) (fun e=>by have h9:=(p k d).1; rw[e,hrb] at h9; cases h9)).trans (p k d).1,(p k d).2⟩) h2 hcell
   (fun b hb=>(j.block b (by have:=J.size; omega) (fun e=>(A b hb).2 (e▸hlive))).trans (A b hb).1) (by have:=J.size; have:=j.size; omega) (j.os.trans J.os) (j.tape.trans J.tape) (j.output.trans J.output)
def A6:i5 Tryz.prog 96 vk:=fun G x y hF w vals hG hAL=>afm G x y hF w vals hG hAL
end Go.Proofs.ZzM
end

noncomputable section
namespace Go.Proofs
open Go.RowKit
attribute [local go_sem] Oper.semAt_some
def ad3 (w:World) (o o':Obj):((w.alloc o).alloc o').heap[w.heap.size+1]?=some o':=by
 simp only[World.alloc];rw[show w.heap.size+1=(w.heap.push o).size from(Array.size_push _).symm];exact Array.getElem?_push_size
def ajz (w:World) (o o':Obj):((w.alloc o).alloc o').heap[w.heap.size]?=some o:=by
 simp only[World.alloc];rw[Array.getElem?_push_lt (by rw[Array.size_push]; omega),Array.getElem_push_eq]
def Z9 (w:World) (o o':Obj) (b:Nat) (hb:b<w.heap.size):((w.alloc o).alloc o').heap[b]?=w.heap[b]?:=by
 simp only[World.alloc];rw[Array.getElem?_push_lt (by simp; omega),Array.getElem_push_lt hb,Array.getElem?_eq_getElem hb]
def amq {W:World} {b:Nat} {f e d c a:Value} {t:TypeId} (h:W.heap[b]?=some (.cells #[f,e,d,c,a] t (0,0))) :
 W.cell? ⟨b,0,none⟩=some f/\W.cell? ⟨b,1,none⟩=some e/\W.cell? ⟨b,2,none⟩=some d/\W.cell? ⟨b,3,none⟩=some c/\W.cell? ⟨b,4,none⟩=some a/\∀j,W.frozen? ⟨b,j,none⟩=false:=by
 refine⟨?_,?_,?_,?_,?_,fun j=>?_⟩<;>simp only[World.cell?,World.frozen?,h]<;>rfl
def set5 {W:World} {b:Nat} {c0 e d c a:Value} {k j i g f:Value} {t:TypeId} (h:W.heap[b]?=some (.cells #[k,j,i,g,f] t (0,0))) :
 (((((W.setCell ⟨b,0,none⟩ c0).setCell ⟨b,1,none⟩ e).setCell ⟨b,2,none⟩ d).setCell ⟨b,3,none⟩ c).setCell ⟨b,4,none⟩ a)=W.setRow b #[c0,e,d,c,a]:=by
 rw[setCell_eq_setRow W b 0 _ t (0,0) c0 h,setCell_eq_setRow _ b 1 _ t (0,0) e (setRow_heap _ _ _ _ t _ h),setRow_setRow,setCell_eq_setRow _ b 2 _ t (0,0) d (setRow_heap _ _ _ _ t _ h),setRow_setRow,
  setCell_eq_setRow _ b 3 _ t (0,0) c (setRow_heap _ _ _ _ t _ h),setRow_setRow,setCell_eq_setRow _ b 4 _ t (0,0) a (setRow_heap _ _ _ _ t _ h),setRow_setRow]
 rfl
def aeq {T:Array Value} {b:Nat} {c0 g f d c:Int} {e:TypeId} {W:World} (h2:T.getD 2 undef=.pointer (some ⟨b,0,none⟩)) (m:W.heap[b]?=some (.cells #[.int .i64 c0,.int .i64 g,.int .i64 f,.int .i64 d,.int .i64 c] e (0,0))):(results Tryz.f183 T).run Tryz.prog W=.ok (.agg #[.int .i64 c0,.int .i64 g,.int .i64 f,.int .i64 d,.int .i64 c]) W:=by
 letI:Go.Am.Ghost:=Go.Am.Gh fun _=>False
 have k:(loadVar 224 ⟨b,0,none⟩).run Tryz.prog W=.ok (.agg #[.int .i64 c0,.int .i64 g,.int .i64 f,.int .i64 d,.int .i64 c]) W:=by
  have:=Go.Am.run_loadVar (P:=Tryz.prog) (w:=W) (t:=224) (agg:=true) (n:=5) (by kernel_rfl) (us:=[.int .i64 c0,.int .i64 g,.int .i64 f,.int .i64 d,.int .i64 c]) rfl (fun h=>by cases h) (a:=⟨b,0,none⟩) (fun j v l=>by
   have:=Go.Am.CellsAt.of_cells m j v (by simpa using l)
   have ha:(⟨b,0,none⟩:Addr).add j=⟨b,j,none⟩:=by unfold Addr.add; split<;>simp_all
   rw[ha]; simpa using this)
  exact this
 have i:Tryz.f183.results=#[.cell 2 224]:=by kernel_rfl
 unfold results;rw[i,Array.mapM_eq_mapM_toList];simp only[Sem.run_bind,Sem.run_map,List.mapM_cons,List.mapM_nil,h2,asAddr,Sem.run_pure,Result.andThen_ok,k];rfl
set_option maxRecDepth 100000 in
set_option maxHeartbeats 1000000 in
def akn (v:Value) (w:World) (c0 c1 c2 c3 c4:Int) (n:Int)
 (hcopy : ∀ W, (∀ b, b < w.heap.size -> W.heap[b]? = w.heap[b]?) -> W.heap[w.heap.size + 1]? = some (.cells #[.int .i64 0, .int .i64 0, .int .i64 0, .int .i64 0, .int .i64 0] 224 (0, 0)) -> (Builtin.copy_ #[34, 34] 3 #[.slice (some ⟨w.heap.size + 1, 0, none⟩) 5 5, v]).run Tryz.prog W = .ok (.int .i64 n) (W.setRow (w.heap.size + 1) #[.int .i64 c0, .int .i64 c1, .int .i64 c2, .int .i64 c3, .int .i64 c4])) :
  CallsIn Fence.wide 0 Tryz.prog 183 #[v] w fun e W'=>e=.returned (.agg #[.int .i64 c0,.int .i64 c1,.int .i64 c2,.int .i64 c3,.int .i64 c4])/\(∀b,b<w.heap.size->W'.heap[b]?=w.heap[b]?)/\w.heap.size<=W'.heap.size/\W'.os=w.os/\W'.tape=w.tape/\W'.output=w.output:=by
 refine callsIn_of_wp Tryz.func183 rfl trivial ?_ rfl;simp only[Tryz.ntmps183,fQ,dh,dN,Nat.reduceAdd,Nat.reduceSub,Array.replicate_succ,Array.replicate_zero,List.push_toArray,gQ,eJ,dH]
 gi_wp2
 rw[hcopy _ (Z9 _ _ _) (ad3 _ _ _)];generalize hW:World.setRow _ _ _=W1
 have g1:W1.heap[w.heap.size+1]?=some (.cells #[.int .i64 c0,.int .i64 c1,.int .i64 c2,.int .i64 c3,.int .i64 c4] 224 (0,0)):=by
  rw[<-hW]; exact setRow_heap _ _ _ _ 224 _ (ad3 _ _ _)
 have g2:W1.heap[w.heap.size]?=some (.cells #[.int .i64 0,.int .i64 0,.int .i64 0,.int .i64 0,.int .i64 0] 224 (0,0)):=by
  rw[<-hW,setRow_other _ _ _ _ (by omega)]; exact ajz _ _ _
 have g3:∀b,b<w.heap.size->W1.heap[b]?=w.heap[b]?:=fun b hb=>by
  rw[<-hW,setRow_other _ _ _ _ (by omega)]; exact Z9 _ _ _ b hb
 have g4:W1.os=w.os/\W1.tape=w.tape/\W1.output=w.output/\W1.heap.size=w.heap.size+2:=by
  rw[<-hW]; refine⟨rfl,rfl,rfl,?_⟩;rw[size_setRow]; simp only[World.alloc,Array.size_push]
 clear hW hcopy;obtain⟨l0,l1,l2,l3,l4,_⟩:=amq g1;obtain⟨z0,z1,z2,z3,z4,zf⟩:=amq g2
 gi_wp2
 rw[set5 g2];refine bodyPost_ret (aeq rfl (setRow_heap _ _ _ _ 224 _ g2)) rfl ?_;exact⟨rfl,fun b hb=>(setRow_other _ _ _ _ (by omega)).trans (g3 b hb),by rw[size_setRow]; omega,g4.1,g4.2.1,g4.2.2.1⟩
end Go.Proofs
namespace Go.Proofs.ZzM
open Go Go.Am Go.Proofs
noncomputable def amN (xs:CK Int):(#[Value.int .i64 0,.int .i64 0,.int .i64 0,.int .i64 0,.int .i64 0].toList.take 0++(xs.take 5).map (Value.int .i64 ·)++#[Value.int .i64 0,.int .i64 0,.int .i64 0,.int .i64 0,.int .i64 0].toList.drop (0+((xs.take 5).map (Value.int .i64 ·)).length)).toArray =
 #[.int .i64 (xs.getD 0 0),.int .i64 (xs.getD 1 0),.int .i64 (xs.getD 2 0),.int .i64 (xs.getD 3 0),.int .i64 (xs.getD 4 0)]:=by
 rcases xs with _|⟨a,_|⟨b,_|⟨c,_|⟨d,_|⟨e,r⟩⟩⟩⟩⟩<;>rfl
def aiQ:i5 Tryz.prog 183 XD:=by
 intro G x y C w vals J q;obtain⟨v,rfl,us,o,m⟩:=q;change CK Int at x;obtain⟨base,cap,rfl,r,d⟩:=o;have m:v=.slice base (x:CK Int).length cap:=m;subst m;have z:y=((x:CK Int).getD 0 0,(x:CK Int).getD 1 0,(x:CK Int).getD 2 0,(x:CK Int).getD 3 0,(x:CK Int).getD 4 0):=(Option.some.inj C).symm;refine⟨⟨Tryz.f183,_,Tryz.func183,rfl⟩,?_⟩
 have c:∀W:World,(∀b,b<w.heap.size->W.heap[b]?=w.heap[b]?)->W.heap[w.heap.size+1]?=some (.cells #[.int .i64 0,.int .i64 0,.int .i64 0,.int .i64 0,.int .i64 0] 224 (0,0)) ->
  (Builtin.copy_ #[34,34] 3 #[.slice (some ⟨w.heap.size+1,0,none⟩) 5 5,.slice base (x:CK Int).length cap]).run Tryz.prog W=.ok (.int .i64 ((((x:CK Int).take 5).map (Value.int .i64 ·)).length:Nat)) (W.setRow (w.heap.size+1) #[.int .i64 ((x:CK Int).getD 0 0),.int .i64 ((x:CK Int).getD 1 0),.int .i64 ((x:CK Int).getD 2 0),.int .i64 ((x:CK Int).getD 3 0),.int .i64 ((x:CK Int).getD 4 0)]):=by
  intro W g a;rcases d with h0|⟨b,off,rfl,B,hb,p⟩
  ·have h0:x=([]:CK Int):=h0;subst h0;rw[run_copy_none W 34 34 3 3 _ _ 5 5 _ _ (by kernel_rfl) (by kernel_rfl) (by simp)];exact congrArg _ (setRow_self W _ _ 224 (0,0) a).symm
  ·have:=run_copy_row Tryz.prog W 34 34 3 3 (w.heap.size+1) 0 5 5 ⟨b,off,none⟩ (x:CK Int).length cap _ 224 (((x:CK Int).take 5).map (Value.int .i64 ·)) (by kernel_rfl) (by kernel_rfl) a (by simp[Nat.min_comm]) (fun j u i=>by
    rw[eW] at i
    cases f:((x:CK Int).take 5)[j]? with
    |none=>rw[f] at i; cases i
    |some n =>
     rw[f] at i;cases i
     have l:(x:CK Int)[j]?=some n:=by
      rw[dX] at f
      split at f
      ·exact f
      ·cases f
     obtain⟨us,k,t⟩:=p j n l;have k:us=[.int .i64 n]:=k;subst k;have s:=t 0 _ rfl
     have ha:(⟨b,off,none⟩:Addr).add j=⟨b,off+j,none⟩:=by unfold Addr.add; split<;>simp_all
     rw[ha,World.cell?_of_block (w:=w) (by exact g b hb)]
     simpa[Ty.size] using s) (by simp; omega) (fun u A=>by
    obtain⟨n,_,rfl⟩:=dz.1 A
    rfl)
   rw[amN] at this;exact this
 refine(akn _ w _ _ _ _ _ _ c).mono fun e w' h=>?_;obtain⟨rfl,I,h2,H,E,D⟩:=h;refine⟨_,rfl,?_,I,h2,H,E,D⟩;subst z;exact⟨[.int .i64 _,.int .i64 _,.int .i64 _,.int .i64 _,.int .i64 _],⟨[_],_,rfl,rfl,[_],_,rfl,rfl,[_],_,rfl,rfl,[_],_,rfl,rfl,rfl⟩,rfl⟩
end Go.Proofs.ZzM
end

noncomputable section
set_option maxRecDepth 100000
namespace Go.Proofs.ZzM
open Go Go.Am
def afo:ZP 6 SG:=zt (zr _) Ä rfl (Á KW (Á KV Ä)) fun x=>by kernel_rfl
def aji:ZP 203 X5:=zt (Ps _) (Á A6 (Á Fe (Á IK Ä))) rfl (Á Pr Ä) fun x=>by kernel_rfl
def alA:ZP 160 acF:=zt (aeV _) (Á aji (Á adT Ä)) rfl Ä fun x=>by kernel_rfl
def aiS:ZP 97 XF:=zt (lW _) (Á alA Ä) rfl (Á NQ (Á NP (Á NN (Á NM (Á NL Ä))))) fun x=>Vj x some
def kh:ZP 44 jq:=zt (EG _) (Á A6 (Á aiS Ä)) rfl (Á NZ (Á N0 Ä)) fun x=>by kernel_rfl
def Qq:ZP 171 ze:=zt (JB _) Ä rfl Ä fun x=>by kernel_rfl
def wH:ZP 114 nE:=zt (EV _) (Á Qq Ä) rfl Ä fun x=>by kernel_rfl
def afp:ZP 115 SH:=zt (zy _) Ä rfl (Á KX (Á KY Ä)) fun x=>by kernel_rfl
def Uo:ZP 113 Jd:=zt (Yq _) (Á wH (Á afp Ä)) rfl Ä fun x=>by kernel_rfl
def qA:XOk Tryz.prog 207 (.row Ć):=UD (r:=Ć) (ý _) (fun {_}=>Cy (Á Uo Ä) (ý _) rfl rfl rfl rfl rfl (ŗ rfl) (lS rfl) (i6 rfl)) hmix rfl (Á mo (Á mq Ä)) (fun xs x m=>np xs x m some)
def A2:XOk Tryz.prog 246 (.row ķ):=UD (r:=ķ) (Ą _) (fun {_}=>Cy Ä (Ą _) rfl rfl rfl rfl rfl (ŗ rfl) (lS rfl) (i6 rfl)) hmix rfl (Á rA (Á rz (Á rB (Á ru Ä)))) (fun xs x m=>uJ xs x m some)
noncomputable def qz {a:(Val (.slice (.slice (.slice tI))))->Int->Int->Int->a8->BY ((Val (.slice (.slice (.slice tI))))×a8)} (b:XOk Tryz.prog 208 (.row ⟨(.slice (.slice tI)),[tI,tI,tI],113,Â,fun(xs:(Val (.slice (.slice (.slice tI))))) (x:rx) (m:a8)=>a xs x.1 x.2.1 x.2.2 m⟩)):XOk Tryz.prog 208 (.row ⟨(.slice (.slice tI)),[tI,tI,tI],113,Â,fun(xs:(Val (.slice (.slice (.slice tI))))) (x:rx) (m:a8)=>ħ a xs x.1 x.2.1 x.2.2 m some⟩):=UD (r:=⟨(.slice (.slice tI)),[tI,tI,tI],113,Â,fun(xs:(Val (.slice (.slice (.slice tI))))) (x:rx) (m:a8)=>ħ a xs x.1 x.2.1 x.2.2 m some⟩) (É a _) (fun {_}=>Cy (Á Uo Ä) (É a _) rfl rfl rfl rfl rfl (ŗ rfl) (Wj (Á b (Á A2 Ä)) rfl) (i6 rfl)) hmix (tab:=jQ a _) rfl (Á pC (Á pB (Á pA (Á pz (Á pw Ä))))) (fun xs x m=>ro _ xs x m some)
def ki:∀n:Nat,XOk Tryz.prog 208 (.row ⟨(.slice (.slice tI)),[tI,tI,tI],113,Â,fun(xs:(Val (.slice (.slice (.slice tI))))) (x:rx) (m:a8)=>ĥ n xs x.1 x.2.1 x.2.2 m⟩)
 |0=>alO.mk (by intro _ _ _ _ _ _ h; cases h)
 |n+1=>qz (ki n)
def yh:XOk Tryz.prog 208 (.row mA):=ki 100
def pr:XOk Tryz.prog 170 (.row ġ):=UD (r:=ġ) (ĕ _) (fun {_}=>Cy Ä (ĕ _) rfl rfl rfl rfl rfl (ŗ rfl) (Wj (Á qA (Á yh Ä)) rfl) (i6 rfl)) hmix rfl (Á rt (Á rq (Á rr Ä))) (fun xs x m=>uI xs x m some)
def IG:i5 Tryz.prog 55 Bk:=MZ (kq _) (fun {_}=>Cy Ä (kq _) rfl rfl rfl rfl rfl (ŗ rfl) (Wj (Á pr Ä) rfl) (i6 rfl)) hmix rfl Ä (rtab:=NA _) rfl (Á (QQ Qb) Ä) (Á QP Ä) (l5 fun x=>Yp x some)
def Ws:ZP 69 M9:=zt (Yo _) (Á wE Ä) rfl (Á Vf Ä) fun x=>by kernel_rfl
def Qi:ZP 132 zb:=zt (vq _) (Á Ws Ä) rfl (Á zz Ä) fun x=>by kernel_rfl
def qx:i5 Tryz.prog 71 my:=L4 (Ŵ _) (fun {_}=>Cy (Á Ws (Á Qi Ä)) (Ŵ _) rfl rfl rfl rfl rfl (ŗ rfl) (lS rfl) (i6 rfl)) hmix rfl (Á Ex (Á Ew (Á Eu (Á Et Ä)))) (l5 fun x=>Jk x some)
def kj:ZP 174 Ų:=zt (jt _) Ä rfl (Á mM Ä) fun x=>by kernel_rfl
def Z0:ZP 224 Km:=zt (RL _) (Á kj Ä) rfl Ä fun x=>by kernel_rfl
def aly:ZP 226 acD:=zt (JD _) (Á ob Ä) rfl (Á RQ (Á RP Ä)) fun x=>by kernel_rfl
def LQ:ZP 269 yp:=zt (Hn _) Ä rfl Ä fun x=>by kernel_rfl
def A5:ZP 272 vf:=zt (Pe _) (Á IJ Ä) rfl (Á Pd Ä) fun x=>by kernel_rfl
def Qp:ZP 279 Ej:=zt (VE _) (Á adR (Á ajd Ä)) rfl Ä fun x=>by kernel_rfl
def anB:ZP 275 agQ:=zt (ahx _) (Á A5 (Á Qp Ä)) rfl Ä fun x=>by kernel_rfl
def WD:ZP 270 FU:=zt (Pl _) (Á anB Ä) rfl Ä fun x=>by kernel_rfl
def abH:ZP 284 aaJ:=zt (ahv _) Ä rfl Ä fun x=>by kernel_rfl
def D6:ZP 280 CQ:=zt (LG _) (Á A5 (Á abH Ä)) rfl Ä fun x=>by kernel_rfl
def ajf:ZP 283 agR:=zt (ahz _) (Á A5 (Á Qp Ä)) rfl Ä fun x=>by kernel_rfl
def aje:i5 Tryz.prog 276 X0:=agF (EU _) (Zd _) (fun {_}=>Cy (Á IJ (Á D6 (Á ajf (Á abH Ä)))) (EU _) rfl rfl rfl rfl rfl (ŗ rfl) (lS rfl) (i6 rfl)) (fun {_}=>libN (Á IJ (Á D6 (Á ajf (Á abH Ä)))) _) rfl hmix (tab:=xr _) rfl Ä (us:=KA) rfl (Á (by kernel_rfl) Ä) (l5 fun x=>VG x some)
def WB:ZP 271 FT:=zt (Pk _) (Á aje Ä) rfl Ä fun x=>by kernel_rfl
def afF:ZP 255 SZ:=zt (Zj _) (Á MA (Á Fe (Á LQ (Á WD (Á WB Ä))))) rfl Ä fun x=>by kernel_rfl
def ajh:ZP 256 X4:=zt (aa6 _) Ä rfl Ä fun x=>by kernel_rfl
def ZZ:ZP 273 Ni:=zt (aa2 _) Ä rfl Ä fun x=>by kernel_rfl
def ajg:ZP 257 X3:=zt (aa4 _) (Á A5 (Á ZZ Ä)) rfl Ä fun x=>by kernel_rfl
def alv:ZP 258 acA:=zt (aeT _) (Á A5 (Á ZZ Ä)) rfl Ä fun x=>by kernel_rfl
def alw:ZP 227 acB:=zt (aeU _) (Á afF (Á ajh (Á ajg (Á alv Ä)))) rfl Ä fun x=>by kernel_rfl
def alx:ZP 136 acC:=zt (Bt _) (Á MA (Á Qr (Á adS (Á Z0 (Á aly (Á alw Ä)))))) rfl (Á RN (Á RO (Á RM Ä))) fun x=>by kernel_rfl
def B9:ZP 80 vh:=zt (Zm _) (Á A6 (Á alx Ä)) rfl Ä fun x=>by kernel_rfl
def adQ:ZP 148 UT:=zt (aeQ _) Ä rfl Ä fun x=>by kernel_rfl
def II:ZP 89 zd:=zt (Pc _) (Á adQ Ä) rfl (Á Pb Ä) fun x=>by kernel_rfl
def A4:ZP 90 sO:=zt (ξ _) Ä rfl (Á Hg (Á Hf (Á Hd (Á He (Á Hc Ä))))) fun x=>Lw x some
def Si:ZP 116 CO:=zt (LD _) (Á II (Á A4 Ä)) rfl Ä fun x=>by kernel_rfl
def A0:ZP 57 sN:=zt (Q4 _) (Á qx (Á B9 (Á Si Ä))) rfl Ä fun x=>by kernel_rfl
def qy:ZP 45 mz:=zt (zF _) (Á IG (Á A0 Ä)) rfl (Á ED Ä) fun x=>by kernel_rfl
def Qj:ZP 47 FI:=zt (NE _) Ä rfl (Á ND Ä) fun x=>by kernel_rfl
def afG:ZP 50 S0:=zt (Zo _) (Á Up (Á MA Ä)) rfl Ä fun x=>by kernel_rfl
def IH:ZP 9 wS:=zt (mI _) (Á kh (Á qy (Á Qj (Á afG (Á iB Ä))))) rfl (Á EF (Á EE Ä)) fun x=>Jl x some
def Wt:ZP 46 L5:=zt (Bm _) (Á iB Ä) rfl (Á QS (Á QR Ä)) fun x=>Yr x some
def adK:ZP 10 UN:=zt (Jn _) (Á kh (Á qy (Á Wt (Á nf Ä)))) rfl (Á Q7 (Á Q6 Ä)) fun x=>by kernel_rfl
def afr:ZP 58 SJ:=zt (Ks _) Ä rfl (Á K5 Ä) fun x=>by kernel_rfl
def KP:ZP 11 zc:=zt (ń _) (Á kh (Á Wt (Á IG (Á A0 (Á afr (Á wH Ä)))))) rfl (Á GA (Á GB (Á Gz (Á Gy (Á Gw (Á Gv (Á Gu (Á Gx Ä)))))))) fun x=>K6 x some
def yi:ZP 17 pQ:=zt (zZ _) Ä rfl (Á ER Ä) fun x=>by kernel_rfl
def adJ:i5 Tryz.prog 68 UM:=MZ (iH _) (fun {_}=>Cy (Á A0 Ä) (iH _) rfl rfl rfl rfl rfl (ŗ rfl) (Wj (Á pr Ä) rfl) (i6 rfl)) hmix rfl (Á Q3 (Á Q2 Ä)) (rtab:=NS _) rfl (Á (Q0 Qb) Ä) (Á QZ Ä) (l5 fun x=>Yu x some)
def ajj:ZP 128 X6:=zt (aa7 _) (Á A6 (Á Qr (Á kj Ä))) rfl Ä fun x=>by kernel_rfl
def alz:ZP 129 acE:=zt (TR _) (Á A6 Ä) rfl (Á RX Ä) fun x=>by kernel_rfl
def aja:ZP 177 XX:=zt (O2 _) (Á II (Á A4 (Á adQ Ä))) rfl (Á O1 Ä) fun x=>by kernel_rfl
def afE:ZP 212 SY:=zt (jY _) Ä rfl (Á LC (Á LB (Á LA (Á Ly (Á Lz Ä))))) fun x=>RD x some
def ajb:ZP 130 XY:=zt (ET _) (Á aja (Á afE Ä)) rfl (Á O4 (Á O3 Ä)) fun x=>by kernel_rfl
def afq:ZP 70 SI:=zt (Ys _) (Á B9 (Á ajj (Á alz (Á ajb Ä)))) rfl Ä fun x=>by kernel_rfl
def afs:ZP 22 SK:=zt (zQ _) (Á kh (Á Qj (Á adJ (Á Ws (Á afq (Á qx Ä)))))) rfl (Á K8 (Á K7 Ä)) fun x=>by kernel_rfl
def ai9:ZP 91 XW:=zt (OZ _) Ä rfl (Á aa1 (Á aaZ (Á aaY (Á aa0 Ä)))) fun x=>by kernel_rfl
def ajc:ZP 35 XZ:=zt (nQ _) (Á II (Á A4 (Á ai9 Ä))) rfl (Á O9 (Á O5 (Á O6 (Á O7 (Á O8 Ä))))) fun x=>by kernel_rfl
def aiU:ZP 28 XH:=zt (NX _) (Á ajc (Á kh (Á IG (Á qx (Á B9 Ä))))) rfl (Á NW Ä) fun x=>by kernel_rfl
def abG:ZP 137 Nh:=zt (Hj _) Ä rfl (Á Jz Ä) fun x=>by kernel_rfl
def alu:ZP 138 acz:=zt (TD _) Ä rfl (Á RC Ä) fun x=>by kernel_rfl
def Sj:ZP 81 CP:=zt (LF _) (Á II (Á abG (Á alu Ä))) rfl Ä fun x=>by kernel_rfl
def Sg:ZP 29 CM:=zt (yu _) (Á kh (Á IG (Á qx (Á B9 (Á Sj Ä))))) rfl (Á Cs Ä) fun x=>by kernel_rfl
def alm:ZP 38 acs:=zt (aeI _) (Á kh (Á IG Ä)) rfl Ä fun x=>by kernel_rfl
def ZX:ZP 39 Kk:=zt (QM _) Ä rfl Ä fun x=>by kernel_rfl
def anx:ZP 40 agN:=zt (ahm _) (Á kh (Á adJ Ä)) rfl Ä fun x=>by kernel_rfl
def aiV:ZP 41 XI:=zt (aaT _) (Á kh (Á qy Ä)) rfl Ä fun x=>by kernel_rfl
def aiR:i5 Tryz.prog 139 XE:=MZ (ι _) (fun {_}=>Cy (Á aiQ Ä) (ι _) rfl rfl rfl rfl rfl (ŗ rfl) (lS rfl) (i6 rfl)) hmix rfl (Á NJ Ä) (rtab:=Kq _) rfl (Á (NI aiN) Ä) (Á NH Ä) (l5 fun x=>Vi x some)
def aiT:ZP 82 XG:=zt (aaS _) (Á kh (Á aiR Ä)) rfl Ä fun x=>by kernel_rfl
def anw:ZP 42 agM:=zt (ahk _) (Á Qj (Á Ws (Á aiT Ä))) rfl Ä fun x=>by kernel_rfl
def ZY:ZP 43 Kl:=zt (Dj _) (Á yi Ä) rfl (Á GV Ä) fun x=>by kernel_rfl
def abA:ZP 7 M8:=zt (F9 _) (Á IH (Á adK (Á KP (Á yi (Á afs (Á aiU (Á Sg (Á alm (Á ZX (Á anx (Á aiV (Á anw (Á ZY Ä))))))))))))) rfl Ä fun x=>Ny x some
def Wu:ZP 8 FJ:=zt (NY _) (Á kh (Á qy (Á Wt Ä))) rfl Ä fun x=>by kernel_rfl
def J2:ZP 76 Eh:=zt (ahq _) Ä rfl Ä fun x=>by kernel_rfl
def Mz:ZP 25 FR:=zt (aeK _) (Á J2 Ä) rfl Ä fun x=>by kernel_rfl
def alo:ZP 125 acu:=zt (Tw _) Ä rfl (Á Ry Ä) fun x=>by kernel_rfl
def Qn:ZP 66 FQ:=zt (OM _) (Á alo Ä) rfl (Á OK Ä) fun x=>by kernel_rfl
def Wy:ZP 146 L6:=zt (aeJ _) (Á Qn Ä) rfl Ä fun x=>by kernel_rfl
def ai0:ZP 143 XN:=zt (EQ _) (Á Wy Ä) rfl (Á Ou (Á Ot Ä)) fun x=>by kernel_rfl
def B7:ZP 85 vd:=zt (jV _) (Á ai0 Ä) rfl (Á Ln (Á Lm (Á Ll (Á Lh (Á Li (Á Lj Ä)))))) fun x=>by kernel_rfl
def afy:ZP 78 SQ:=zt (Kx _) (Á B7 Ä) rfl (Á Lq Ä) fun x=>by kernel_rfl
def wG:ZP 15 qV:=zt (OS _) Ä rfl (Á OQ Ä) fun x=>by kernel_rfl
def Qm:ZP 64 FP:=zt (OJ _) Ä rfl (Á OI Ä) fun x=>by kernel_rfl
def ai1:ZP 188 XO:=zt (Ow _) Ä rfl (Á Ov Ä) fun x=>by kernel_rfl
def ai5:ZP 144 XS:=zt (OH _) (Á wG (Á Qm (Á ai1 Ä))) rfl (Á OG Ä) fun x=>by kernel_rfl
def adO:ZP 209 UR:=zt (TB _) Ä rfl (Á RB Ä) fun x=>by kernel_rfl
def adP:ZP 210 US:=zt (aeP _) Ä rfl Ä fun x=>by kernel_rfl
def Qo:ZP 274 Ei:=zt (VA _) (Á adO (Á adP Ä)) rfl Ä fun x=>by kernel_rfl
def als:ZP 260 acy:=zt (aeO _) (Á Qo Ä) rfl Ä fun x=>by kernel_rfl
def alq:ZP 261 acw:=zt (aeM _) Ä rfl Ä fun x=>by kernel_rfl
def alp:ZP 231 acv:=zt (aeL _) (Á als (Á alq Ä)) rfl Ä fun x=>by kernel_rfl
def afw:ZP 232 SO:=zt (YK _) (Á wG Ä) rfl Ä fun x=>by kernel_rfl
def ai7:ZP 262 XU:=zt (aaW _) Ä rfl Ä fun x=>by kernel_rfl
def alr:ZP 263 acx:=zt (aeN _) (Á Qo Ä) rfl Ä fun x=>by kernel_rfl
def afC:ZP 233 SW:=zt (Y0 _) (Á ai7 (Á alr Ä)) rfl Ä fun x=>by kernel_rfl
def abF:ZP 189 Ng:=zt (Vz _) (Á Wy (Á alp (Á afw (Á afC Ä)))) rfl Ä fun x=>by kernel_rfl
def afz:ZP 190 SS:=zt (YW _) Ä rfl Ä fun x=>by kernel_rfl
def anA:ZP 234 agP:=zt (ahs _) Ä rfl Ä fun x=>by kernel_rfl
def ai8:ZP 191 XV:=zt (aaX _) (Á anA Ä) rfl Ä fun x=>by kernel_rfl
def ai6:ZP 235 XT:=zt (aaV _) Ä rfl Ä fun x=>by kernel_rfl
def afD:ZP 192 SX:=zt (Y3 _) (Á ai6 Ä) rfl Ä fun x=>by kernel_rfl
def ai2:ZP 151 XP:=zt (aaU _) (Á abF (Á afz (Á ai8 (Á afD Ä)))) rfl Ä fun x=>by kernel_rfl
def adN:ZP 94 UQ:=zt (Bq _) (Á afy (Á B7 (Á ai5 (Á Wy (Á ai2 Ä))))) rfl (Á Rs (Á Rt (Á Rr Ä))) fun x=>by kernel_rfl
def uC:ZP 117 oB:=zt (Ro _) Ä rfl Ä fun x=>by kernel_rfl
def afB:ZP 172 SV:=zt (YZ _) (Á adO (Á adP Ä)) rfl Ä fun x=>by kernel_rfl
def afx:ZP 118 SP:=zt (YL _) (Á Mz (Á J2 (Á uC (Á afB Ä)))) rfl Ä fun x=>by kernel_rfl
def wF:ZP 123 qG:=zt (YO _) (Á wG Ä) rfl Ä fun x=>by kernel_rfl
def aiZ:ZP 119 XM:=zt (Om _) (Á Mz (Á wF Ä)) rfl (Á Ol Ä) fun x=>by kernel_rfl
def afv:ZP 120 SN:=zt (tM _) (Á J2 (Á uC (Á wF Ä))) rfl (Á Lf (Á Le (Á Lg Ä))) fun x=>by kernel_rfl
def ai3:ZP 173 XQ:=zt (Oz _) (Á J2 Ä) rfl (Á Oy Ä) fun x=>by kernel_rfl
def afu:ZP 121 SM:=zt (YJ _) (Á Mz (Á J2 (Á uC (Á ai3 Ä)))) rfl Ä fun x=>by kernel_rfl
def Wz:ZP 122 FO:=zt (jU _) (Á wG (Á Qm (Á Qn (Á wF Ä)))) rfl (Á EP (Á EO (Á EN Ä))) fun x=>Ju x some
def afA:ZP 62 SU:=zt (me _) (Á Mz (Á B7 (Á adN (Á uC (Á afx (Á aiZ (Á afv (Á afu (Á Wz (Á wF Ä)))))))))) rfl (Á Lv (Á Lt (Á Lu (Á Lr Ä)))) fun x=>RA x some
def aln:ZP 63 act:=zt (Bn _) (Á wG (Á J2 (Á wF Ä))) rfl (Á Re (Á Rc (Á Rb Ä))) fun x=>by kernel_rfl
def aft:ZP 12 SL:=zt (zV _) (Á afA (Á aln (Á Qm Ä))) rfl (Á Lc (Á Ld Ä)) fun x=>by kernel_rfl
noncomputable def LP {a:u5->BY u7} (b:i5 Tryz.prog 87 ⟨[(.slice tI)],[(.slice (.slice tI))],fun(x:u5)=>a x⟩):i5 Tryz.prog 87 ⟨[(.slice tI)],[(.slice (.slice tI))],fun(x:u5)=>nO a x some⟩:=L4 (p:=⟨[(.slice tI)],[(.slice (.slice tI))],fun(x:u5)=>nO a x some⟩) (Ĵ a _) (fun {_}=>libN (Á b Ä) _) hmix (tab:=zR a _) rfl (Á Jp (Á Jq Ä)) (l5 fun x=>N4 x some)
def A3:∀n:Nat,i5 Tryz.prog 87 ⟨[(.slice tI)],[(.slice (.slice tI))],fun(x:u5)=>qU n x⟩
 |0=>by intro _ _ _ h; cases h
 |n+1=>LP (A3 n)
def abC:i5 Tryz.prog 87 Nb:=A3 100
def abD:ZP 88 Nc:=zt (xf _) Ä rfl (Á Jr (Á Js Ä)) fun x=>by kernel_rfl
def aiX:ZP 34 XK:=zt (nP _) (Á abC (Á abD Ä)) rfl (Á N8 (Á N9 (Á Oa (Á N6 (Á N7 Ä))))) fun x=>by kernel_rfl
def abE:ZP 36 Nf:=zt (Vx _) (Á B7 (Á adN Ä)) rfl Ä fun x=>by kernel_rfl
def Wx:ZP 20 Nd:=zt (YH _) Ä rfl (Á Vt Ä) fun x=>by kernel_rfl
def adL:ZP 75 UO:=zt (Tl _) (Á Wx Ä) rfl (Á Rf Ä) fun x=>by kernel_rfl
def aiW:ZP 95 XJ:=zt (EH _) (Á adL Ä) rfl (Á N2 (Á N3 Ä)) fun x=>by kernel_rfl
def Sh:ZP 37 CN:=zt (Η _) (Á adL (Á aiW Ä)) rfl (Á Cw (Á Cv (Á Cu (Á Ct Ä)))) fun x=>GQ x some
def ai4:ZP 124 XR:=zt (ES _) Ä rfl (Á OA (Á OB Ä)) fun x=>by kernel_rfl
def Ww:ZP 65 FN:=zt (Og _) (Á abE (Á Sh (Á ai4 Ä))) rfl Ä fun x=>by kernel_rfl
def Qk:ZP 13 FK:=zt (Oc _) (Á aiX (Á Ww Ä)) rfl (Á Ob Ä) fun x=>by kernel_rfl
def Ql:ZP 14 FM:=zt (Oe _) (Á Wx Ä) rfl (Á Od Ä) fun x=>by kernel_rfl
def anz:ZP 16 agO:=zt (YE _) (Á Wx (Á Qn Ä)) rfl (Á Vr Ä) fun x=>by kernel_rfl
def adM:ZP 19 UP:=zt (Tm _) Ä rfl (Á Rl Ä) fun x=>by kernel_rfl
def aiY:ZP 18 XL:=zt (Oi _) (Á Qk (Á Ql (Á adM Ä))) rfl (Á Oh Ä) fun x=>by kernel_rfl
def abB:ZP 67 Na:=zt (GG _) Ä rfl (Á Jo Ä) fun x=>by kernel_rfl
def Wv:ZP 21 FL:=zt (rO _) (Á Qk (Á Ql (Á abB Ä))) rfl (Á EK (Á EL Ä)) fun x=>by kernel_rfl
def c_w7_SwapCores:i5 Tryz.prog 3 oe:=L4 (jr _) (fun {_}=>Cy (Á afo (Á abA (Á Wu (Á IH (Á adK (Á KP (Á aft (Á Qk (Á Ql (Á wG (Á anz (Á yi (Á aiY (Á adM (Á Wx (Á Wv Ä)))))))))))))))) (jr _) rfl rfl rfl rfl rfl (ahW (js:=vp) rfl) (lS rfl) (i6 rfl)) hmix rfl (Á Cj (Á Ci Ä)) (l5 fun x=>Ga x some)
end Go.Proofs.ZzM
end
