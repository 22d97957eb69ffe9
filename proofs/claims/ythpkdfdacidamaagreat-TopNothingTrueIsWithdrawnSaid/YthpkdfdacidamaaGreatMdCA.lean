/- lemmas -/
import Derived.Test.YthpkdfdacidamaaGreatAmD
import Derived.Test.YthpkdfdacidamaaGreatAmE
import Derived.Ground.NamesProg
import Derived.Ground.Names2Prog
import Derived.KernelRfl
import Derived.Test.YthpkdfdacidamaaGreatMdMA
import Derived.Test.YthpkdfdacidamaaGreatMdKC
import Derived.Test.YthpkdfdacidamaaGreatMdPA
import Derived.RangeFuncBox
import Derived.Lib.SliceRun
import Derived.RangeFuncLeaves
import Derived.WalkKit
import Derived.OwnWalkIn
import Derived.TacticsInMore
import Derived.LoopNIn
import Derived.LoopIn
import Derived.Test.YthpkdfdacidamaaGreatProg
import Derived.RangeFuncFrom
import Derived.RangeFuncRecord
import Derived.Laws.CopyRow
import Derived.Laws.IdiomCopy
import Derived.Test.YthpkdfdacidamaaGreatAmA
import Derived.Test.YthpkdfdacidamaaGreatMdKB
import Derived.Test.YthpkdfdacidamaaGreatMdKA
set_option linter.all false
set_option linter.unusedSectionVars false
set_option linter.unusedVariables false
set_option linter.unusedSimpArgs false
noncomputable section
namespace Go.Proofs
open Go.Shelf
def Tryz.laysSort_ren:Go.Shelf.Ren:=⟨fun|189=>85|125=>127|257=>126|128=>166|129=>167|294=>157|295=>158|296=>159|297=>160|298=>161|299=>162|216=>163|300=>164|301=>165|328=>182|329=>183|330=>184|331=>185|332=>186|215=>124|343=>196|n=>n,fun|28=>37|3=>3|46=>207|0=>0|51=>242|53=>244|4=>4|183=>235|182=>234|131=>129|5=>5|9=>9|218=>261|222=>265|228=>277|229=>278|n=>n,fun|n=>n⟩
def Tryz.laysSort:Go.Proofs.Lays.n189 Tryz.prog Tryz.laysSort_ren:={
 mixed:=by kernel_rfl
 f125:=Tryz.func127.trans (congrArg some (by kernel_rfl))
 f128:=Tryz.func166.trans (congrArg some (by kernel_rfl))
 f129:=Tryz.func167.trans (congrArg some (by kernel_rfl))
 f189:=Tryz.func85.trans (congrArg some (by kernel_rfl))
 f215:=Tryz.func124.trans (congrArg some (by kernel_rfl))
 f216:=Tryz.func163.trans (congrArg some (by kernel_rfl))
 f257:=Tryz.func126.trans (congrArg some (by kernel_rfl))
 f294:=Tryz.func157.trans (congrArg some (by kernel_rfl))
 f295:=Tryz.func158.trans (congrArg some (by kernel_rfl))
 f296:=Tryz.func159.trans (congrArg some (by kernel_rfl))
 f297:=Tryz.func160.trans (congrArg some (by kernel_rfl))
 f298:=Tryz.func161.trans (congrArg some (by kernel_rfl))
 f299:=Tryz.func162.trans (congrArg some (by kernel_rfl))
 f300:=Tryz.func164.trans (congrArg some (by kernel_rfl))
 f301:=Tryz.func165.trans (congrArg some (by kernel_rfl))
 f328:=Tryz.func182.trans (congrArg some (by kernel_rfl))
 f329:=Tryz.func183.trans (congrArg some (by kernel_rfl))
 f330:=Tryz.func184.trans (congrArg some (by kernel_rfl))
 f331:=Tryz.func185.trans (congrArg some (by kernel_rfl))
 f332:=Tryz.func186.trans (congrArg some (by kernel_rfl))
 f343:=Tryz.func196.trans (congrArg some (by kernel_rfl))
 t0:=Tryz.underlying0
 a0:=Tryz.isAgg0
 z0:=Tryz.sizeOf0
 v0:=Tryz.zeroValue0
 t3:=Tryz.underlying3
 a3:=Tryz.isAgg3
 z3:=Tryz.sizeOf3
 v3:=Tryz.zeroValue3
 t4:=Tryz.underlying4
 a4:=Tryz.isAgg4
 z4:=Tryz.sizeOf4
 v4:=Tryz.zeroValue4
 t5:=Tryz.underlying5
 a5:=Tryz.isAgg5
 z5:=Tryz.sizeOf5
 v5:=Tryz.zeroValue5
 t9:=Tryz.underlying9
 a9:=Tryz.isAgg9
 z9:=Tryz.sizeOf9
 v9:=Tryz.zeroValue9
 t28:=Tryz.underlying37
 a28:=Tryz.isAgg37
 z28:=Tryz.sizeOf37
 v28:=Tryz.zeroValue37
 t46:=Tryz.underlying207
 a46:=Tryz.isAgg207
 z46:=Tryz.sizeOf207
 v46:=Tryz.zeroValue207
 t51:=Tryz.underlying242
 a51:=Tryz.isAgg242
 z51:=Tryz.sizeOf242
 v51:=Tryz.zeroValue242
 t53:=Tryz.underlying244
 a53:=Tryz.isAgg244
 z53:=Tryz.sizeOf244
 v53:=Tryz.zeroValue244
 t131:=Tryz.underlying129
 a131:=Tryz.isAgg129
 z131:=Tryz.sizeOf129
 v131:=Tryz.zeroValue129
 t182:=Tryz.underlying234
 a182:=Tryz.isAgg234
 z182:=Tryz.sizeOf234
 v182:=Tryz.zeroValue234
 t183:=Tryz.underlying235
 a183:=Tryz.isAgg235
 z183:=Tryz.sizeOf235
 v183:=Tryz.zeroValue235
 t218:=Tryz.underlying261
 a218:=Tryz.isAgg261
 z218:=Tryz.sizeOf261
 v218:=Tryz.zeroValue261
 t222:=Tryz.underlying265
 a222:=Tryz.isAgg265
 z222:=Tryz.sizeOf265
 v222:=Tryz.zeroValue265
 t228:=Tryz.underlying277
 a228:=Tryz.isAgg277
 z228:=Tryz.sizeOf277
 v228:=Tryz.zeroValue277
 t229:=Tryz.underlying278
 a229:=Tryz.isAgg278
 z229:=Tryz.sizeOf278
 v229:=Tryz.zeroValue278}
def Tryz.laysCompact_ren:Go.Shelf.Ren:=⟨fun|20=>145|n=>n,fun|22=>37|3=>3|4=>4|0=>0|n=>n,fun|n=>n⟩
def Tryz.laysCompact:Go.Proofs.Lays2.n20 Tryz.prog Tryz.laysCompact_ren:={
 mixed:=by kernel_rfl
 f20:=Tryz.func145.trans (congrArg some (by kernel_rfl))
 t0:=Tryz.underlying0
 a0:=Tryz.isAgg0
 z0:=Tryz.sizeOf0
 v0:=Tryz.zeroValue0
 t3:=Tryz.underlying3
 a3:=Tryz.isAgg3
 z3:=Tryz.sizeOf3
 v3:=Tryz.zeroValue3
 t4:=Tryz.underlying4
 a4:=Tryz.isAgg4
 z4:=Tryz.sizeOf4
 v4:=Tryz.zeroValue4
 t22:=Tryz.underlying37
 a22:=Tryz.isAgg37
 z22:=Tryz.sizeOf37
 v22:=Tryz.zeroValue37
 i3:=by kernel_rfl}
end Go.Proofs
namespace Go.Proofs.ZzM
open Go Go.Am
def hmix:Tryz.prog.follows .mixedOrders=true:=by kernel_rfl
def plain_ : (Tryz.prog.funcs.toList.all fun fn => !(fn.name == "runtime.NumGoroutine")) = true := by kernel_rfl
def plain (f : Nat) (fn : Func) (h : Tryz.prog.funcs[f]? = some fn) : (fn.name == "runtime.NumGoroutine") = false := by
 have:=dj.1 plain_ fn (cO (i:=f) (by simpa using h));simpa using this
def aip:Tryz.laysSort_ren.f 189=85:=by kernel_rfl
def abl:Tryz.laysCompact_ren.f 20=145:=by kernel_rfl
section
variable [Ghost] {ρ:Type}
def sortOk (f:Nat) (hf:Qx f=true) (h:List Blk) (x:AV) (K:AV→List Blk→Option ρ) (q:ρ) (e:Q8 h x K=some q) (ν:Nat→Value) (w:World) (u:Value) (H:HR ν h w) (hx:VR ν h w x u):Hd Tryz.prog f ν h w [u] K q:=by
 have h1:f=85:=by
  unfold Qx at hf
  split at hf
  ·rfl
  ·cases hf
 subst h1;have:=aie Tryz.laysSort e H hx ⟨_,rfl⟩
 rwa [aip] at this
def aeO (f:Nat) (hf:wI f=true) (h:List Blk) (x:AV) (K:AV→List Blk→Option ρ) (q:ρ) (e:qI h x K=some q) (ν:Nat→Value) (w:World) (u:Value) (H:HR ν h w) (hx:VR ν h w x u):Hd Tryz.prog f ν h w [u] K q:=by
 have h1:f=145:=by
  unfold wI at hf
  split at hf
  ·rfl
  ·cases hf
 subst h1;have:=ab1 Tryz.laysCompact e H hx ⟨_,rfl⟩
 rwa [abl] at this
def aiX:IZ Tryz.prog Iq:=by
 intro g hg fz S nid x v S' e ν w u H hx hn hd;unfold Iq at hg
 split at hg
 ·exact BS Tryz.func71 (T:=27) (by kernel_rfl) (by kernel_rfl) e H hx hn hd
 ·exact BS Tryz.func83 (T:=24) (by kernel_rfl) (by kernel_rfl) e H hx hn hd
 ·exact BS Tryz.func118 (T:=37) (by kernel_rfl) (by kernel_rfl) e H hx hn hd
 ·exact BS Tryz.func187 (T:=25) (by kernel_rfl) (by kernel_rfl) e H hx hn hd
 ·exact BS Tryz.func188 (T:=26) (by kernel_rfl) (by kernel_rfl) e H hx hn hd
 ·exact BS Tryz.func189 (T:=28) (by kernel_rfl) (by kernel_rfl) e H hx hn hd
 ·cases hg
def AJ {pt:List (Nat×å)} (h:∀e∈pt,ki Tryz.prog e.1 e.2) (E:Env ρ) (hP:E.P=Tryz.prog) (h1:E.pure=YQ pt) (h2:E.sort=Qx) (h3:E.compact=wI) (h4:E.clone=Iq) (hj:Xb E) (hx:∀f X,E.ext f=some X→aci E.P f X) (hy:lV E):G9 E:=by
 constructor
 ·intro f p hf;rw[h1] at hf;rw[hP];exact h (f,p) (QJ hf)
 ·intro f hf;rw[h2] at hf;rw[hP];exact sortOk f hf
 ·intro f hf;rw[h3] at hf;rw[hP];exact aeO f hf
 ·rw[hP]; exact plain
 ·rw[hP,h4]; exact aiX
 ·exact hj
 ·exact hy
 ·exact hx
def libN {pt:List (Nat×å)} (h:∀e∈pt,ki Tryz.prog e.1 e.2) (tab:List (ä ρ)):G9 (ì pt tab):=AJ h _ rfl rfl rfl rfl rfl (ś rfl) (kF rfl) (iC rfl)
end
abbrev ZP (f:Nat) (p:å):Prop:=ki Tryz.prog f p
def zt {f:Nat} {p:å} {pt:List (Nat×å)} {tab:List (ä (Val (tyL p.rs)))} (E:Env (Val (tyL p.rs))) (hc:∀e∈pt,ki Tryz.prog e.1 e.2) (hE:E=ì pt tab) (hok:∀x∈tab,x.Ok E) (law:∀x:Val (tyL p.ts),topK E f (YU p.ts x) (fun h v=>Ä (aio p.rs h v) some)=p.F x):ki Tryz.prog f p:=by
 subst hE;exact Kt (ì pt tab) (fun {_}=>libN hc _) hmix (tab:=tab) rfl hok (mA law)
end Go.Proofs.ZzM
end

noncomputable section
set_option maxRecDepth 100000
namespace Go.Proofs.ZzM
open Go Go.Am
def nP:ZP 39 jI:=zt (iG _) Å rfl (Á wm (Á wj Å)) fun x=>yY x some
def PJ {n:Nat} (hr:lW Tryz.prog ⟨151,(.slice tI),(.slice tI),Xk n⟩):lW Tryz.prog ⟨151,(.slice tI),(.slice tI),Xk (n+1)⟩:=Tm ⟨151,(.slice tI),(.slice tI),Xk (n+1)⟩ (fun al=>Ĉ al (Xk n) _) rfl (fun _=>rfl) (fun _=>rfl) (fun _ {_} hy=>AJ (Á nP Å) _ rfl rfl rfl rfl rfl (ś rfl) (kF rfl) hy) hmix (fun al=>Gr (E:=Ĉ al (Xk n) _) hmix (tab:=yD al (Xk n) _) rfl (Á Fe Å) (rtab:=zO al (Xk n) _) rfl (Á (Fc hr) Å) (Á E9 Å)) (fun m xs h=>(JN m (Xk (n+1))).trans (adk h))
def G0:∀n:Nat,lW Tryz.prog ⟨151,(.slice tI),(.slice tI),Xk n⟩
 |0=>⟨rfl,fun _ _ m xs h=>(Nat.not_lt_zero _ (ZK (n:=0) (l:=m) (xs:=xs) h).1).elim⟩
 |n+1=>PJ (G0 n)
def aeZ:lW Tryz.prog Nk:=(G0 10).mono fun _ _ h=>abp h
def Ki {n:Nat} (hr:lW Tryz.prog ⟨121,(.slice Ŋ),(.slice (.slice tI)),Xl n⟩):lW Tryz.prog ⟨121,(.slice Ŋ),(.slice (.slice tI)),Xl (n+1)⟩:=Tm ⟨121,(.slice Ŋ),(.slice (.slice tI)),Xl (n+1)⟩ (fun al=>ð al (Xl n) _) rfl (fun _=>rfl) (fun _=>rfl) (fun _ {_} hy=>AJ Å _ rfl rfl rfl rfl rfl (ś rfl) (kF rfl) hy) hmix (fun al=>Gr (E:=ð al (Xl n) _) hmix (tab:=tG al (Xl n) _) rfl Å (rtab:=vW al (Xl n) _) rfl (Á (B9 hr) (Á (Cd aeZ) Å)) (Á B8 (Á Cc Å))) (fun m xs h=>(Ft m (Xl (n+1))).trans (Y4 h))
def A7:∀n:Nat,lW Tryz.prog ⟨121,(.slice Ŋ),(.slice (.slice tI)),Xl n⟩
 |0=>⟨rfl,fun _ _ m xs h=>(Nat.not_lt_zero _ (ZL (n:=0) (l:=m) (xs:=xs) h).1).elim⟩
 |n+1=>Ki (A7 n)
def NR:lW Tryz.prog sh:=(A7 10).mono fun _ _ h=>WH h
def aeY:lW Tryz.prog Gu:=Tm Gu (fun al=>Đ al (fun _=>none) _) rfl (fun _=>rfl) (fun _=>rfl) (fun _ {_} hy=>AJ Å _ rfl rfl rfl rfl rfl (ś rfl) (kF rfl) hy) hmix (fun _=>KB hmix rfl (Á sY Å) rfl) (fun m xs h=>(we m BC).trans (acz h))
def BU:ZP 51 vE:=zt (Jp _) Å rfl Å fun x=>Pu x some
def oS:ZP 116 mB:=zt (Jo _) Å rfl Å fun x=>Pe x some
def G5:ZP 101 zB:=zt (M5 _) (Á oS Å) rfl Å fun x=>SU x some
def aaJ:ZP 173 Rn:=zt (Qn _) Å rfl Å fun x=>Vx x some
def afb:ZP 174 XQ:=zt (MJ _) Å rfl (Á Sx Å) fun x=>Yk x some
def G4:ZP 138 ER:=zt (MM _) (Á aaJ (Á afb Å)) rfl Å fun x=>SD x some
def Y9:ZP 99 Lq:=zt (Gd _) (Á BU (Á G5 (Á oS (Á G4 Å)))) rfl Å fun x=>M4 x some
def N1:ZP 52 zD:=zt (oK _) (Á Y9 Å) rfl (Á AF Å) fun x=>D8 x some
def yx:ZP 53 rC:=zt (xS _) Å rfl (Á H5 Å) fun x=>MS x some
def wR:ZP 75 ot:=zt (mo _) Å rfl (Á xI Å) fun x=>Ad x some
def iI:ZP 38 ŷ:=zt (oe _) (Á wR Å) rfl Å fun x=>wi x some
def aaL:ZP 106 Rp:=zt (By _) (Á iI Å) rfl (Á Py (Á Px Å)) fun x=>VV x some
def N0:ZP 55 EU:=zt (xV _) (Á aaL Å) rfl (Á MV (Á MW Å)) fun x=>SL x some
def vu:ZP 102 oU:=zt (yJ _) Å rfl Å fun x=>FW x some
def Y8:ZP 100 XS:=zt (FX _) (Á G5 (Á vu Å)) rfl Å fun x=>MU x some
def TR:ZP 104 Rq:=zt (nz _) (Á BU (Á vu (Á oS Å))) rfl (Á D6 (Á D5 Å)) fun x=>If x some
def QW:ZP 73 HB:=zt (AE _) (Á oS Å) rfl (Á Kd Å) fun x=>Pq x some
def KO:ZP 74 EV:=zt (Bw _) (Á iI Å) rfl (Á Po (Á Pn Å)) fun x=>VQ x some
def aaM:ZP 108 Rr:=zt (Ig _) (Á oS Å) rfl (Á Pz Å) fun x=>VX x some
def Kl:ZP 105 JI:=zt (Ŵ _) (Á nP (Á BU (Á QW (Á KO (Á G5 (Á vu (Á aaM (Á oS Å)))))))) rfl (Á zb (Á y0 (Á za (Á yZ Å)))) fun x=>Cl x some
end Go.Proofs.ZzM
end

noncomputable section
namespace Go.Proofs
open Go.RowKit
attribute [local go_sem] Oper.semAt_some
def upE (f:Nat→Int) (k:Nat):List Int:=(List.range k).map f
def s7 (f:Nat→Int) (k:Nat):upE f (k+1)=upE f k++[f k]:=by simp[upE,fN]
def Bm (f:Nat→Int) (k:Nat):(upE f k).length=k:=by simp[upE]
def Kn (f:Nat→Int) {j k:Nat} (h:j≤k):upE f j <+: upE f k:=by
 have:k=j+(k-j):=by omega
 rw[this,upE,upE,List.range_add,eJ];exact dO _ _
set_option maxRecDepth 100000 in
set_option maxHeartbeats 1000000 in
def af6 (te:TypeId) (n:Nat) (hn:1≤n) (l n₀ bb tb sb:Nat) (flo fhi ga mv:Value) (hbb:bb<n₀) (htb:tb<n₀) (hsb:sb<n₀)
 (ub uo ul uc kb ko kl kc:Nat) (ubase kbase lbase cbase:Option Addr) (ll lc cl cc:Nat) (hub:0<ul→ubase=some ⟨ub,uo,none⟩∧ub<n₀) (hkb:0<kl→kbase=some ⟨kb,ko,none⟩∧kb<n₀)
 (U K:Nat→Int×Int) (eU eL eC eK:Nat→Int)
 (hul:ul≤1000) (hll:ll≤1000) (hcl:cl≤1000) (hkl:kl≤1000)
 (W:World) (hb0:W.heap[bb]?=some (.cells #[flo,fhi,ga,.slice ubase ul uc,.slice lbase ll lc,.slice cbase cl cc,.slice kbase kl kc] te (0,0)))
 (ht:W.cell? ⟨tb,0,none⟩=some (.func (.func 100) #[] #[.pointer (some ⟨sb,0,none⟩)])) (hs:W.cell? ⟨sb,0,none⟩=some mv)
 (hU:∀j,j<ul→W.cell? ⟨ub,uo+j*2,none⟩=some (.int .i64 (U j).1)∧W.cell? ⟨ub,uo+j*2+1,none⟩=some (.int .i64 (U j).2))
 (hK:∀j,j<kl→W.cell? ⟨kb,ko+j*2,none⟩=some (.int .i64 (K j).1)∧W.cell? ⟨kb,ko+j*2+1,none⟩=some (.int .i64 (K j).2))
 (cU:∀j,j<ul→∀W',Below n₀ W W'→CallsIn Fence.wide (n-1) Tryz.prog 100 #[.int .i64 (U j).1,.int .i64 (U j).2,.pointer (some ⟨sb,0,none⟩)] W' fun e W''=>e=.returned (.int .i64 (eU j))∧W'.grownBy W'' none)
 (cK:∀j,j<kl→∀W',Below n₀ W W'→CallsIn Fence.wide (n-1) Tryz.prog 100 #[.int .i64 (K j).1,.int .i64 (K j).2,.pointer (some ⟨sb,0,none⟩)] W' fun e W''=>e=.returned (.int .i64 (eK j))∧W'.grownBy W'' none)
 (cL:∀j,j<ll→∀W',Below n₀ W W'→CallsIn Fence.wide (n-1) Tryz.prog 104 #[.agg #[flo,fhi,ga,.slice ubase ul uc,.slice lbase ll lc,.slice cbase cl cc,.slice kbase kl kc],mv,.int .i64 j] W' fun e W''=>e=.returned (.int .i64 (eL j))∧W'.grownBy W'' none)
 (cC:∀j,j<cl→∀W',Below n₀ W W'→CallsIn Fence.wide (n-1) Tryz.prog 105 #[.agg #[flo,fhi,ga,.slice ubase ul uc,.slice lbase ll lc,.slice cbase cl cc,.slice kbase kl kc],mv,.int .i64 j] W' fun e W''=>e=.returned (.int .i64 (eC j))∧W'.grownBy W'' none)
 (J Jx:List Int→World→Prop) (hJ:∀pre W W',J pre W→W.grownBy W' none→J pre W') (hJx:∀pre W W',Jx pre W→W.grownBy W' none→Jx pre W')
 (hY:∀pre x W,J pre W→pre.length<ul+(ll+(cl+kl))→YieldAt Fence.wide (n-1) Tryz.prog l #[.int .i64 x] W fun e W' =>
  (e=.returned (.bool true)∧J (pre++[x]) W'∧Below n₀ W W')∨(e=.returned (.bool false)∧Jx (pre++[x]) W'))
 (h0 : J [] W) (hn₀ : n₀ ≤ W.heap.size) :
  CallsIn Fence.wide n Tryz.prog 103 #[.func (.yield l) #[] #[],.pointer (some ⟨bb,0,none⟩),.pointer (some ⟨tb,0,none⟩),.pointer (some ⟨sb,0,none⟩)] W fun e W'=>(∃v,e=.returned v) ∧
   ((∃xs,xs=upE eU ul++(upE eL ll++(upE eC cl++upE eK kl))∧J xs W')∨(∃pre,(pre <+: upE eU ul++(upE eL ll++(upE eC cl++upE eK kl)))∧Jx pre W')):=by
 have grown_alloc:∀(X:World) (o:Obj),X.grownBy (X.alloc o) none:=fun X o=>World.grownBy_alloc X o none
 have bel:∀{X Y:World},Below n₀ W X→X.grownBy Y none→Below n₀ W Y:=fun {X Y} h g =>
  ⟨g.os.trans h.os,g.tape.trans h.tape,g.output.trans h.output,cY h.size g.size,fun k hk=>(g.block k (dc (dc hk hn₀) h.size) (by simp)).trans (h.block k hk)⟩
 have hc:∀{X:World},Below n₀ W X→X.heap[bb]?=some (.cells #[flo,fhi,ga,.slice ubase ul uc,.slice lbase ll lc,.slice cbase cl cc,.slice kbase kl kc] te (0,0)):=fun h=>(h.block bb hbb).trans hb0;refine callsIn_of_wp Tryz.func103 rfl trivial ?_ rfl;simp only[Tryz.ntmps103,eS,cW,dX,Nat.reduceAdd,Nat.reduceSub,Array.replicate_succ,Array.replicate_zero,List.push_toArray,gE,dL,eZ]
 have hb3:W.cell? ⟨bb,3,none⟩=some (.slice ubase ul uc):=by simp[World.cell?,hb0]
 gi_wp2
 gi_loopw [14] (fun i wr=>∃k:Nat,k≤ul∧i=.int .i64 k∧J (upE eU k) wr∧Below n₀ W wr)
  (fun i _=>ul-(intOf i).toNat)
 case atStart=>exact⟨0,dR _,rfl,h0,Below.refl _ _⟩
 case round =>
  obtain⟨k,hk,rfl,hJs,hnx⟩:=hrel
  by_cases hlt:k<ul
  ·obtain⟨rfl,hlu⟩:=hub (by omega);have hu1:=(hnx.cell (p:=⟨ub,uo+k*2,none⟩) hlu).trans (hU k hlt).1;have hu2:=(hnx.cell (p:=⟨ub,uo+k*2+1,none⟩) hlu).trans (hU k hlt).2;have ht':=(hnx.cell (p:=⟨tb,0,none⟩) htb).trans ht;have hta:∀o,(wr.alloc o).cell? ⟨tb,0,none⟩=some (.func (.func 100) #[] #[.pointer (some ⟨sb,0,none⟩)]):=fun o=>Lib.cell?_alloc_some _ ht'
   gi_wp2
   refine⟨trivial,(cU k hlt _ (bel hnx (grown_alloc _ _))).mono ?_⟩;rintro e W2 ⟨rfl,hg2⟩;obtain⟨fn,tmps,assign,body,hy,hR⟩:=hY _ (eU k) W2 (hJ _ _ _ (hJ _ _ _ hJs (grown_alloc _ _)) hg2) (by rw[Bm]; omega);have hb2:=bel (bel hnx (grown_alloc _ _)) hg2
   gi_wp2
   refine hR.mono ?_;rintro e W3 (⟨rfl,hJ3,hk3⟩|⟨rfl,hJx3⟩)
   ·gi_wp2
    go_roundw
    case rel=>exact⟨k+1,by omega,by simp,by rw[s7]; exact hJ3,hb2.trans hk3⟩
    case measure=>simp[intOf]; omega
   ·gi_wp2
    refine bodyPost_ret (results_none rfl _ _ _) rfl ?_;refine⟨⟨_,rfl⟩,.inr ⟨_,?_,hJx3⟩⟩;rw[←s7];exact(Kn eU (by omega)).trans (dO _ _)
  ·obtain rfl:ul=k:=by omega
   have hb4:wr.cell? ⟨bb,4,none⟩=some (.slice lbase ll lc):=by simp[World.cell?,hc hnx]
   gi_wp2
   gi_loopw [31] (fun i wr=>∃k:Nat,k≤ll∧i=.int .i64 k∧J (upE eU ul++upE eL k) wr∧Below n₀ W wr)
    (fun i _=>ll-(intOf i).toNat)
   case atStart=>exact⟨0,dR _,rfl,by simpa[upE] using hJs,hnx⟩
   case round =>
    clear hJs hnx;obtain⟨k,hk,rfl,hJs,hnx⟩:=hrel
    by_cases hlt:k<ll
    ·have q0:wr.cell? ⟨bb,0,none⟩=some flo:=by simp[World.cell?,hc hnx]
     have q1:wr.cell? ⟨bb,1,none⟩=some fhi:=by simp[World.cell?,hc hnx]
     have q2:wr.cell? ⟨bb,2,none⟩=some ga:=by simp[World.cell?,hc hnx]
     have q3:wr.cell? ⟨bb,3,none⟩=some (.slice ubase ul uc):=by simp[World.cell?,hc hnx]
     have q4:wr.cell? ⟨bb,4,none⟩=some (.slice lbase ll lc):=by simp[World.cell?,hc hnx]
     have q5:wr.cell? ⟨bb,5,none⟩=some (.slice cbase cl cc):=by simp[World.cell?,hc hnx]
     have q6:wr.cell? ⟨bb,6,none⟩=some (.slice kbase kl kc):=by simp[World.cell?,hc hnx]
     have hs':=(hnx.cell (p:=⟨sb,0,none⟩) hsb).trans hs
     gi_wp2
     refine⟨trivial,(cL k hlt _ hnx).mono ?_⟩;rintro e W2 ⟨rfl,hg2⟩;obtain⟨fn,tmps,assign,body,hy,hR⟩:=hY _ (eL k) W2 (hJ _ _ _ hJs hg2) (by simp only[cJ,Bm]; omega);have hb2:=bel hnx hg2
     gi_wp2
     refine hR.mono ?_;rintro e W3 (⟨rfl,hJ3,hk3⟩|⟨rfl,hJx3⟩)
     ·gi_wp2
      go_roundw
      case rel=>exact⟨k+1,by omega,by simp,by rw[s7,←cR]; exact hJ3,hb2.trans hk3⟩
      case measure=>simp[intOf]; omega
     ·gi_wp2
      refine bodyPost_ret (results_none rfl _ _ _) rfl ?_;refine⟨⟨_,rfl⟩,.inr ⟨_,?_,hJx3⟩⟩;rw[cR,←s7];exact(eG _).2 ((Kn eL (by omega)).trans (dO _ _))
    ·obtain rfl:ll=k:=by omega
     have hb5:wr.cell? ⟨bb,5,none⟩=some (.slice cbase cl cc):=by simp[World.cell?,hc hnx]
     gi_wp2
     gi_loopw [45] (fun i wr=>∃k:Nat,k≤cl∧i=.int .i64 k∧J (upE eU ul++upE eL ll++upE eC k) wr∧Below n₀ W wr)
      (fun i _=>cl-(intOf i).toNat)
     case atStart=>exact⟨0,dR _,rfl,by simpa[upE] using hJs,hnx⟩
     case round =>
      clear hJs hnx;obtain⟨k,hk,rfl,hJs,hnx⟩:=hrel
      by_cases hlt:k<cl
      ·have q0:wr.cell? ⟨bb,0,none⟩=some flo:=by simp[World.cell?,hc hnx]
       have q1:wr.cell? ⟨bb,1,none⟩=some fhi:=by simp[World.cell?,hc hnx]
       have q2:wr.cell? ⟨bb,2,none⟩=some ga:=by simp[World.cell?,hc hnx]
       have q3:wr.cell? ⟨bb,3,none⟩=some (.slice ubase ul uc):=by simp[World.cell?,hc hnx]
       have q4:wr.cell? ⟨bb,4,none⟩=some (.slice lbase ll lc):=by simp[World.cell?,hc hnx]
       have q5:wr.cell? ⟨bb,5,none⟩=some (.slice cbase cl cc):=by simp[World.cell?,hc hnx]
       have q6:wr.cell? ⟨bb,6,none⟩=some (.slice kbase kl kc):=by simp[World.cell?,hc hnx]
       have hs':=(hnx.cell (p:=⟨sb,0,none⟩) hsb).trans hs
       gi_wp2
       refine⟨trivial,(cC k hlt _ hnx).mono ?_⟩;rintro e W2 ⟨rfl,hg2⟩;obtain⟨fn,tmps,assign,body,hy,hR⟩:=hY _ (eC k) W2 (hJ _ _ _ hJs hg2) (by simp only[cJ,Bm]; omega);have hb2:=bel hnx hg2
       gi_wp2
       refine hR.mono ?_;rintro e W3 (⟨rfl,hJ3,hk3⟩|⟨rfl,hJx3⟩)
       ·gi_wp2
        go_roundw
        case rel=>exact⟨k+1,by omega,by simp,by rw[s7,←cR]; exact hJ3,hb2.trans hk3⟩
        case measure=>simp[intOf]; omega
       ·gi_wp2
        refine bodyPost_ret (results_none rfl _ _ _) rfl ?_;refine⟨⟨_,rfl⟩,.inr ⟨_,?_,hJx3⟩⟩;rw[cR,←s7]
        exact by rw[cR]; exact(eG _).2 ((eG _).2 ((Kn eC (by omega)).trans (dO _ _)))
      ·obtain rfl:cl=k:=by omega
       have hb6:wr.cell? ⟨bb,6,none⟩=some (.slice kbase kl kc):=by simp[World.cell?,hc hnx]
       gi_wp2
       gi_loopw [59] (fun i wr=>∃k:Nat,k≤kl∧i=.int .i64 k∧J ((upE eU ul++upE eL ll++upE eC cl)++upE eK k) wr∧Below n₀ W wr)
        (fun i _=>kl-(intOf i).toNat)
       case atStart=>exact⟨0,dR _,rfl,by simpa[upE] using hJs,hnx⟩
       case round =>
        clear hJs hnx;obtain⟨k,hk,rfl,hJs,hnx⟩:=hrel
        by_cases hlt:k<kl
        ·obtain⟨rfl,hlk⟩:=hkb (by omega);have hu1:=(hnx.cell (p:=⟨kb,ko+k*2,none⟩) hlk).trans (hK k hlt).1;have hu2:=(hnx.cell (p:=⟨kb,ko+k*2+1,none⟩) hlk).trans (hK k hlt).2;have ht':=(hnx.cell (p:=⟨tb,0,none⟩) htb).trans ht;have hta:∀o,(wr.alloc o).cell? ⟨tb,0,none⟩=some (.func (.func 100) #[] #[.pointer (some ⟨sb,0,none⟩)]):=fun o=>Lib.cell?_alloc_some _ ht'
         gi_wp2
         refine⟨trivial,(cK k hlt _ (bel hnx (grown_alloc _ _))).mono ?_⟩;rintro e W2 ⟨rfl,hg2⟩;obtain⟨fn,tmps,assign,body,hy,hR⟩:=hY _ (eK k) W2 (hJ _ _ _ (hJ _ _ _ hJs (grown_alloc _ _)) hg2) (by simp only[cJ,Bm]; omega);have hb2:=bel (bel hnx (grown_alloc _ _)) hg2
         gi_wp2
         refine hR.mono ?_;rintro e W3 (⟨rfl,hJ3,hk3⟩|⟨rfl,hJx3⟩)
         ·gi_wp2
          go_roundw
          case rel=>exact⟨k+1,by omega,by simp,by rw[s7,←cR]; exact hJ3,hb2.trans hk3⟩
          case measure=>simp[intOf]; omega
         ·gi_wp2
          refine bodyPost_ret (results_none rfl _ _ _) rfl ?_;refine⟨⟨_,rfl⟩,.inr ⟨_,?_,hJx3⟩⟩;rw[cR,←s7,cR,cR];exact(eG _).2 ((eG _).2 ((eG _).2 (Kn eK (by omega))))
        ·obtain rfl:kl=k:=by omega
         gi_wp2
         go_end0
         exact⟨⟨_,rfl⟩,.inl ⟨_,rfl,by simpa[cR] using hJs⟩⟩
end Go.Proofs
end

noncomputable section
set_option maxRecDepth 100000
namespace Go.Proofs.ZzM
open Go Go.Am Go.RowKit
def ZI (p:String):Code:=.region 10 #[{dst:=some 5,op:=.assign (.tmp 49),type:=38,pos:=p,after:=#[],guard:=none}] false
def ahr (q r:String):Code:=.block 1 (.seq (.region 11 #[{dst:=some 50,op:=.move (.tmp 5),type:=38,pos:=q,after:=#[],guard:=none},{dst:=some 51,op:=.binOp .neq 38 (.tmp 50) (.const (.int .i64 0)) 38,type:=4,pos:=q,after:=#[{on:=0,ground:=.data}],guard:=none}] false)
 (.cond (.tmp 51) (.seq (.region 12 #[{dst:=some 52,op:=.move (.tmp 5),type:=38,pos:=r,after:=#[],guard:=none},{dst:=none,op:=.store 38 (.tmp 2) (.tmp 52),type:=0,pos:=r,after:=#[{on:=0,ground:=.data},{on:=0,ground:=.phase}],guard:=none}] false) .ret) .skip))
section
variable {P:Program} {F:Fence} {n:Nat}
def EX {ops:Array Oper} {i d:Nat} {o:Oper} {u:Value} {w w':World} {a:Act} {next:Act→World→Prop} {Q:Exit→Act→World→Prop} (hF:∀f,F.fn f) (ho:ops[i]?=some o) (hg:o.guard=none) (hd:o.dst=some d) (hdf:∀c,o.op≠.defer c)
 (hrun:(execOp a.eval o).run P w=.ok (.value u) w') (k:next (a.put (some d) u) w'):wpOpIn F n P ops Q i next a w:=by
 unfold wpOpIn;rw[ho]
 have hw:Region.wanted o (yielded ops a.tmps)=true:=by simp[Region.wanted,hg]
 simp only[hw,if_true];refine⟨fun _ _=>hF _,?_⟩;rw[Oper.semAt_eq _ _ _ hdf,hrun];rw[←hd] at k;exact k
def abr {ops:Array Oper} {i:Nat} {o:Oper} {w w':World} {a:Act} {next:Act→World→Prop} {Q:Exit→Act→World→Prop} (hF:∀f,F.fn f) (ho:ops[i]?=some o) (hg:o.guard=none) (hd:o.dst=none) (hdf:∀c,o.op≠.defer c)
 (hrun:(execOp a.eval o).run P w=.ok .skip w') (k:next a w'):wpOpIn F n P ops Q i next a w:=by
 unfold wpOpIn;rw[ho]
 have hw:Region.wanted o (yielded ops a.tmps)=true:=by simp[Region.wanted,hg]
 simp only[hw,if_true];refine⟨fun _ _=>hF _,?_⟩;rw[Oper.semAt_eq _ _ _ hdf,hrun];show next (a.put o.dst undef) w';rw[hd];exact k
end
def ku (T:Array Value) (i j:Nat) (v:Value):(T.setIfInBounds i v).getD j undef=if i=j∧i<T.size then v else T.getD j undef:=by
 simp only[dT,fH]
 by_cases h:i=j
 ·subst h
  by_cases h2:i<T.size
  ·simp[h2]
  ·simp[h2]
 ·simp[h]
def mark (D:Nat):Deferred:={target:=.collected D,args:=#[]}
structure Put1 (n₀ rb:Nat) (x:Int) (w W:World):Prop where
 os:W.os=w.os
 tape:W.tape=w.tape
 output:W.output=w.output
 size:w.heap.size≤W.heap.size
 block:∀k,k<n₀→k≠rb→W.heap[k]?=w.heap[k]?
 cell:∃e,W.heap[rb]?=some (.cells #[.int .i64 x] e (0,0))
set_option maxHeartbeats 4000000 in
def aim {a:Act} {w:World} {Q:Exit→Act→World→Prop} {lb:Array Value} {L:List Int} {rb:Nat} {e0:TypeId} {v0:Value} {p q r:String}
 (hseq:SeqStopsK Fence.wide 1 Tryz.prog 103 lb (fun x:Int=>#[.int .i64 x]) (Below w.heap.size) (fun xs=>xs=L) (fun pre=>pre <+: L) L.length w)
 (hg:a.tmps.getD 48 undef=.func (.func 103) #[] lb) (h2:a.tmps.getD 2 undef=.pointer (some ⟨rb,0,none⟩)) (hsz:78≤a.tmps.size)
 (hrb:w.heap[rb]?=some (.cells #[v0] e0 (0,0)))
 (hdone:∀D W,(∀x∈L,x=0)→Below w.heap.size w W→w.heap.size≤D→W.heap[D]?=some (.deferred (some []))→Q .normal {a with defers:=mark D::a.defers} W)
 (hstop:∀D W x,L.find? (fun e=>e != 0)=some x→Put1 w.heap.size rb x w W→w.heap.size≤D→W.heap[D]?=some (.deferred (some []))→Q .ret {a with defers:=mark D::a.defers} W) :
 (Code.rangeFunc (.tmp 48) #[49] (ZI p) (ahr q r)).wpIn Fence.wide 2 Tryz.prog Q a w:=by
 have hT:∀f,Fence.wide.fn f:=fun _=>trivial;have hrl:=Ĕ hrb
 refine wpIn_rangeFunc_ownF (α:=Int) (encs:=fun x=>#[.int .i64 x]) (Kp:=Below w.heap.size) (S:=fun xs=>xs=L) (Sp:=fun pre=>pre <+: L) (N:=L.length) (w0:=w) rfl (by omega) hg trivial (fun args w=>?eg) hseq
  (fun h k=>h.trans k) (fun W l o o' hl ho hc hw=>belowK_b (cG _) W l o o' hl ho hc hw) (Below.refl _ _) (fun _=>rfl)
  (fun pre W=>(∀x∈pre,x=0)∧Below w.heap.size w W)
  (fun c pre W=>c=.ret∧∃pre' x,pre=pre'++[x]∧(∀x∈pre',x=0)∧x≠0∧Put1 w.heap.size rb x w W)
  ?hI ?hIx ⟨by simp,Below.refl _ _⟩ (fun x=>{tmps:=(a.tmps.setIfInBounds 49 (.int .i64 x)).setIfInBounds 5 (.int .i64 x),defers:=[]}) ?hassign ?hbody ?hdone ?hstop
 case eg=>simp[callFunc,Sem.run_bind,run_program,Result.andThen_ok,Tryz.func103,plain 103 _ Tryz.func103,show Tryz.f103.body.isNone=false from rfl]; rfl
 case hI =>
  intro s W W' row ⟨h1,h2⟩ hgr hr;exact⟨h1,hgr.os.trans h2.os,hgr.tape.trans h2.tape,hgr.output.trans h2.output,cY h2.size hgr.size,fun k hk=>(hgr.block k (dc hk h2.size) (fun e=>by have:=(hr k e.symm).1; omega)).trans (h2.block k hk)⟩
 case hIx =>
  intro c s W W' row ⟨h1,pre',x,h3,h4,h5,h6⟩ hgr hr;have hb:∀k,k<w.heap.size→W'.heap[k]?=W.heap[k]?:=fun k hk=>hgr.block k (dc hk h6.size) (fun e=>by have:=(hr k e.symm).1; omega)
  exact⟨h1,pre',x,h3,h4,h5,hgr.os.trans h6.os,hgr.tape.trans h6.tape,hgr.output.trans h6.output,cY h6.size hgr.size,fun k hk hne=>(hb k hk).trans (h6.block k hk hne),by
   obtain⟨e,he⟩:=h6.cell
   exact⟨e,(hb rb hrl).trans he⟩⟩
 case hassign =>
  intro l x W K hK
  have hf:((#[49]:Array Tmp).zip #[Value.int .i64 x]).foldl (fun t (p,v)=>t.setIfInBounds p v) a.tmps=a.tmps.setIfInBounds 49 (.int .i64 x):=by simp
  rw[hf];refine wpIn_region ?_;rw[show ∀o:Oper,List.range (#[o]:Array Oper).size=[0] from fun _=>rfl,wpOpsIn_cons];refine EX (d:=5) (u:=.int .i64 x) (w':=W) hT rfl rfl rfl (by simp) ?_ hK;show Result.ok (Next.value ((a.tmps.setIfInBounds 49 (.int .i64 x)).getD 49 undef)) W=_;rw[ku,if_pos ⟨rfl,by omega⟩]
 case hbody =>
  intro l pre x W ⟨h1,hbel⟩ hpre;refine wpIn_block (wpIn_seq (wpIn_region ?_));rw[show ∀o p:Oper,List.range (#[o,p]:Array Oper).size=[0,1] from fun _ _=>rfl,wpOpsIn_cons]
  refine EX (d:=50) (u:=.int .i64 x) (w':=W) hT rfl rfl rfl (by simp) (by
   show Result.ok (Next.value (((a.tmps.setIfInBounds 49 (.int .i64 x)).setIfInBounds 5 (.int .i64 x)).getD 5 undef)) W=_
   rw[ku,if_pos ⟨rfl,by simp; omega⟩]) ?_
  rw[wpOpsIn_cons]
  refine EX (d:=51) (u:=.bool (x != 0)) (w':=W) hT rfl rfl rfl (by simp) (by
   show((do let u ←(do eqGuard .neq 38 (.tmp 50) (.const (.int .i64 0)) ((((a.tmps.setIfInBounds 49 (.int .i64 x)).setIfInBounds 5 (.int .i64 x)).setIfInBounds 50 (.int .i64 x)).getD 50 undef) (.int .i64 0); binOp .neq 38 ((((a.tmps.setIfInBounds 49 (.int .i64 x)).setIfInBounds 5 (.int .i64 x)).setIfInBounds 50 (.int .i64 x)).getD 50 undef) (.int .i64 0)); pure (.value u)):Sem Next).run Tryz.prog W=_;rw[ku,if_pos ⟨rfl,by simp; omega⟩]
   simp[eqGuard,binOp,Op.intCmp]) ?_
  show Code.wpIn (Fence.wide.inRound l) (2-1-1) Tryz.prog (Code.cond (.tmp 51) _ .skip) _ {tmps:=((((a.tmps.setIfInBounds 49 (.int .i64 x)).setIfInBounds 5 (.int .i64 x)).setIfInBounds 50 (.int .i64 x)).setIfInBounds 51 (.bool (x != 0))),defers:=[]} W;obtain⟨T,hTd⟩:∃T,T=((((a.tmps.setIfInBounds 49 (.int .i64 x)).setIfInBounds 5 (.int .i64 x)).setIfInBounds 50 (.int .i64 x)).setIfInBounds 51 (.bool (x != 0))):=⟨_,rfl⟩;rw[←hTd]
  have t51:T.getD 51 undef=.bool (x != 0):=by rw[hTd,ku,if_pos ⟨rfl,by simp; omega⟩]
  have t5:T.getD 5 undef=.int .i64 x:=by rw[hTd,ku,if_neg (by simp),ku,if_neg (by simp),ku,if_pos ⟨rfl,by simp; omega⟩]
  have t2:T.getD 2 undef=.pointer (some ⟨rb,0,none⟩):=by rw[hTd,ku,if_neg (by simp),ku,if_neg (by simp),ku,if_neg (by simp),ku,if_neg (by simp),h2]
  have tsz:78≤T.size:=by rw[hTd]; simpa using hsz
  clear hTd
  by_cases hx:x=0
  ·have e51:Act.eval {tmps:=T,defers:=[]} (.tmp 51)=.bool false:=t51.trans (by simp[hx]);refine wpIn_cond_false e51 (wpIn_skip ?_);simp only[Exit.inBlock,ownPostK];exact⟨KeepsOthers.refl _,Below.refl _ _,fun y hy=>(cM.1 hy).elim (h1 y) (fun h=>by rw[cP] at h; rw[h,hx]),hbel⟩
  ·have e51:Act.eval {tmps:=T,defers:=[]} (.tmp 51)=.bool true:=t51.trans (by simp[hx]);refine wpIn_cond_true e51 (wpIn_seq (wpIn_region ?_));rw[show ∀o p:Oper,List.range (#[o,p]:Array Oper).size=[0,1] from fun _ _=>rfl,wpOpsIn_cons]
   have e5:(execOp (Act.eval {tmps:=T,defers:=[]}) {dst:=some 52,op:=.move (.tmp 5),type:=38,pos:=r,after:=#[],guard:=none}).run Tryz.prog W=.ok (.value (.int .i64 x)) W:=by
    show Result.ok (Next.value (T.getD 5 undef)) W=_;rw[t5]
   refine EX (d:=52) (u:=.int .i64 x) (w':=W) hT rfl rfl rfl (by simp) e5 ?_;rw[wpOpsIn_cons];have hW:W.heap[rb]?=some (.cells #[v0] e0 (0,0)):=(hbel.block rb hrl).trans hrb
   letI:Ghost:=(Gk (fun _=>False) [] (none))
   have hst:=s9 (P:=Tryz.prog) (w:=W) (t:=38) (u:=.int .i64 x) (n:=1) (b:=rb) (o:=0) (by kernel_rfl) rfl hW (by simp) (by simp[Value.cells,Value.oneCell'])
   have hst':(storeVar 38 ⟨rb,0,none⟩ (.int .i64 x)).run Tryz.prog W=.ok () (W.setRow rb #[.int .i64 x]):=by simpa[Value.cells] using hst
   have t52:(T.setIfInBounds 52 (.int .i64 x)).getD 52 undef=.int .i64 x:=by rw[ku,if_pos ⟨rfl,by omega⟩]
   have t2':(T.setIfInBounds 52 (.int .i64 x)).getD 2 undef=.pointer (some ⟨rb,0,none⟩):=by rw[ku,if_neg (by simp),t2]
   have e6:(execOp (Act.eval {tmps:=T.setIfInBounds 52 (.int .i64 x),defers:=[]}) {dst:=none,op:=.store 38 (.tmp 2) (.tmp 52),type:=0,pos:=r,after:=#[{on:=0,ground:=.data},{on:=0,ground:=.phase}],guard:=none}).run Tryz.prog W=.ok .skip (W.setRow rb #[.int .i64 x]):=by
    show((do Instr.storeAt 38 ((T.setIfInBounds 52 (.int .i64 x)).getD 2 undef) ((T.setIfInBounds 52 (.int .i64 x)).getD 52 undef); pure .skip):Sem Next).run Tryz.prog W=_;rw[t52,t2'];simp[Instr.storeAt,Instr.sureAddr,hst']
   refine abr (w':=W.setRow rb #[.int .i64 x]) hT rfl rfl rfl (by simp) e6 ?_;refine wpIn_ret ?_;simp only[Exit.inBlock,ownPostK];refine⟨⟨by simp,fun k o hk ho=>?_⟩,trivial,pre,x,rfl,h1,hx,hbel.os,hbel.tape,hbel.output,by simpa using hbel.size,fun k hk hne=>(setRow_other _ _ _ _ hne).trans (hbel.block k hk),⟨_,setRow_heap _ _ _ _ _ _ hW⟩⟩
   by_cases hk2:k=rb
   ·subst hk2; rw[hW] at hk; cases hk; simp[Obj.isCells] at ho
   ·rw[setRow_other _ _ _ _ hk2]; exact hk
 case hdone =>
  intro D xs W hD hS ⟨h1,hbel⟩ hDo;subst hS;exact hdone D W h1 hbel hD hDo
 case hstop =>
  intro D c pre W hD hS ⟨hc,pre',x,h3,h4,h5,h6⟩ hDo;subst hc;refine wpIn_ret (hstop D W x ?_ h6 hD hDo);obtain⟨t,rfl⟩:=hS;rw[h3,cR,List.find?_append]
  have:List.find? (fun e=>e != 0) pre'=none:=dU.2 fun y hy=>by simp[h4 y hy]
  rw[this];simp[h5]
end Go.Proofs.ZzM
end

noncomputable section
set_option maxRecDepth 100000
namespace Go.Proofs.ZzM
open Go Go.Am Go.RowKit
def fstC:Code→Code
 |.seq a _=>a
 |c=>c
def sndC:Code→Code
 |.seq _ b=>b
 |c=>c
def ads:Nat→Code→Code
 |0,c=>fstC c
 |n+1,c=>ads n (sndC c)
def agN:Nat→Code→Code
 |0,c=>c
 |n+1,c=>agN n (sndC c)
def ckB:Code:=Tryz.f22.body.getD .skip
def ckA5:Code:=fstC (agN 5 ckB |> fstC)
def ckRF:Code:=sndC (agN 5 ckB |> fstC)
def QQ:Code:=sndC (agN 5 ckB)
def ckPre:Code:=.seq (ads 0 ckB) (.seq (ads 1 ckB) (.seq (ads 2 ckB) (.seq (ads 3 ckB) (.seq (ads 4 ckB) ckA5))))
def ahR:Tryz.f22.body=some (.seq (ads 0 ckB) (.seq (ads 1 ckB) (.seq (ads 2 ckB) (.seq (ads 3 ckB) (.seq (ads 4 ckB) (.seq (.seq ckA5 ckRF) QQ)))))):=by kernel_rfl
def ck_pt:List (Nat×å):=[(55,EU),(53,rC),(51,vE),(52,zD)]
def ckE (ρ:Type):Env ρ:=ì ck_pt []
abbrev ckR:Type:=Int ⊕ (List AV×List Blk)
def aeW (S:St):Option Int:=match vz Tryz.prog Tryz.f22 S with
 |some v=>aio [tI] S.h v
 |none=>none
def ckK (e:Exit) (S:St):Option ckR:=match e with
 |.ret=>match aeW S with
  |some n=>some (.inl n)
  |none=>none
 |.normal=>match decide (78≤S.t.length) with
  |true=>some (.inr ([lk S.t 1,lk S.t 2,lk S.t 48],S.h))
  |false=>none
 |_=>none
def ckH (x:Val Ê) (s:Val (.map tI Ù)) (n:Int):List Blk :=
 [.cells (flat Ê x),.cells [.int .i64 n],.cells (flat Ê x),.cells [.mp tI Ù s],.cells [.fn (.func 100) [] [.box 3 0]]]
def ckM (x:Val Ê):Option ckR :=
 Ä (gZ x.1 (0:Int) (1000000:Int)) fun r1=>ifb (!r1) (some (.inl 1)) (ifb (igt (à x.2.1) (12:Int)) (some (.inl 2)) (ifb (igt (à x.2.2.1) (40:Int)) (some (.inl 2)) (ifb (igt (à x.2.2.2.1) (12:Int)) (some (.inl 2)) (ifb (igt (à x.2.2.2.2.1) (40:Int)) (some (.inl 2)) (ifb (igt (à x.2.2.2.2.2) (10:Int)) (some (.inl 2))
  (Ä (δ x) fun r2=>ifb (ine r2 (0:Int)) (some (.inl r2)) (Ä (Ł x) fun r3=>some (.inr ([.box 0 0,.box 1 0,.fn (.func 103) [] [.box 2 0,.box 4 0,.box 3 0]],ckH x r3 0)))))))))
def ck_pre (x:Val Ê):goC (ckE ckR) (Κ (ckE ckR) 10) 22 [] 0 0 ckPre {t:=YU [Ê] x++List.replicate 77 .any,h:=[]} ckK=ckM x:=by kernel_rfl
def agW (ρ:Type):Env ρ:={ckE ρ with inl:=fun _=>false}
def ckS (x:Val Ê):Option Int :=
 Ä (sq x) fun r5=>ifb (igt (à r5) (59:Int)) (some (2:Int)) (ck ((2:Int)*(à x.2.1)) fun n6=>ck ((à r5)-(à x.2.1)) fun n7=>ck ((2:Int)*n7) fun n8=>ck (n6+n8) fun n9=>ck ((2:Int)*(à x.2.2.2.2.1)) fun n10=>ck (n9+n10) fun n11=>ifb (igt n11 (300:Int)) (some (2:Int)) (some (0:Int)))
def ckK2 (e:Exit) (S:St):Option Int:=match e with
 |.ret=>match lk S.t 2 with
  |.box 1 0=>match lkB S.h 1 with
   |.cells [.int .i64 n]=>some n
   |_=>none
  |_=>none
 |_=>none
def ck_suf (x:Val Ê) (s:Val (.map tI Ù)):goC (agW Int) (Κ (agW Int) 10) 22 [] 0 0 QQ {t:=[.any,.box 0 0,.box 1 0]++List.replicate 75 .any,h:=ckH x s 0} ckK2=ckS x:=by kernel_rfl
def agV (x:Val Ê):Ř x=match ckM x with
 |none=>none
 |some (.inl n)=>some n
 |some (.inr _)=>Ä (Ł x) fun s=>PW (lP x s) some (ckS x):=by
 unfold Ř Gp ckM ckS
 cases gZ x.1 (0:Int) (1000000:Int) with
 |none=>rfl
 |some r1 =>
 cases r1 with
 |false=>rfl
 |true =>
 simp only[Ä,ifb,dD]
 cases igt (à x.2.1) (12:Int) with
 |true=>rfl
 |false =>
 cases igt (à x.2.2.1) (40:Int) with
 |true=>rfl
 |false =>
 cases igt (à x.2.2.2.1) (12:Int) with
 |true=>rfl
 |false =>
 cases igt (à x.2.2.2.2.1) (40:Int) with
 |true=>rfl
 |false =>
 cases igt (à x.2.2.2.2.2) (10:Int) with
 |true=>rfl
 |false =>
 cases δ x with
 |none=>rfl
 |some r2 =>
 simp only
 cases ine r2 (0:Int) with
 |true=>rfl
 |false =>
 cases Ł x with
 |none=>rfl
 |some r3=>rfl
def ai0 {x:Val Ê} {q:List AV×List Blk} (h:ckM x=some (.inr q)):((x.2.2.1:List (Val Ã)).length≤1000∧(x.2.2.2.1:List (Val iZ)).length≤1000∧(x.2.2.2.2.1:List (Val Þ)).length≤1000∧(x.2.2.2.2.2:List (Val Ã)).length≤1000) ∧
 ∃s,Ł x=some s∧q=([.box 0 0,.box 1 0,.fn (.func 103) [] [.box 2 0,.box 4 0,.box 3 0]],ckH x s 0):=by
 unfold ckM at h
 cases h0:gZ x.1 (0:Int) (1000000:Int) with
 |none=>rw[h0] at h; cases h
 |some r1 =>
 rw[h0] at h
 cases r1 with
 |false=>cases h
 |true =>
 simp only[Ä,ifb,dD] at h
 cases h1:igt (à x.2.1) (12:Int) with
 |true=>rw[h1] at h; cases h
 |false =>
 rw[h1] at h
 cases h2:igt (à x.2.2.1) (40:Int) with
 |true=>rw[h2] at h; cases h
 |false =>
 rw[h2] at h
 cases h3:igt (à x.2.2.2.1) (12:Int) with
 |true=>rw[h3] at h; cases h
 |false =>
 rw[h3] at h
 cases h4:igt (à x.2.2.2.2.1) (40:Int) with
 |true=>rw[h4] at h; cases h
 |false =>
 rw[h4] at h
 cases h5:igt (à x.2.2.2.2.2) (10:Int) with
 |true=>rw[h5] at h; cases h
 |false =>
 rw[h5] at h
 cases h6:δ x with
 |none=>rw[h6] at h; cases h
 |some r2 =>
 rw[h6] at h;simp only at h
 cases h7:ine r2 (0:Int) with
 |true=>rw[h7] at h; cases h
 |false =>
 rw[h7] at h
 cases h8:Ł x with
 |none=>rw[h8] at h; cases h
 |some r3 =>
 rw[h8] at h
 have lt:∀{α:Type} (l:List α) (n:Nat),igt (à l) (n:Int)=false→l.length≤n:=by
  intro α l n h;unfold à at h;rw[Lv] at h;simp only[igt,gt_iff_lt,decide_eq_false_iff_not] at h;omega
 simp only[Option.some.injEq,Sum.inr.injEq] at h;exact⟨⟨by have:=lt x.2.2.1 40 h2; omega,by have:=lt x.2.2.2.1 12 h3; omega,by have:=lt x.2.2.2.2.1 40 h4; omega,by have:=lt x.2.2.2.2.2 10 h5; omega⟩,r3,rfl,h.symm⟩
def E5 {α β:Type} {f:α→Option β}:∀{l:List α} {m:List β},LC f l=some m→m.length=l.length∧∀(i:Nat) (a:α),l[i]?=some a→∃b,m[i]?=some b∧f a=some b
 |[],m,h=>by cases h; exact⟨rfl,fun i a ha=>by simp at ha⟩
 |a::l,m,h=>by
  unfold LC at h
  cases ha:f a with
  |none=>rw[ha] at h; cases h
  |some b =>
   rw[ha] at h
   cases hl:LC f l with
   |none=>rw[hl] at h; cases h
   |some m' =>
    rw[hl] at h;cases h;obtain⟨h1,h2⟩:=E5 hl;refine⟨by simp[h1],fun i c hc=>?_⟩
    cases i with
    |zero=>simp at hc; subst hc; exact⟨b,by simp,ha⟩
    |succ i=>simpa using h2 i c (by simpa using hc)
def Ko (l:List Int):upE (fun j=>l[j]?.getD 0) l.length=l:=by
 unfold upE;refine List.ext_getElem (by simp) fun i h1 h2=>?_;simp at h1;simp[h1]
def CR.below {n₀:Nat} {w W:World} {av:Nat→Prop} (hb:Below n₀ w W) (hn:w.heap.size≤n₀) {t:Ty} {x:Val t} {vs:List Value} (h:CR w av t x vs):CR W av t x vs :=
 h.keep fun b hlt ha=>⟨hb.block b (dc hlt hn),ha⟩
def K3 {w:World} {av:Nat→Prop} {xs:List (Int×Int)} {v:Value} (h:CR w av (.slice Ã) xs [v]):∃base cap b off,v=.slice base xs.length cap∧(0<xs.length→base=some ⟨b,off,none⟩∧b<w.heap.size) ∧
 ∀j,j<xs.length→w.cell? ⟨b,off+j*2,none⟩=some (.int .i64 (xs[j]?.getD (0,0)).1)∧w.cell? ⟨b,off+j*2+1,none⟩=some (.int .i64 (xs[j]?.getD (0,0)).2):=by
 obtain⟨base,cap,e,hc,hx⟩:=h;cases e;rcases hx with hx|⟨b,off,hb,hav,hlt,hx⟩
 ·refine⟨base,cap,0,0,rfl,fun h=>?_,fun j hj=>?_⟩
  ·rw[show xs=[] from hx] at h; simp at h
  ·rw[show xs=[] from hx] at hj; simp at hj
 ·refine⟨base,cap,b,off,rfl,fun _=>⟨hb,hlt⟩,fun j hj=>?_⟩;obtain⟨us,h1,h2⟩:=hx j xs[j] (cF hj);obtain⟨u1,u2,e1,h3,h4⟩:=h1;have e3:u1=[.int .i64 xs[j].1]:=h3;have e4:u2=[.int .i64 xs[j].2]:=h4;subst e3 e4 e1;have s:(Ã).size=2:=rfl;rw[s] at h2;have c1:=h2 0 _ rfl;have c2:=h2 1 _ rfl;rw[cF hj];exact⟨by simpa using c1,by simpa[Nat.add_assoc] using c2⟩
end Go.Proofs.ZzM
end

noncomputable section
set_option maxRecDepth 100000
namespace Go.Proofs.ZzM
open Go Go.Am Go.RowKit
section
variable {w W W':World}
abbrev noG:Nat→Prop:=fun _=>False
def Tp (w:World) (n:Int):mT w noG tI n (.int .i64 n):=⟨[.int .i64 n],rfl,rfl⟩
def aiz {sb:Nat} {mv:Value} {e:TypeId} {s:Val (.map tI Ù)} (h:w.heap[sb]?=some (.cells #[mv] e (0,0))) (hm:CR w noG (.map tI Ù) s [mv]):mT w noG (.ptr (.map tI Ù)) s (.pointer (some ⟨sb,0,none⟩)):=by
 letI:Ghost:=(Gk (fun _=>False) [] (none))
 exact⟨[.pointer (some ⟨sb,0,none⟩)],⟨sb,0,[mv],rfl,id,Ĕ h,hm,CellsAt.of_cells h⟩,rfl⟩
def ain {y:Int} {u:Value} (h:RR w noG [tI] y u):u=.int .i64 y:=by
 obtain⟨us,h1,rfl⟩:=h;have:us=[.int .i64 y]:=h1;rw[this]; rfl
def agA (h1:∀b,b<W.heap.size→W'.heap[b]?=W.heap[b]?) (h2:W.heap.size≤W'.heap.size) (h3:W'.os=W.os) (h4:W'.tape=W.tape) (h5:W'.output=W.output):W.grownBy W' none :=
 ⟨h3,h4,h5,h2,fun b hb _=>h1 b hb⟩
def TL {f:Nat} {p:å} (hp:ki Tryz.prog f p) (hrs:p.rs=[tI]) {x:Val (tyL p.ts)} {y:Int} (hF:p.F x=some (hrs▸(show Val (tyL [tI]) from y))) {vals:List Value} (ha:AL W noG p.ts x vals) :
 CallsIn Fence.wide 0 Tryz.prog f vals.toArray W fun e W''=>e=.returned (.int .i64 y)∧W.grownBy W'' none:=by
 obtain⟨ts,rs,F⟩:=p;dsimp only at hrs hF ha x;subst hrs;refine(hp noG x y hF W vals (fun _ h=>h.elim) ha).2.mono fun e w' ⟨u,h0,h1,h2,h3,h4,h5,h6⟩=>⟨?_,agA h2 h3 h4 h5 h6⟩;rw[h0,ain h1]
def T8 {s:Val (.map tI Ù)} {a b y:Int} (hF:ŗ a b s=some y) {sb:Nat} {mv:Value} {e:TypeId} (h:W.heap[sb]?=some (.cells #[mv] e (0,0))) (hm:CR W noG (.map tI Ù) s [mv]) :
 CallsIn Fence.wide 0 Tryz.prog 100 #[.int .i64 a,.int .i64 b,.pointer (some ⟨sb,0,none⟩)] W fun e W''=>e=.returned (.int .i64 y)∧W.grownBy W'' none :=
 TL Y8 rfl (x:=(a,b,s)) (y:=y) hF (vals:=[.int .i64 a,.int .i64 b,.pointer (some ⟨sb,0,none⟩)]) ⟨_,_,rfl,Tp _ _,_,_,rfl,Tp _ _,_,rfl,aiz h hm⟩
def adE {mv:Value} {s:Val (.map tI Ù)} (hm:CR W noG (.map tI Ù) s [mv]):mT W noG (.map tI Ù) s mv:=⟨[mv],hm,rfl⟩
def aaQ {x:Val Ê} {cs:Array Value} (hb:CR W noG Ê x cs.toList):mT W noG Ê x (.agg cs):=⟨cs.toList,hb,by show Value.agg cs=Value.agg cs.toList.toArray; rw[Array.toArray_toList]⟩
def adQ {x:Val Ê} {s:Val (.map tI Ù)} {i y:Int} (hF:ir x s i=some y) {mv:Value} {cs:Array Value} (hb:CR W noG Ê x cs.toList) (hm:CR W noG (.map tI Ù) s [mv]) :
 CallsIn Fence.wide 0 Tryz.prog 104 #[.agg cs,mv,.int .i64 i] W fun e W''=>e=.returned (.int .i64 y)∧W.grownBy W'' none :=
 TL TR rfl (x:=(x,s,i)) (y:=y) hF (vals:=[.agg cs,mv,.int .i64 i]) ⟨_,_,rfl,aaQ hb,_,_,rfl,adE hm,_,rfl,Tp _ _⟩
def WG {x:Val Ê} {s:Val (.map tI Ù)} {i y:Int} (hF:Ĝ x s i=some y) {mv:Value} {cs:Array Value} (hb:CR W noG Ê x cs.toList) (hm:CR W noG (.map tI Ù) s [mv]) :
 CallsIn Fence.wide 0 Tryz.prog 105 #[.agg cs,mv,.int .i64 i] W fun e W''=>e=.returned (.int .i64 y)∧W.grownBy W'' none :=
 TL Kl rfl (x:=(x,s,i)) (y:=y) hF (vals:=[.agg cs,mv,.int .i64 i]) ⟨_,_,rfl,aaQ hb,_,_,rfl,adE hm,_,rfl,Tp _ _⟩
end
def rk {w:World} {av:Nat→Prop} {t:Ty} {xs:List (Val t)} {vs:List Value} (h:CR w av (.slice t) xs vs):∃base cap,vs=[.slice base xs.length cap]:=by
 obtain⟨base,cap,e,_⟩:=h;exact⟨base,cap,e⟩
def afW {x:Val Ê} {s:Val (.map tI Ù)} {l1 l2 l3 l4:List Int} (h1:LC (fun u=>ŗ u.1 u.2 s) (x.2.2.1:List (Int×Int))=some l1) (h2:LC (fun i=>ir x s i) (zj (x.2.2.2.1:List (Val iZ)).length)=some l2)
 (h3:LC (fun i=>Ĝ x s i) (zj (x.2.2.2.2.1:List (Val Þ)).length)=some l3) (h4:LC (fun u=>ŗ u.1 u.2 s) (x.2.2.2.2.2:List (Int×Int))=some l4)
 (hlen:(x.2.2.1:List (Val Ã)).length≤1000∧(x.2.2.2.1:List (Val iZ)).length≤1000∧(x.2.2.2.2.1:List (Val Þ)).length≤1000∧(x.2.2.2.2.2:List (Val Ã)).length≤1000)
 {w:World} {bb tb sb:Nat} {te te2 te3:TypeId} {cb:Array Value} {mv:Value} (hbb:w.heap[bb]?=some (.cells cb te (0,0))) (hbk:CR w noG Ê x cb.toList) (htb:w.heap[tb]?=some (.cells #[.func (.func 100) #[] #[.pointer (some ⟨sb,0,none⟩)]] te2 (0,0)))
 (hsb:w.heap[sb]?=some (.cells #[mv] te3 (0,0))) (hmv:CR w noG (.map tI Ù) s [mv]) :
 SeqStopsK Fence.wide 1 Tryz.prog 103 #[.pointer (some ⟨bb,0,none⟩),.pointer (some ⟨tb,0,none⟩),.pointer (some ⟨sb,0,none⟩)] (fun x:Int=>#[.int .i64 x]) (Below w.heap.size) (fun xs=>xs=l1++(l2++(l3++l4))) (fun pre=>pre <+: (l1++(l2++(l3++l4)))) (l1++(l2++(l3++l4))).length w:=by
 intro l J Jx W hbel hJ hJx hY h0;obtain⟨fl,r0,e0,hfl,hr0⟩:=id hbk;obtain⟨ga,r1,e1,hga,hr1⟩:=hr0;obtain⟨us,r2,e2,hus,hr2⟩:=hr1;obtain⟨lo,r3,e3,hlo,hr3⟩:=hr2;obtain⟨co,ko,e4,hco,hko⟩:=hr3;obtain⟨f1,f2,e5,hf1,hf2⟩:=hfl;have e6:f1=[.int .i64 x.1.1]:=hf1;have e7:f2=[.int .i64 x.1.2]:=hf2;obtain⟨gab,gac,e8⟩:=rk hga;obtain⟨lob,loc,e9⟩:=rk hlo;obtain⟨cob,coc,e10⟩:=rk hco;obtain⟨usb0,usc0,e11⟩:=rk hus;obtain⟨kob0,koc0,e12⟩:=rk hko;rw[e11] at hus;rw[e12] at hko;obtain⟨usb,usc,ub,uo,e13,hub,hU⟩:=K3 hus;obtain⟨kob,koc,kb,kof,e14,hkb,hK⟩:=K3 hko;rw[e13] at e11;rw[e14] at e12
 have hcb:cb=#[.int .i64 x.1.1,.int .i64 x.1.2,.slice gab (x.2.1:List (Val Ù)).length gac,.slice usb (x.2.2.1:List (Val Ã)).length usc,.slice lob (x.2.2.2.1:List (Val iZ)).length loc,.slice cob (x.2.2.2.2.1:List (Val Þ)).length coc,.slice kob (x.2.2.2.2.2:List (Val Ã)).length koc]:=by
  rw[←dN,e0,e1,e2,e3,e4,e5,e6,e7,e8,e9,e10,e11,e12];rfl
 obtain⟨g1,q1⟩:=E5 h1;obtain⟨g2,q2⟩:=E5 h2;obtain⟨g3,q3⟩:=E5 h3;obtain⟨g4,q4⟩:=E5 h4
 have gl2:l2.length=(x.2.2.2.1:List (Val iZ)).length:=by rw[g2]; simp[zj]
 have gl3:l3.length=(x.2.2.2.2.1:List (Val Þ)).length:=by rw[g3]; simp[zj]
 have up1:upE (fun j=>l1[j]?.getD 0) (x.2.2.1:List (Val Ã)).length=l1:=by rw[←g1]; exact Ko l1
 have up2:upE (fun j=>l2[j]?.getD 0) (x.2.2.2.1:List (Val iZ)).length=l2:=by rw[←gl2]; exact Ko l2
 have up3:upE (fun j=>l3[j]?.getD 0) (x.2.2.2.2.1:List (Val Þ)).length=l3:=by rw[←gl3]; exact Ko l3
 have up4:upE (fun j=>l4[j]?.getD 0) (x.2.2.2.2.2:List (Val Ã)).length=l4:=by rw[←g4]; exact Ko l4
 have at1:∀{xs:List (Int×Int)} {ls:List Int},(∀(i:Nat) (a:Int×Int),xs[i]?=some a→∃b,ls[i]?=some b∧ŗ a.1 a.2 s=some b)→∀j,j<xs.length→ŗ (xs[j]?.getD (0,0)).1 (xs[j]?.getD (0,0)).2 s=some (ls[j]?.getD 0):=by
  intro xs ls hq j hj;obtain⟨b,hb,hf⟩:=hq j xs[j] (cF hj);rw[cF hj,hb];exact hf
 have at2:∀{n:Nat} {ls:List Int} {f:Int→Option Int},(∀(i:Nat) (a:Int),(zj n)[i]?=some a→∃b,ls[i]?=some b∧f a=some b)→∀j,j<n→f (j:Int)=some (ls[j]?.getD 0):=by
  intro n ls f hq j hj;obtain⟨b,hb,hf⟩:=hq j j (by simp[zj,hj]);rw[hb]; exact hf
 have hbel':∀{W':World},Below w.heap.size W W'→Below w.heap.size w W':=fun h=>hbel.trans h;have hcell:∀{W':World} {p:Addr} {v:Value},Below w.heap.size w W'→w.cell? p=some v→p.block<w.heap.size→W'.cell? p=some v:=fun {W'} {p} {v} h hc hp=>(h.cell (p:=p) hp).trans hc;have lb:=Ĕ hbb;have lt:=Ĕ htb;have ls:=Ĕ hsb
 have:=af6 te 1 (by omega) l w.heap.size bb tb sb (.int .i64 x.1.1) (.int .i64 x.1.2) (.slice gab (x.2.1:List (Val Ù)).length gac) mv lb lt ls
  ub uo (x.2.2.1:List (Val Ã)).length usc kb kof (x.2.2.2.2.2:List (Val Ã)).length koc usb kob lob cob (x.2.2.2.1:List (Val iZ)).length loc (x.2.2.2.2.1:List (Val Þ)).length coc hub hkb
  (fun j=>(x.2.2.1:List (Int×Int))[j]?.getD (0,0)) (fun j=>(x.2.2.2.2.2:List (Int×Int))[j]?.getD (0,0)) (fun j=>l1[j]?.getD 0) (fun j=>l2[j]?.getD 0) (fun j=>l3[j]?.getD 0) (fun j=>l4[j]?.getD 0)
  hlen.1 hlen.2.1 hlen.2.2.1 hlen.2.2.2 W ((hbel.block bb lb).trans (by rw[hbb,hcb])) (hcell hbel (by simp[World.cell?,htb]) lt) (hcell hbel (by simp[World.cell?,hsb]) ls)
  (fun j hj=>⟨hcell hbel (hU j hj).1 (hub (by omega)).2,hcell hbel (hU j hj).2 (hub (by omega)).2⟩) (fun j hj=>⟨hcell hbel (hK j hj).1 (hkb (by omega)).2,hcell hbel (hK j hj).2 (hkb (by omega)).2⟩)
  (fun j hj W' hW=>T8 (at1 q1 j hj) (((hbel' hW).block sb ls).trans hsb) (CR.below (hbel' hW) (cG _) hmv))
  (fun j hj W' hW=>T8 (at1 q4 j hj) (((hbel' hW).block sb ls).trans hsb) (CR.below (hbel' hW) (cG _) hmv))
  (fun j hj W' hW=>adQ (at2 q2 j hj) (by have:=CR.below (hbel' hW) (cG _) hbk; rwa [hcb] at this) (CR.below (hbel' hW) (cG _) hmv))
  (fun j hj W' hW=>WG (at2 q3 j hj) (by have:=CR.below (hbel' hW) (cG _) hbk; rwa [hcb] at this) (CR.below (hbel' hW) (cG _) hmv))
  J Jx (fun pre W1 W2 hj hg=>hJ pre W1 W2 none hj hg (fun r e=>by cases e)) (fun pre W1 W2 hj hg=>hJx pre W1 W2 none hj hg (fun r e=>by cases e))
  (fun pre y W1 hj hl=>hY pre y W1 hj (by simp only[cJ]; omega)) h0 hbel.size
 rw[up1,up2,up3,up4] at this;exact this
end Go.Proofs.ZzM
end

noncomputable section
set_option maxRecDepth 100000
namespace Go.Proofs.ZzM
open Go Go.Am Go.RowKit
section
variable [Ghost] {ρ:Type} {ν:Nat→Value} {w:World}
def peel (hq:Ghost.Q=none) {E:Env ρ} {call:List Nat→Bool→Nat→List AV→List Blk→(AV→List Blk→Option ρ)→Option ρ} {L:Nat} (hE:oa E L call) (hD:wU E L call) (hj:E.joins=fun _ _ _ _=>none) {fid:Nat} {path:List Nat} (hp:path.length+2=L) {x y c:Code} {bid n:Nat} {S:St} {K:Exit→St→Option ρ} {r:ρ} {a:Act} {Q:Exit→Act→World→Prop}
 (hL:∀z∈ß bid x,uD E path fid z.1 z.2) (e:goC E call fid path 0 bid (.seq x y) S K=some r) (H:Sim ν S a w)
 (hn:∀ν' S' a' w',Sim ν' S' a' w'→Ev 0 ν S.h w ν' S'.h w'→goC E call fid path 0 bid y S' K=some r→c.wpIn Fence.wide n E.P Q a' w')
 (hx:∀ν' S' a' w' e,e≠.normal→Sim ν' S' a' w'→Ev 0 ν S.h w ν' S'.h w'→K e S'=some r→Q e a' w'):(Code.seq x c).wpIn Fence.wide n E.P Q a w:=by
 simp only[goC,hj] at e;have hgo:=wK hE hD hp x bid S _ ν a w hL e H (dR _);rw[aaz hq] at hgo;refine wpIn_seq (wpIn_wide.2 (wpIn_wide.1 (wpIn_mono hgo fun e' a' w' ha=>?_)));obtain⟨ν',S',h1,h2,h3,h4,h5⟩:=ha
 cases e' with
 |normal=>exact hn ν' S' a' w' h1 h2 h5
 |exit id=>exact hx ν' S' a' w' _ (by simp) h1 h2 h5
 |goto l=>exact hx ν' S' a' w' _ (by simp) h1 h2 h5
 |ret=>exact hx ν' S' a' w' _ (by simp) h1 h2 h5
 |panic ch=>exact hx ν' S' a' w' _ (by simp) h1 h2 h5
 |outgrown=>exact hx ν' S' a' w' _ (by simp) h1 h2 h5
end
def ac4 {T:Array Value} {rb:Nat} {n:Int} {e:TypeId} {W:World} (h2:T.getD 2 undef=.pointer (some ⟨rb,0,none⟩)) (hc:W.heap[rb]?=some (.cells #[.int .i64 n] e (0,0))):(results Tryz.f22 T).run Tryz.prog W=.ok (.int .i64 n) W:=by
 letI:Ghost:=(Gk (fun _=>False) [] (none))
 have hl:(loadVar 38 ⟨rb,0,none⟩).run Tryz.prog W=.ok (.int .i64 n) W:=by
  have:=run_loadVar (P:=Tryz.prog) (w:=W) (t:=38) (agg:=false) (n:=1) (by kernel_rfl) (us:=[.int .i64 n]) rfl (fun _=>rfl) (a:=⟨rb,0,none⟩) (fun j v hj=>by
   have:=CellsAt.of_cells hc j v (by simpa using hj)
   cases j with
   |zero=>simpa[Addr.add] using this
   |succ j=>simp at hj)
  exact this
 have hr:Tryz.f22.results=#[.cell 2 38]:=by kernel_rfl
 unfold results;rw[hr,Array.mapM_eq_mapM_toList];simp only[Sem.run_bind,Sem.run_map,List.mapM_cons,List.mapM_nil,h2,asAddr,Sem.run_pure,Result.andThen_ok,hl];rfl
@[reducible] def gck (G:Nat→Prop) (M:Nat):Ghost:=(Gh G).re G [] none M
def ai4 [Ghost] {ν:Nat→Value} {h:List Blk} {w:World} {x:Val Ê} {us:List Value} (hv:Ă (VRc ν h w) (flat Ê x) us):CR w noG Ê x us:=by
 have h1:Û Ê (flat Ê x)=some x:=rfl;have h2:Ă (VRs w (Av ν h)) (flat Ê x) us:=hv.mono fun c u hu=>hu.1.data;exact CR.mono (fun _ hf=>hf.elim) (ģ h1 h2)
def Dk (G:Nat→Prop) (y:Int) (w:World) (e:Ending) (w':World):Prop :=
 ∃u,e=.returned u∧RR w' G [tI] y u∧(∀b,b<w.heap.size→w'.heap[b]?=w.heap[b]?)∧w.heap.size≤w'.heap.size∧w'.os=w.os∧w'.tape=w.tape∧w'.output=w.output
def aaD {G:Nat→Prop} {y:Int} {w0 w:World} {a:Act} {ms:List Nat} {rb:Nat} {e:TypeId} (hd:a.defers=ms.map mk1) (hn:ms.Nodup) (hD:∀k∈ms,w.heap[k]?=some (.deferred (some []))∧w0.heap.size≤k) (h2:a.tmps.getD 2 undef=.pointer (some ⟨rb,0,none⟩)) (hc:w.heap[rb]?=some (.cells #[.int .i64 y] e (0,0)))
 (hb:∀b,b<w0.heap.size→w.heap[b]?=w0.heap[b]?) (hsz:w0.heap.size≤w.heap.size) (h3:w.os=w0.os) (h4:w.tape=w0.tape) (h5:w.output=w0.output):LeavesInM Fence.wide 2 Tryz.prog Tryz.f22 a.tmps (Dk G y w0) a.defers .returning w:=by
 rw[hd]
 have hne:rb∉ms:=fun h=>by rw[(hD rb h).1] at hc; cases hc
 refine uj ms w hn (fun k hk=>(hD k hk).1) fun w2 q1 q2 q3 q4 q5=>?_;exact⟨.int .i64 y,ac4 h2 ((q5 rb hne).trans hc),.int .i64 y,rfl,⟨[.int .i64 y],rfl,rfl⟩,fun b hlt=>(q5 b fun hm=>by have:=(hD b hm).2; omega).trans (hb b hlt),by rw[q1]; exact hsz,q2.trans h3,q3.trans h4,q4.trans h5⟩
def ai1 (S:St):ckK .ret S=(aeW S).map .inl:=by
 unfold ckK
 cases aeW S<;>rfl
def ab5 (S:St):ckK .normal S=if decide (78≤S.t.length)=true then some (.inr ([lk S.t 1,lk S.t 2,lk S.t 48],S.h)) else none:=by
 unfold ckK
 cases decide (78≤S.t.length)<;>rfl
def mD [Ghost] {ρ:Type} {E:Env ρ} (h0:E.loops=kr []) (h1:E.ranges=fun _ _ _ _ _ _ _=>none) {path:List Nat} {fid bid:Nat} {b:LI}:uD E path fid bid b:=by
 cases b with
 |lp b=>exact fun m S K r ν a w e=>by rw[h0] at e; cases e
 |rf g ps x y=>exact fun m S K r ν a w e=>by rw[h1] at e; cases e
def ahQ {ρ:Type} (E:Env ρ) (hP:E.P.follows .mixedOrders=true) (hlib:∀[Ghost],lV E→G9 E) (h0:E.loops=kr []) (h1:E.ranges=fun _ _ _ _ _ _ _=>none) (hy:E.yld=none) [Ghost]:oa E 2 (Κ E 10) :=
 su hlib (fun L call hE=>oR hP L call hE) (fun n hn hE _ _ path f fn c _ _ _ z _=>mD h0 h1) 10 (cG _) (iC hy)
def ais:Code→String
 | .region _ ops _ => ((ops[0]?).map fun o => o.pos).getD ""
 | _ => ""
def rfA:Code→Code
 |.block _ (.rangeFunc _ _ a _)=>a
 |_=>.skip
def rfB:Code→Code
 |.block _ (.rangeFunc _ _ _ (.block _ (.seq a _)))=>a
 |_=>.skip
def rfC:Code→Code
 |.block _ (.rangeFunc _ _ _ (.block _ (.seq _ (.cond _ (.seq a _) _))))=>a
 |_=>.skip
def aiZ:ckRF=Code.block 0 (Code.rangeFunc (.tmp 48) #[49] (ZI (ais (rfA ckRF))) (ahr (ais (rfB ckRF)) (ais (rfC ckRF)))):=by kernel_rfl
def ahP:∀e∈ck_pt,ki Tryz.prog e.1 e.2:=Á N0 (Á yx (Á BU (Á N1 Å)))
def aeX {e:Exit} {S:St} {n:Int} (h:ckK2 e S=some n):e=.ret∧lk S.t 2=.box 1 0∧lkB S.h 1=.cells [.int .i64 n]:=by
 unfold ckK2 at h
 split at h
 ·split at h
  ·rename_i h2
   split at h
   ·rename_i h3;cases h;exact⟨rfl,h2,h3⟩
   ·cases h
  ·cases h
 ·cases h
def Wn [Ghost] {ν:Nat→Value} {h:List Blk} {w:World} {n:Int} {id:Nat} (H:HR ν h w) (hl:lkB h id=.cells [.int .i64 n]):∃b e,ν id=.pointer (some ⟨b,0,none⟩)∧w.heap[b]?=some (.cells #[.int .i64 n] e (0,0)):=by
 have hB:=H.blk id;rw[hl] at hB;obtain⟨b,c,e,h1,h2,h3⟩:=hB;obtain⟨u,h4,h5⟩:=h3.one;have h6:u=.int .i64 n:=h5.1;refine⟨b,e,h1,?_⟩;rw[h2]
 have:c=#[.int .i64 n]:=by rw[←dN,h4,h6]
 rw[this]
def IQ [Ghost] {ν:Nat→Value} {h:List Blk} {w:World} {id off:Nat} {v:Value} {b:Nat} (hv:VR ν h w (.box id off) v) (hb:ν id=.pointer (some ⟨b,0,none⟩)):v=.pointer (some ⟨b,off,none⟩):=by
 obtain⟨cs,b',h1,h2,h3⟩:=hv;rw[hb] at h2;cases h2;exact h3
def aiY {G:Nat→Prop} {x:Val Ê} {s:Val (.map tI Ù)} {y:Int} (hS:ckS x=some y) {ν:Nat→Value} {w0 w6 W:World} {a:Act} (H:@HR (gck G w0.heap.size) ν (ckH x s 0) w6) (hb:Below w6.heap.size w6 W) {ms:List Nat} (hd:a.defers=ms.map mk1) (hn:ms.Nodup) (hms:∀k∈ms,W.heap[k]?=some (.deferred (some []))∧w0.heap.size≤k) (hlen:78≤a.tmps.size)
 (t1:@VR (gck G w0.heap.size) ν (ckH x s 0) w6 (.box 0 0) (a.tmps.getD 1 undef)) (t2:@VR (gck G w0.heap.size) ν (ckH x s 0) w6 (.box 1 0) (a.tmps.getD 2 undef))
 (h0:∀b,b<w0.heap.size→w6.heap[b]?=w0.heap[b]?∧¬Eu ν (ckH x s 0) b) (hsz:w0.heap.size≤w6.heap.size) (h3:w6.os=w0.os) (h4:w6.tape=w0.tape) (h5:w6.output=w0.output) :
 QQ.wpIn Fence.wide 2 Tryz.prog (bodyPostM Fence.wide 2 Tryz.prog Tryz.f22 (Dk G y w0)) a W:=by
 have hlive:∀b,Eu ν (ckH x s 0) b→b<w6.heap.size:=fun b hl=>@HR.ltA (gck G w0.heap.size) _ _ _ H b (.inl hl)
 have t1':∃b,ν 0=.pointer (some ⟨b,0,none⟩)∧a.tmps.getD 1 undef=.pointer (some ⟨b,0,none⟩):=by
  obtain⟨cs,b,_,h2,h3⟩:=t1;exact⟨b,h2,h3⟩
 have t2':∃b,ν 1=.pointer (some ⟨b,0,none⟩)∧a.tmps.getD 2 undef=.pointer (some ⟨b,0,none⟩):=by
  obtain⟨cs,b,_,h2,h3⟩:=t2;exact⟨b,h2,h3⟩
 letI:Ghost:=gck G w0.heap.size
 have H1:HR ν (ckH x s 0) w6:=H;have H2:HR ν (ckH x s 0) W:=(H1.grow (fun b hlt=>hb.block b hlt) hb.size hb.os hb.tape hb.output 0).2;have hdraw:∀L call,oa (agW Int) L call→wU (agW Int) L call:=oR hmix;have hl0:(agW Int).loops=kr []:=rfl;have hEnv:oa (agW Int) 2 (Κ (agW Int) 10):=ahQ (agW Int) hmix (fun {_} _=>AJ ahP (agW Int) rfl rfl rfl rfl rfl (ś rfl) (kF rfl) (iC rfl)) rfl rfl rfl;have law:=ck_suf x s;rw[hS] at law
 have sim:Sim ν {t:=[.any,.box 0 0,.box 1 0]++List.replicate 75 .any,h:=ckH x s 0} a W:=by
  refine⟨⟨⟨ms,hd.trans (dh _).symm,hn,hms⟩,fun l hl=>(by cases hl),dR _,cY hsz hb.size⟩,by simpa using hlen,fun i=>?_,H2⟩;simp only[Qu];rcases i with _|_|_|i
  ·trivial
  ·obtain⟨b,g1,g2⟩:=t1';exact⟨_,b,rfl,g1,g2⟩
  ·obtain⟨b,g1,g2⟩:=t2';exact⟨_,b,rfl,g1,g2⟩
  ·trivial
 refine wpIn_wide.2 (wpIn_wide.1 (wpIn_mono (wK hEnv (hdraw _ _ hEnv) rfl QQ 0 _ _ ν a W (fun z _=>mD hl0 rfl) law sim (dR _)) fun e a' w' ha=>?_));obtain⟨ν',S',g1,g2,_,_,g5⟩:=ha;obtain⟨rfl,k2,k3⟩:=aeX g5;obtain⟨rb,te,r1,r2⟩:=Wn g1.heap k3;have r3:=g1.tmps 2;rw[k2] at r3;have r4:=IQ r3 r1;obtain⟨⟨ms2,m1,m2,m3⟩,_⟩:=g1.defers;refine aaD (w:=w') (a:=a') (G:=G) (y:=y) (w0:=w0) (rb:=rb) (m1.trans (dh _)) m2 m3 r4 r2 (fun b hlt=>?_) (by have:=g2.size; have:=hb.size; omega) (g2.os.trans (hb.os.trans h3)) (g2.tape.trans (hb.tape.trans h4)) (g2.output.trans (hb.output.trans h5));have h01:=h0 b hlt
 have hlt6:b<w6.heap.size:=by omega
 have hltW:b<W.heap.size:=by have:=hb.size; omega
 exact(g2.keep b hltW h01.2).1.trans ((hb.block b hlt6).trans h01.1)
set_option maxHeartbeats 2000000 in
def ab6 (G:Nat→Prop) (x:Val Ê) (y:Int) (hF':Ř x=some y) (w:World) (vals:List Value) (hG:∀b,G b→b<w.heap.size) (hAL:AL w G [Ê] x vals) :
 (∃fn c,Tryz.prog.funcs[22]?=some fn∧fn.body=some c)∧CallsIn Fence.wide 0 Tryz.prog 22 vals.toArray w (Dk G y w):=by
 rw[agV] at hF'
 letI:Ghost:=gck G w.heap.size
 have hpt:=ahP;have hdraw:∀L call,oa (ckE ckR) L call→wU (ckE ckR) L call:=oR hmix;have h0:(ckE ckR).loops=kr []:=rfl;have hEnv:oa (ckE ckR) 2 (Κ (ckE ckR) 10):=ahQ (ckE ckR) hmix (fun {_} _=>AJ hpt (ckE ckR) rfl rfl rfl rfl rfl (ś rfl) (kF rfl) (iC rfl)) rfl rfl rfl;have hD:=hdraw _ _ hEnv;have H:HR (fun _=>undef) [] w:=⟨fun _=>trivial,fun _ _ _ h=>(by cases h),hG,fun _ _ h=>(by cases h)⟩;have hav:∀b,Av (fun _=>undef) [] b→G b:=fun b hb=>hb.elim (fun⟨_,h,_⟩=>by cases h) id;have hargs:Ă (VR (fun _=>undef) [] w) (YU [Ê] x) vals:=AL.VR (hAL.mono hav);refine⟨⟨Tryz.f22,_,Tryz.func22,ahR⟩,?_⟩
 have hlen:vals.length=1:=by
  have:=hargs.length;simpa[YU,aey] using this.symm
 cases hM:ckM x with
 |none=>rw[hM] at hF'; cases hF'
 |some r0 =>
 rw[hM] at hF';have law:=ck_pre x;rw[hM] at law;refine callsIn_wide.2 (callsIn_wide.1 (callsIn_of_wp_marks (n:=2) Tryz.func22 ahR trivial ?_ (R:=Dk G y w)))
 have hS:Sim (fun _=>undef) {t:=YU [Ê] x++List.replicate 77 .any,h:=[]} {tmps:=vals.toArray++Array.replicate (Tryz.f22.ntmps-vals.toArray.size) undef,defers:=[]} w:=by
  refine⟨⟨⟨[],rfl,gz,fun _ h=>(by cases h)⟩,fun l hl=>(by cases hl),dR _,cG _⟩,?_,fun i=>?_,H⟩
  ·have:Tryz.f22.ntmps=78:=by kernel_rfl
   have hl2:(YU [Ê] x).length=1:=rfl;simp[this,hlen,hl2]
  ·simp only[Qu];rcases df i (YU [Ê] x).length with hi|hi
   ·have:=Ă.lk (R:=VR (fun _=>undef) [] w) (fun _=>trivial) i hargs
    have hv:i<vals.length:=by rw[←hargs.length]; exact hi
    have h2:(vals.toArray++Array.replicate (Tryz.f22.ntmps-vals.toArray.size) undef).getD i undef=vals.getD i undef:=by
     simp[dT,fq,hv]
    rw[h2]; exact this
   ·rw[ago _ _ hi]; trivial
 -- the ways out ahead of the loop
 have out:∀ν' S' a' w' e,e≠.normal→Sim ν' S' a' w'→Ev 0 (fun _=>undef) [] w ν' S'.h w'→ckK e S'=some r0→bodyPostM Fence.wide 2 Tryz.prog Tryz.f22 (Dk G y w) e a' w':=by
  intro ν' S' a' w' e hne hS' hE' hk
  cases e with
  |normal=>exact(hne rfl).elim
  |ret =>
   rw[ai1] at hk
   cases hr:aeW S' with
   |none=>rw[hr] at hk; cases hk
   |some n =>
    rw[hr,dK] at hk;cases hk
    have hyn:n=y:=by simpa using hF'
    subst hyn;unfold aeW at hr
    split at hr
    ·rename_i v hv;show LeavesInM _ _ _ _ _ _ a'.defers _ _;obtain⟨⟨ms,m1,m2,m3⟩,_,m4,m5⟩:=hS'.defers;rw[show a'.defers=ms.map mk1 from m1.trans (dh _)];refine uj ms w' m2 (fun k hk=>(m3 k hk).1) fun w2 q1 q2 q3 q4 q5=>?_
     have hk2:∀(b:Nat) (o:Obj),w'.heap[b]?=some o→Oo o=true∨b<(gck G w.heap.size).B→w2.heap[b]?=some o:=fun b o hb hd=>by
      have hbm:b∉ms:=fun hm=>by
       rw[(m3 b hm).1] at hb; cases hb;rcases hd with hd|hd
       ·cases hd
       ·exact absurd hd (Nat.not_lt_zero _)
      rw[q5 b hbm]; exact hb
     have KG:nZ (gck G w.heap.size) ν' S'.h w' (gck G w.heap.size).G w2:=nZ.nds q2 q3 q4 (by omega) hk2
     have sim2:Sim ν' S' {a' with defers:=[]} w2:=⟨⟨⟨[],rfl,gz,fun _ h=>(by cases h)⟩,fun l hl=>(by cases hl),dR _,by rw[q1]; exact m5⟩,hS'.len,fun i=>VR.step (g:=gck G w.heap.size) (D:=[]) (Q:=none) (M:=w.heap.size) KG (hS'.tmps i),
      HR.step (g:=gck G w.heap.size) (D:=[]) (Q:=none) (M:=w.heap.size) KG (fun b hb=>by rw[q1]; exact hS'.heap.ghlt b hb) (fun b hb hg=>by obtain⟨id,h1,h2⟩:=hb; exact hS'.heap.ghne id b h1 h2 hg) hS'.heap⟩
     obtain⟨u,r1,r2⟩:=PT sim2 hv;exact⟨u,r1,u,rfl,ZJ sim2.heap [tI] r2 hr,fun b hb=>(q5 b fun hm=>by have m7:w.heap.size≤b:=(m3 b hm).2; omega).trans (hE'.keep b hb fun⟨_,h,_⟩=>by cases h).1,by rw[q1]; exact hE'.size,q2.trans hE'.os,q3.trans hE'.tape,q4.trans hE'.output⟩
    ·cases hr
  |exit id=>cases hk
  |goto l=>cases hk
  |panic ch=>cases hk
  |outgrown=>cases hk
 have outT:∀{ν₁:Nat→Value} {h₁:List Blk} {w₁:World},Ev 0 (fun _=>undef) [] w ν₁ h₁ w₁→∀ν' S' a' w' e,e≠.normal→Sim ν' S' a' w'→Ev 0 ν₁ h₁ w₁ ν' S'.h w'→ckK e S'=some r0→bodyPostM Fence.wide 2 Tryz.prog Tryz.f22 (Dk G y w) e a' w' :=
  fun hE ν' S' a' w' e hne hS' hE' hk=>out ν' S' a' w' e hne hS' (hE.trans hE' (cG _)) hk
 refine peel rfl hEnv hD rfl rfl (fun z _=>mD h0 rfl) law hS (fun ν1 S1 a1 w1 s1 e1 k1=>?_) out;refine peel rfl hEnv hD rfl rfl (fun z _=>mD h0 rfl) k1 s1 (fun ν2 S2 a2 w2 s2 e2 k2=>?_) (outT e1);have t2:=e1.trans e2 (cG _);refine peel rfl hEnv hD rfl rfl (fun z _=>mD h0 rfl) k2 s2 (fun ν3 S3 a3 w3 s3 e3 k3=>?_) (outT t2);have t3:=t2.trans e3 (cG _);refine peel rfl hEnv hD rfl rfl (fun z _=>mD h0 rfl) k3 s3 (fun ν4 S4 a4 w4 s4 e4 k4=>?_) (outT t3);have t4:=t3.trans e4 (cG _);refine peel rfl hEnv hD rfl rfl (fun z _=>mD h0 rfl) k4 s4 (fun ν5 S5 a5 w5 s5 e5 k5=>?_) (outT t4);have t5:=t4.trans e5 (cG _);refine wpIn_seq (wpIn_seq (wpIn_wide.2 (wpIn_wide.1 (wpIn_mono (wK hEnv hD rfl ckA5 0 S5 _ ν5 a5 w5 (fun z _=>mD h0 rfl) k5 s5 (dR _)) fun e' a6 w6 ha=>?_))));obtain⟨ν,S,s6,e6,_,_,k6⟩:=ha;have t6:=t5.trans e6 (cG _)
 have other:∀e,e≠.normal→ckK e S=some r0→Exit.then (Code.wpIn Fence.wide 2 Tryz.prog QQ (bodyPostM Fence.wide 2 Tryz.prog Tryz.f22 (Dk G y w))) (bodyPostM Fence.wide 2 Tryz.prog Tryz.f22 (Dk G y w)) e a6 w6:=by
  intro e hne hk;have:=out ν S a6 w6 e hne s6 t6 hk
  cases e<;>first|exact(hne rfl).elim|exact this
 cases e' with
 |exit id=>exact other _ (by simp) k6
 |goto l=>exact other _ (by simp) k6
 |ret=>exact other _ (by simp) k6
 |panic ch=>exact other _ (by simp) k6
 |outgrown=>exact other _ (by simp) k6
 |normal =>
 clear other;rw[ab5] at k6
 split at k6<;>try (cases k6; done)
 rename_i h78
 have h78':78≤S.t.length:=by simpa using h78
 cases k6;obtain⟨hlens,s,hs,hq⟩:=ai0 hM;simp only[Prod.mk.injEq,List.cons.injEq,and_true] at hq;obtain⟨⟨q1,q2,q48⟩,qh⟩:=hq
 have hF2:PW (lP x s) some (ckS x)=some y:=by
  simp only at hF';rw[hs] at hF';exact hF'
 -- what the errors are
 obtain⟨L,hL,hLy⟩:∃L,lP x s=some L∧(match L.find? (fun e=>e != 0) with|some e=>some e|none=>ckS x)=some y:=by
  unfold PW at hF2
  cases hl:lP x s with
  |none=>rw[hl] at hF2; cases hF2
  |some L=>rw[hl] at hF2; exact⟨L,rfl,hF2⟩
 obtain⟨l1,l2,l3,l4,m1,m2,m3,m4,rfl⟩:∃l1 l2 l3 l4,LC (fun u=>ŗ u.1 u.2 s) (x.2.2.1:List (Int×Int))=some l1∧LC (fun i=>ir x s i) (zj (x.2.2.2.1:List (Val iZ)).length)=some l2 ∧
  LC (fun i=>Ĝ x s i) (zj (x.2.2.2.2.1:List (Val Þ)).length)=some l3∧LC (fun u=>ŗ u.1 u.2 s) (x.2.2.2.2.2:List (Int×Int))=some l4∧L=l1++(l2++(l3++l4)):=by
  unfold lP at hL
  cases m1:LC (fun u=>ŗ u.1 u.2 s) (x.2.2.1:List (Int×Int)) with
  |none=>rw[m1] at hL; cases hL
  |some l1 =>
  rw[m1] at hL
  cases m2:LC (fun i=>ir x s i) (zj (x.2.2.2.1:List (Val iZ)).length) with
  |none=>simp only[Ä,m2] at hL; cases hL
  |some l2 =>
  cases m3:LC (fun i=>Ĝ x s i) (zj (x.2.2.2.2.1:List (Val Þ)).length) with
  |none=>simp only[Ä,m2,m3] at hL; cases hL
  |some l3 =>
  cases m4:LC (fun u=>ŗ u.1 u.2 s) (x.2.2.2.2.2:List (Int×Int)) with
  |none=>simp only[Ä,m2,m3,m4] at hL; cases hL
  |some l4 =>
  simp only[Ä,m2,m3,m4] at hL;cases hL;exact⟨l1,l2,l3,l4,rfl,rfl,rfl,rfl,rfl⟩
 -- the blocks
 obtain⟨T,Hh⟩:=S;dsimp only at q1 q2 q48 qh h78';subst qh;have p1:=s6.tmps 1;have p2:=s6.tmps 2;have p48:=s6.tmps 48;dsimp only at p1 p2 p48;rw[q1] at p1;rw[q2] at p2;rw[q48] at p48;obtain⟨rb,te1,n1,hrb⟩:=Wn (id:=1) (n:=0) s6.heap rfl;have hB2:BR ν (ckH x s 0) w6 2 (.cells (flat Ê x)):=s6.heap.blk 2;have hB3:BR ν (ckH x s 0) w6 3 (.cells [.mp tI Ù s]):=s6.heap.blk 3;have hB4:BR ν (ckH x s 0) w6 4 (.cells [.fn (.func 100) [] [.box 3 0]]):=s6.heap.blk 4;obtain⟨bb,cb,te,n2,hbb,hb2⟩:=hB2;obtain⟨sb,cs3,te3,n3,hsb,hb3⟩:=hB3;obtain⟨tb,cs4,te2,n4,htb,hb4⟩:=hB4;obtain⟨mv,z3,hm3⟩:=hb3.one;obtain⟨fv,z4,hm4⟩:=hb4.one;have hmv:CR w6 noG (.map tI Ù) s [mv]:=CR.mono (fun _ hf=>hf.elim) (show CR w6 (Av ν (ckH x s 0)) (.map tI Ù) s [mv] from hm3.1)
 have hc3:cs3=#[mv]:=by rw[←dN,z3]
 have hfv:fv=.func (.func 100) #[] #[.pointer (some ⟨sb,0,none⟩)]:=by
  obtain⟨fs,cs,h1,h2,h3⟩:=hm4.1
  have e1:fs=#[]:=by rw[←dN]; exact h2.nil_left
  obtain⟨u,e2,h4⟩:=h3.one;have e3:u=.pointer (some ⟨sb,0,none⟩):=IQ (w:=w6) (id:=3) (off:=0) h4 n3
  have e4:cs=#[.pointer (some ⟨sb,0,none⟩)]:=by rw[←dN,e2,e3]
  rw[h1,e1,e4]
 have hc4:cs4=#[fv]:=by rw[←dN,z4]
 rw[hc3] at hsb;rw[hc4,hfv] at htb
 have hg:a6.tmps.getD 48 undef=.func (.func 103) #[] #[.pointer (some ⟨bb,0,none⟩),.pointer (some ⟨tb,0,none⟩),.pointer (some ⟨sb,0,none⟩)]:=by
  obtain⟨fs,cs,h1,h2,h3⟩:=p48
  have e1:fs=#[]:=by rw[←dN]; exact h2.nil_left
  have hl:=h3.length
  obtain⟨u1,u2,u3,e2⟩:∃u1 u2 u3,cs.toList=[u1,u2,u3]:=by
   rcases hcs:cs.toList with _|⟨u1,_|⟨u2,_|⟨u3,_|⟨u4,t⟩⟩⟩⟩<;>rw[hcs] at hl<;>simp at hl
   exact⟨u1,u2,u3,rfl⟩
  rw[e2] at h3;have e3:u1=.pointer (some ⟨bb,0,none⟩):=IQ (w:=w6) (id:=2) (off:=0) h3.1 n2;have e4:u2=.pointer (some ⟨tb,0,none⟩):=IQ (w:=w6) (id:=4) (off:=0) h3.2.1 n4;have e5:u3=.pointer (some ⟨sb,0,none⟩):=IQ (w:=w6) (id:=3) (off:=0) h3.2.2.1 n3;rw[h1,e1];congr 1;rw[←dN,e2,e3,e4,e5]
 have hseq:=afW m1 m2 m3 m4 hlens hbb (ai4 hb2) htb hsb hmv;have h2:=IQ p2 n1;have hsz:78≤a6.tmps.size:=cY h78' s6.len
 have hkeep:∀b,b<w.heap.size→w6.heap[b]?=w.heap[b]?∧¬Eu ν (ckH x s 0) b:=fun b hb=>t6.keep b hb fun⟨_,h,_⟩=>by cases h
 obtain⟨⟨ms,m1',m2',m3'⟩,_⟩:=s6.defers;have hdef:a6.defers=ms.map mk1:=m1'.trans (dh _);show ckRF.wpIn Fence.wide 2 Tryz.prog (Exit.then (QQ.wpIn Fence.wide 2 Tryz.prog (bodyPostM Fence.wide 2 Tryz.prog Tryz.f22 (Dk G y w))) (bodyPostM Fence.wide 2 Tryz.prog Tryz.f22 (Dk G y w))) a6 w6;rw[aiZ];refine wpIn_block (aim hseq hg h2 hsz hrb (fun D W hall hbel hDl hDo=>?_) (fun D W z hz hput hDl hDo=>?_))
 ·have hck:ckS x=some y:=by
   have:(l1++(l2++(l3++l4))).find? (fun e=>e != 0)=none:=dU.2 fun z hz=>by rw[hall z hz]; simp
   rw[this] at hLy;exact hLy
  have hDn:D∉ms:=fun hm=>by have:=Ĕ (m3' D hm).1; omega
  exact aiY (s:=s) (ms:=D::ms) hck s6.heap hbel (by show mark D::a6.defers=_; rw[hdef]; rfl) (eT.2 ⟨hDn,m2'⟩) (fun k hk=>by
   rcases cN.1 hk with rfl|hk
   ·exact⟨hDo,cY t6.size hDl⟩
   ·exact⟨(hbel.block k (Ĕ (m3' k hk).1)).trans (m3' k hk).1,(m3' k hk).2⟩) hsz p1 p2 hkeep t6.size t6.os t6.tape t6.output
 ·have hzy:z=y:=by
   rw[hz] at hLy;simpa using hLy
  subst hzy;obtain⟨te5,hcell⟩:=hput.cell;have hlb:=Ĕ hrb;have hlive:Eu ν (ckH x s 0) rb:=⟨1,rfl,by rw[n1]; rfl⟩
  have hDn:D∉ms:=fun hm=>by have:=Ĕ (m3' D hm).1; omega
  exact aaD (a:={a6 with defers:=mark D::a6.defers}) (w:=W) (ms:=D::ms) (by show mark D::a6.defers=_; rw[hdef]; rfl) (eT.2 ⟨hDn,m2'⟩) (fun k hk=>by
   rcases cN.1 hk with rfl|hk
   ·exact⟨hDo,cY t6.size hDl⟩
   ·exact⟨(hput.block k (Ĕ (m3' k hk).1) (fun e=>by have h9:=(m3' k hk).1; rw[e,hrb] at h9; cases h9)).trans (m3' k hk).1,(m3' k hk).2⟩) h2 hcell
   (fun b hb=>(hput.block b (by have:=t6.size; omega) (fun e=>(hkeep b hb).2 (e▸hlive))).trans (hkeep b hb).1) (by have:=t6.size; have:=hput.size; omega) (hput.os.trans t6.os) (hput.tape.trans t6.tape) (hput.output.trans t6.output)
def sv:ki Tryz.prog 22 pd:=fun G x y hF w vals hG hAL=>ab6 G x y hF w vals hG hAL
end Go.Proofs.ZzM
end

noncomputable section
namespace Go.Proofs
open Go.RowKit
attribute [local go_sem] Oper.semAt_some
def aaY (w:World) (o o':Obj):((w.alloc o).alloc o').heap[w.heap.size+1]?=some o':=by
 simp only[World.alloc];rw[show w.heap.size+1=(w.heap.push o).size from(Array.size_push _).symm];exact Array.getElem?_push_size
def afs (w:World) (o o':Obj):((w.alloc o).alloc o').heap[w.heap.size]?=some o:=by
 simp only[World.alloc];rw[Array.getElem?_push_lt (by rw[Array.size_push]; omega),Array.getElem_push_eq]
def WZ (w:World) (o o':Obj) (b:Nat) (hb:b<w.heap.size):((w.alloc o).alloc o').heap[b]?=w.heap[b]?:=by
 simp only[World.alloc];rw[Array.getElem?_push_lt (by simp; omega),Array.getElem_push_lt hb,Array.getElem?_eq_getElem hb]
def ahS {W:World} {b:Nat} {x0 x1 x2 x3 x4:Value} {t:TypeId} (h:W.heap[b]?=some (.cells #[x0,x1,x2,x3,x4] t (0,0))) :
 W.cell? ⟨b,0,none⟩=some x0∧W.cell? ⟨b,1,none⟩=some x1∧W.cell? ⟨b,2,none⟩=some x2∧W.cell? ⟨b,3,none⟩=some x3∧W.cell? ⟨b,4,none⟩=some x4∧∀j,W.frozen? ⟨b,j,none⟩=false:=by
 refine⟨?_,?_,?_,?_,?_,fun j=>?_⟩<;>simp only[World.cell?,World.frozen?,h]<;>rfl
def set5 {W:World} {b:Nat} {c0 c1 c2 c3 c4:Value} {x0 x1 x2 x3 x4:Value} {t:TypeId} (h:W.heap[b]?=some (.cells #[x0,x1,x2,x3,x4] t (0,0))) :
 (((((W.setCell ⟨b,0,none⟩ c0).setCell ⟨b,1,none⟩ c1).setCell ⟨b,2,none⟩ c2).setCell ⟨b,3,none⟩ c3).setCell ⟨b,4,none⟩ c4)=W.setRow b #[c0,c1,c2,c3,c4]:=by
 rw[setCell_eq_setRow W b 0 _ t (0,0) c0 h,setCell_eq_setRow _ b 1 _ t (0,0) c1 (setRow_heap _ _ _ _ t _ h),setRow_setRow,setCell_eq_setRow _ b 2 _ t (0,0) c2 (setRow_heap _ _ _ _ t _ h),setRow_setRow,
  setCell_eq_setRow _ b 3 _ t (0,0) c3 (setRow_heap _ _ _ _ t _ h),setRow_setRow,setCell_eq_setRow _ b 4 _ t (0,0) c4 (setRow_heap _ _ _ _ t _ h),setRow_setRow]
 rfl
def abj {T:Array Value} {b:Nat} {c0 c1 c2 c3 c4:Int} {e:TypeId} {W:World} (h2:T.getD 2 undef=.pointer (some ⟨b,0,none⟩)) (hc:W.heap[b]?=some (.cells #[.int .i64 c0,.int .i64 c1,.int .i64 c2,.int .i64 c3,.int .i64 c4] e (0,0))):(results Tryz.f110 T).run Tryz.prog W=.ok (.agg #[.int .i64 c0,.int .i64 c1,.int .i64 c2,.int .i64 c3,.int .i64 c4]) W:=by
 letI:Go.Am.Ghost:=Go.Am.Gh fun _=>False
 have hl:(loadVar 188 ⟨b,0,none⟩).run Tryz.prog W=.ok (.agg #[.int .i64 c0,.int .i64 c1,.int .i64 c2,.int .i64 c3,.int .i64 c4]) W:=by
  have:=Go.Am.run_loadVar (P:=Tryz.prog) (w:=W) (t:=188) (agg:=true) (n:=5) (by kernel_rfl) (us:=[.int .i64 c0,.int .i64 c1,.int .i64 c2,.int .i64 c3,.int .i64 c4]) rfl (fun h=>by cases h) (a:=⟨b,0,none⟩) (fun j v hj=>by
   have:=Go.Am.CellsAt.of_cells hc j v (by simpa using hj)
   have ha:(⟨b,0,none⟩:Addr).add j=⟨b,j,none⟩:=by unfold Addr.add; split<;>simp_all
   rw[ha]; simpa using this)
  exact this
 have hr:Tryz.f110.results=#[.cell 2 188]:=by kernel_rfl
 unfold results;rw[hr,Array.mapM_eq_mapM_toList];simp only[Sem.run_bind,Sem.run_map,List.mapM_cons,List.mapM_nil,h2,asAddr,Sem.run_pure,Result.andThen_ok,hl];rfl
set_option maxRecDepth 100000 in
set_option maxHeartbeats 1000000 in
def af1 (v:Value) (w:World) (c0 c1 c2 c3 c4:Int) (n:Int)
 (hcopy : ∀ W, (∀ b, b < w.heap.size → W.heap[b]? = w.heap[b]?) → W.heap[w.heap.size + 1]? = some (.cells #[.int .i64 0, .int .i64 0, .int .i64 0, .int .i64 0, .int .i64 0] 188 (0, 0)) → (Builtin.copy_ #[37, 37] 3 #[.slice (some ⟨w.heap.size + 1, 0, none⟩) 5 5, v]).run Tryz.prog W = .ok (.int .i64 n) (W.setRow (w.heap.size + 1) #[.int .i64 c0, .int .i64 c1, .int .i64 c2, .int .i64 c3, .int .i64 c4])) :
  CallsIn Fence.wide 0 Tryz.prog 110 #[v] w fun e W'=>e=.returned (.agg #[.int .i64 c0,.int .i64 c1,.int .i64 c2,.int .i64 c3,.int .i64 c4])∧(∀b,b<w.heap.size→W'.heap[b]?=w.heap[b]?)∧w.heap.size≤W'.heap.size∧W'.os=w.os∧W'.tape=w.tape∧W'.output=w.output:=by
 refine callsIn_of_wp Tryz.func110 rfl trivial ?_ rfl;simp only[Tryz.ntmps110,eS,cW,dX,Nat.reduceAdd,Nat.reduceSub,Array.replicate_succ,Array.replicate_zero,List.push_toArray,gE,eZ,dL]
 gi_wp2
 rw[hcopy _ (WZ _ _ _) (aaY _ _ _)];generalize hW:World.setRow _ _ _=W1
 have g1:W1.heap[w.heap.size+1]?=some (.cells #[.int .i64 c0,.int .i64 c1,.int .i64 c2,.int .i64 c3,.int .i64 c4] 188 (0,0)):=by
  rw[←hW]; exact setRow_heap _ _ _ _ 188 _ (aaY _ _ _)
 have g2:W1.heap[w.heap.size]?=some (.cells #[.int .i64 0,.int .i64 0,.int .i64 0,.int .i64 0,.int .i64 0] 188 (0,0)):=by
  rw[←hW,setRow_other _ _ _ _ (by omega)]; exact afs _ _ _
 have g3:∀b,b<w.heap.size→W1.heap[b]?=w.heap[b]?:=fun b hb=>by
  rw[←hW,setRow_other _ _ _ _ (by omega)]; exact WZ _ _ _ b hb
 have g4:W1.os=w.os∧W1.tape=w.tape∧W1.output=w.output∧W1.heap.size=w.heap.size+2:=by
  rw[←hW]; refine⟨rfl,rfl,rfl,?_⟩;rw[size_setRow]; simp only[World.alloc,Array.size_push]
 clear hW hcopy;obtain⟨l0,l1,l2,l3,l4,_⟩:=ahS g1;obtain⟨z0,z1,z2,z3,z4,zf⟩:=ahS g2
 gi_wp2
 rw[set5 g2];refine bodyPost_ret (abj rfl (setRow_heap _ _ _ _ 188 _ g2)) rfl ?_;exact⟨rfl,fun b hb=>(setRow_other _ _ _ _ (by omega)).trans (g3 b hb),by rw[size_setRow]; omega,g4.1,g4.2.1,g4.2.2.1⟩
end Go.Proofs
namespace Go.Proofs.ZzM
open Go Go.Am Go.Proofs
def aik (xs:List Int):(#[Value.int .i64 0,.int .i64 0,.int .i64 0,.int .i64 0,.int .i64 0].toList.take 0++(xs.take 5).map (Value.int .i64 ·)++#[Value.int .i64 0,.int .i64 0,.int .i64 0,.int .i64 0,.int .i64 0].toList.drop (0+((xs.take 5).map (Value.int .i64 ·)).length)).toArray =
 #[.int .i64 (xs.getD 0 0),.int .i64 (xs.getD 1 0),.int .i64 (xs.getD 2 0),.int .i64 (xs.getD 3 0),.int .i64 (xs.getD 4 0)]:=by
 rcases xs with _|⟨a,_|⟨b,_|⟨c,_|⟨d,_|⟨e,r⟩⟩⟩⟩⟩<;>rfl
def ae2:ki Tryz.prog 110 UF:=by
 intro G x y hF w vals hG hAL;obtain⟨v,rfl,us,hus,hv⟩:=hAL;change List Int at x;obtain⟨base,cap,rfl,hcap,hcase⟩:=hus;have hv:v=.slice base (x:List Int).length cap:=hv;subst hv;have hy:y=((x:List Int).getD 0 0,(x:List Int).getD 1 0,(x:List Int).getD 2 0,(x:List Int).getD 3 0,(x:List Int).getD 4 0):=(Option.some.inj hF).symm;refine⟨⟨Tryz.f110,_,Tryz.func110,rfl⟩,?_⟩
 have hcopy:∀W:World,(∀b,b<w.heap.size→W.heap[b]?=w.heap[b]?)→W.heap[w.heap.size+1]?=some (.cells #[.int .i64 0,.int .i64 0,.int .i64 0,.int .i64 0,.int .i64 0] 188 (0,0)) →
  (Builtin.copy_ #[37,37] 3 #[.slice (some ⟨w.heap.size+1,0,none⟩) 5 5,.slice base (x:List Int).length cap]).run Tryz.prog W=.ok (.int .i64 ((((x:List Int).take 5).map (Value.int .i64 ·)).length:Nat)) (W.setRow (w.heap.size+1) #[.int .i64 ((x:List Int).getD 0 0),.int .i64 ((x:List Int).getD 1 0),.int .i64 ((x:List Int).getD 2 0),.int .i64 ((x:List Int).getD 3 0),.int .i64 ((x:List Int).getD 4 0)]):=by
  intro W hlow hcell;rcases hcase with h0|⟨b,off,rfl,hGb,hb,hcs⟩
  ·have h0:x=([]:List Int):=h0;subst h0;rw[run_copy_none W 37 37 3 3 _ _ 5 5 _ _ (by kernel_rfl) (by kernel_rfl) (by simp)];exact congrArg _ (setRow_self W _ _ 188 (0,0) hcell).symm
  ·have:=run_copy_row Tryz.prog W 37 37 3 3 (w.heap.size+1) 0 5 5 ⟨b,off,none⟩ (x:List Int).length cap _ 188 (((x:List Int).take 5).map (Value.int .i64 ·)) (by kernel_rfl) (by kernel_rfl) hcell (by simp[Nat.min_comm]) (fun j u hj=>by
    rw[ff] at hj
    cases hx:((x:List Int).take 5)[j]? with
    |none=>rw[hx] at hj; cases hj
    |some n =>
     rw[hx] at hj;cases hj
     have hx2:(x:List Int)[j]?=some n:=by
      rw[dZ] at hx
      split at hx
      ·exact hx
      ·cases hx
     obtain⟨us,q1,q2⟩:=hcs j n hx2;have q1:us=[.int .i64 n]:=q1;subst q1;have q3:=q2 0 _ rfl
     have ha:(⟨b,off,none⟩:Addr).add j=⟨b,off+j,none⟩:=by unfold Addr.add; split<;>simp_all
     rw[ha,World.cell?_of_block (w:=w) (by exact hlow b hb)]
     simpa[Ty.size] using q3) (by simp; omega) (fun u hu=>by
    obtain⟨n,_,rfl⟩:=dt.1 hu
    rfl)
   rw[aik] at this;exact this
 refine(af1 _ w _ _ _ _ _ _ hcopy).mono fun e w' h=>?_;obtain⟨rfl,h1,h2,h3,h4,h5⟩:=h;refine⟨_,rfl,?_,h1,h2,h3,h4,h5⟩;subst hy;exact⟨[.int .i64 _,.int .i64 _,.int .i64 _,.int .i64 _,.int .i64 _],⟨[_],_,rfl,rfl,[_],_,rfl,rfl,[_],_,rfl,rfl,[_],_,rfl,rfl,rfl⟩,rfl⟩
end Go.Proofs.ZzM
end

noncomputable section
set_option maxRecDepth 100000
namespace Go.Proofs.ZzM
open Go Go.Am
def WR:ZP 107 Lr:=zt (Ea _) (Á sv (Á yx (Á G5 Å))) rfl (Á M9 Å) fun x=>S8 x some
def ag5:ZP 59 ZX:=zt (Qr _) (Á WR (Á aaM Å)) rfl Å fun x=>V9 x some
def ae4:ZP 23 UH:=zt (mn _) (Á ag5 Å) rfl (Á L3 (Á LZ (Á LY (Á LX (Á LW Å))))) fun x=>RM x some
def nO:ZP 4 lB:=zt (xG _) (Á sv (Á ae4 Å)) rfl (Á Mh (Á Mi Å)) fun x=>Sb x some
def Cp:ZP 5 qk:=zt (jC _) Å rfl (Á sG Å) fun x=>vN x some
def WK:ZP 34 Lj:=zt (DK _) Å rfl (Á LN Å) fun x=>RI x some
def TM:ZP 45 Li:=zt (LG _) (Á wR Å) rfl (Á RB Å) fun x=>X4 x some
def NV:ZP 84 zz:=zt (ox _) (Á TM Å) rfl (Á zN Å) fun x=>DF x some
def yv:ki Tryz.prog 42 qt:=Kt (Μ _) (fun {_}=>AJ (Á TM (Á NV Å)) (Μ _) rfl rfl rfl rfl rfl (ś rfl) (kF rfl) (iC rfl)) hmix (tab:=vV _) rfl (Á DD (Á DC (Á DB (Á DA Å)))) (mA fun x=>HG x some)
def aaK:ZP 113 Ro:=zt (Bv _) (Á oS Å) rfl (Á Pm (Á Pl Å)) fun x=>VO x some
def kg:ZP 131 Λ:=zt (Ŷ _) Å rfl (Á nt Å) fun x=>oG x some
def WQ:ZP 154 Jb:=zt (C8 _) (Á kg Å) rfl Å fun x=>Kc x some
def Kk:ZP 191 yB:=zt (tX _) Å rfl Å fun x=>Cj x some
def Bf:ZP 194 vC:=zt (DU _) (Á G4 Å) rfl (Á MF Å) fun x=>Sv x some
def NY:ZP 201 Dv:=zt (FR _) (Á aaJ (Á afb Å)) rfl Å fun x=>MI x some
def ai2:ZP 197 adg:=zt (VC _) (Á Bf (Á NY Å)) rfl Å fun x=>Yq x some
def TQ:ZP 192 ET:=zt (AB _) (Á ai2 Å) rfl Å fun x=>Ia x some
def Y7:ZP 206 XR:=zt (VA _) Å rfl Å fun x=>Yn x some
def Dj:ZP 202 Cy:=zt (yH _) (Á Bf (Á Y7 Å)) rfl Å fun x=>FT x some
def afd:ZP 205 adh:=zt (VE _) (Á Bf (Á NY Å)) rfl Å fun x=>Yt x some
def afc:ki Tryz.prog 198 UO:=ada (DX _) (VD _) (fun {_}=>AJ (Á G4 (Á Dj (Á afd (Á Y7 Å)))) (DX _) rfl rfl rfl rfl rfl (ś rfl) (kF rfl) (iC rfl)) (fun {_}=>libN (Á G4 (Á Dj (Á afd (Á Y7 Å)))) _) rfl hmix (tab:=xR _) rfl Å (us:=Jm) rfl (Á (by kernel_rfl) Å) (mA fun x=>SE x some)
def TP:ZP 193 ES:=zt (AA _) (Á afc Å) rfl Å fun x=>H8 x some
def aca:ZP 178 P2:=zt (Jq _) (Á yx (Á KO (Á Kk (Á TQ (Á TP Å))))) rfl Å fun x=>Pw x some
def aff:ZP 179 UQ:=zt (M7 _) Å rfl Å fun x=>SY x some
def WP:ZP 195 Ln:=zt (MK _) Å rfl Å fun x=>Sz x some
def afe:ZP 180 UP:=zt (MP _) (Á Bf (Á WP Å)) rfl Å fun x=>SG x some
def ag1:ZP 181 ZT:=zt (Qo _) (Á Bf (Á WP Å)) rfl Å fun x=>VH x some
def ag2:ZP 156 ZU:=zt (Qp _) (Á aca (Á aff (Á afe (Á ag1 Å)))) rfl Å fun x=>VJ x some
def ag3:ZP 82 ZV:=zt (wB _) (Á N0 (Á KO (Á aaL (Á aaK (Á WQ (Á ag2 Å)))))) rfl (Á Pj (Á Pk (Á Ph Å))) fun x=>VM x some
def BV:ZP 41 vF:=zt (Jr _) (Á sv (Á ag3 Å)) rfl Å fun x=>PB x some
def aaI:ZP 128 Rm:=zt (Qf _) Å rfl Å fun x=>Vp x some
def NX:ZP 86 EQ:=zt (DT _) (Á aaI Å) rfl (Á MB Å) fun x=>Sq x some
def Be:ZP 87 tc:=zt (iw _) Å rfl (Á FL (Á FK (Á FI (Á FJ (Á FH Å))))) fun x=>J2 x some
def Di:ZP 64 uG:=zt (yG _) (Á NX (Á Be Å)) rfl Å fun x=>FP x some
def Bb:ZP 31 ta:=zt (CJ _) (Á BV (Á yv (Á Di Å))) rfl Å fun x=>JR x some
def QS:ZP 27 Hx:=zt (tk _) Å rfl (Á JK (Á JL Å)) fun x=>Ot x some
def NZ:ZP 124 zA:=zt (wA _) Å rfl Å fun x=>DZ x some
def IP:ZP 81 vD:=zt (sa _) (Á NZ Å) rfl Å fun x=>Az x some
def QT:ZP 80 Hy:=zt (Jf _) (Á QS (Á IP Å)) rfl Å fun x=>Oz x some
def qM:XOk Tryz.prog 152 (.row ĉ):=Rc (r:=ĉ) (ý _) (fun {_}=>AJ (Á QT Å) (ý _) rfl rfl rfl rfl rfl (ś rfl) (kF rfl) (iC rfl)) hmix (tab:=iz _) rfl (Á mU (Á mV Å)) (fun xs x m=>nW xs x m some)
def Bc:XOk Tryz.prog 177 (.row ł):=Rc (r:=ł) (ć _) (fun {_}=>AJ Å (ć _) rfl rfl rfl rfl rfl (ś rfl) (kF rfl) (iC rfl)) hmix (tab:=lN _) rfl (Á rU (Á rS (Á rV (Á rR Å)))) (fun xs x m=>uY xs x m some)
def qL {rec:(Val (.slice (.slice (.slice tI))))→Int→Int→Int→(Val Â)→Option ((Val (.slice (.slice (.slice tI))))×(Val Â))} (hrec:XOk Tryz.prog 153 (.row ⟨(.slice (.slice tI)),[tI,tI,tI],80,Â,fun(xs:(Val (.slice (.slice (.slice tI))))) (x:Val Ĥ) (m:Val Â)=>rec xs x.1 x.2.1 x.2.2 m⟩)):XOk Tryz.prog 153 (.row ⟨(.slice (.slice tI)),[tI,tI,tI],80,Â,fun(xs:(Val (.slice (.slice (.slice tI))))) (x:Val Ĥ) (m:Val Â)=>ĭ rec xs x.1 x.2.1 x.2.2 m some⟩):=Rc (r:=⟨(.slice (.slice tI)),[tI,tI,tI],80,Â,fun(xs:(Val (.slice (.slice (.slice tI))))) (x:Val Ĥ) (m:Val Â)=>ĭ rec xs x.1 x.2.1 x.2.2 m some⟩) (Æ rec _) (fun {_}=>AJ (Á QT Å) (Æ rec _) rfl rfl rfl rfl rfl (ś rfl) (TB (Á hrec (Á Bc Å)) rfl) (iC rfl)) hmix (tab:=jU rec _) rfl (Á qd (Á pZ (Á pY (Á pX (Á pW Å))))) (fun xs x m=>rN _ xs x m some)
def ke:∀n:Nat,XOk Tryz.prog 153 (.row ⟨(.slice (.slice tI)),[tI,tI,tI],80,Â,fun(xs:(Val (.slice (.slice (.slice tI))))) (x:Val Ĥ) (m:Val Â)=>ī n xs x.1 x.2.1 x.2.2 m⟩)
 |0=>ahe.mk (by intro _ _ _ _ _ _ h; cases h)
 |n+1=>qL (ke n)
def yw:XOk Tryz.prog 153 (.row m8):=ke 100
def pS:XOk Tryz.prog 123 (.row Ħ):=Rc (r:=Ħ) (ę _) (fun {_}=>AJ Å (ę _) rfl rfl rfl rfl rfl (ś rfl) (TB (Á qM (Á yw Å)) rfl) (iC rfl)) hmix (tab:=lM _) rfl (Á rQ (Á rO (Á rP Å))) (fun xs x m=>uX xs x m some)
def aaG:ki Tryz.prog 44 Rk:=Ld (iP _) (fun {_}=>AJ (Á Bb Å) (iP _) rfl rfl rfl rfl rfl (ś rfl) (TB (Á pS Å) rfl) (iC rfl)) hmix (tab:=Ji _) rfl (Á OQ (Á OP Å)) (rtab:=L5 _) rfl (Á (OO NR) Å) (Á OM Å) (mA fun x=>Vf x some)
def N2:ZP 93 EW:=zt (Nb _) (Á sv (Á N0 (Á kg Å))) rfl Å fun x=>Td x some
def aaN:ZP 94 Rs:=zt (Ii _) (Á sv Å) rfl (Á PC Å) fun x=>V6 x some
def WO:ZP 134 Lm:=zt (DS _) (Á NX (Á Be (Á aaI Å))) rfl (Á Mp Å) fun x=>Sh x some
def QV:ZP 171 HA:=zt (j6 _) Å rfl (Á J7 (Á J6 (Á J5 (Á J3 (Á J4 Å))))) fun x=>O5 x some
def ae8:ZP 95 UL:=zt (xQ _) (Á WO (Á QV Å)) rfl (Á Ms (Á Mr Å)) fun x=>Sj x some
def ab8:ZP 46 P0:=zt (Jg _) (Á BV (Á N2 (Á aaN (Á ae8 Å)))) rfl Å fun x=>OD x some
def QU:ZP 18 Hz:=zt (tP _) (Á nO (Á WK (Á yv (Á aaG (Á TM (Á ab8 Å)))))) rfl (Á JY (Á JX Å)) fun x=>OY x some
def aaH:ZP 20 Rl:=zt (Br _) (Á nO (Á aaG (Á TM Å))) rfl (Á OU (Á OV Å)) fun x=>Vi x some
def aaE:ki Tryz.prog 40 Ri:=Ld (kp _) (fun {_}=>AJ Å (kp _) rfl rfl rfl rfl rfl (ś rfl) (TB (Á pS Å) rfl) (iC rfl)) hmix (tab:=Je _) rfl Å (rtab:=LJ _) rfl (Á (Ox NR) Å) (Á Ow Å) (mA fun x=>U9 x some)
def qK:ZP 32 mZ:=zt (rL _) (Á Bb (Á aaE Å)) rfl (Á DM Å) fun x=>HJ x some
def ae6:ZP 25 UJ:=zt (Md _) (Á nO (Á qK Å)) rfl Å fun x=>RW x some
def Ej:ZP 6 rz:=zt (pj _) (Á QU (Á aaH (Á ae6 Å))) rfl Å fun x=>xo x some
def ae3:ki Tryz.prog 61 UG:=Ld (iu _) (fun {_}=>AJ (Á ae2 Å) (iu _) rfl rfl rfl rfl rfl (ś rfl) (kF rfl) (iC rfl)) hmix (tab:=Fl _) rfl (Á LU Å) (rtab:=Jh _) rfl (Á (LS aeY) Å) (Á LR Å) (mA fun x=>RK x some)
def WL:ZP 26 Ll:=zt (L9 _) (Á nO (Á ae3 Å)) rfl Å fun x=>RP x some
def ab9:ZP 7 P1:=zt (Jj _) (Á WL (Á QS Å)) rfl Å fun x=>OT x some
def lz:ZP 16 iE:=zt (κ _) Å rfl (Á sK (Á sL Å)) fun x=>vU x some
def El:ZP 28 rB:=zt (ii _) (Á lz Å) rfl (Á uT (Á uU Å)) fun x=>xv x some
def A9:ZP 8 o9:=zt (œ _) (Á lz (Á El Å)) rfl (Á rH (Á rG (Á rE Å))) fun x=>uK x some
def Cq:ZP 9 ql:=zt (jD _) (Á sv Å) rfl (Á sH Å) fun x=>vQ x some
def ag4:ZP 62 ZW:=zt (Qq _) (Á yx (Á WR (Á aaK Å))) rfl Å fun x=>V4 x some
def Ek:ZP 29 rA:=zt (ic _) (Á ag4 Å) rfl (Á uQ (Á uR Å)) fun x=>xq x some
def uB:ZP 17 mY:=zt (lm _) Å rfl (Á vS Å) fun x=>yU x some
def ol:ZP 19 jz:=zt (iL _) Å rfl (Á qu Å) fun x=>sJ x some
def Co:ZP 63 qj:=zt (jB _) (Á uB (Á ol Å)) rfl (Á sF Å) fun x=>vL x some
def Ba:ZP 30 pb:=zt (nf _) (Á Co Å) rfl Å fun x=>uO x some
def Ei:ZP 10 ru:=zt (jQ _) (Á Ek (Á Ba Å)) rfl (Á uL Å) fun x=>xh x some
def WM:ZP 11 I9:=zt (CM _) (Á WL (Á Bb Å)) rfl Å fun x=>JV x some
def aaF:ZP 33 Rj:=zt (Bq _) (Á iI Å) rfl (Á OB (Á OA Å)) fun x=>Vb x some
def TO:ZP 12 EP:=zt (zX _) (Á nO (Á qK (Á aaF Å))) rfl Å fun x=>HP x some
def acb:ZP 37 P3:=zt (Js _) (Á QW (Á KO Å)) rfl Å fun x=>PE x some
def TN:ZP 13 EO:=zt (np _) (Á nO (Á qK (Á WK (Á acb (Á iI Å))))) rfl (Á DP (Á DN Å)) fun x=>HM x some
def ag0:ZP 14 ZS:=zt (Bs _) (Á nO (Á qK (Á aaF (Á nP Å)))) rfl (Á O0 (Á OZ Å)) fun x=>Vm x some
def ae7:ZP 88 UK:=zt (HW _) Å rfl (Á Yh (Á Yf (Á Ye (Á Yg Å)))) fun x=>adG x some
def ae9:ZP 43 UM:=zt (mr _) (Á NX (Á Be (Á ae7 Å))) rfl (Á MA (Á Mv (Á Mw (Á My (Á Mz Å))))) fun x=>Sl x some
def ae5:ZP 15 UI:=zt (DQ _) (Á nO (Á aaE (Á BV (Á yv (Á ae9 Å))))) rfl (Á Mb Å) fun x=>RU x some
def afa:ZP 172 UN:=zt (MD _) (Á WO (Á QV Å)) rfl Å fun x=>Ss x some
def Dh:ZP 136 uF:=zt (yF _) (Á afa Å) rfl Å fun x=>FE x some
def NW:ZP 137 Du:=zt (FF _) (Á N2 Å) rfl Å fun x=>Mk x some
def PK:ZP 97 Cx:=zt (yE _) (Á Dh (Á NW Å)) rfl Å fun x=>FC x some
def IM:ZP 98 vB:=zt (rY _) (Á Dh (Á NW Å)) rfl Å fun x=>Ah x some
def IL:ki Tryz.prog 50 vA:=Kt (mq _) (fun {_}=>AJ (Á PK (Á IM Å)) (mq _) rfl rfl rfl rfl rfl (ś rfl) (kF rfl) (iC rfl)) hmix (tab:=pD _) rfl Å (mA fun x=>Af x some)
def WN:ZP 21 Ja:=zt (vd _) (Á sv (Á BV (Á IL (Á Di (Á N2 (Á aaN Å)))))) rfl (Á FG Å) fun x=>J0 x some
def c_wringingtop_TopNothingTrueIsWithdrawn:ki Tryz.prog 3 Ć:=Kt (ê _) (fun {_}=>AJ (Á nO (Á Cp (Á Ej (Á ab9 (Á A9 (Á Cq (Á Ei (Á WM (Á TO (Á TN (Á ag0 (Á ae5 (Á lz (Á uB (Á QU (Á ol (Á aaH (Á WN Å)))))))))))))))))) (ê _) rfl rfl rfl rfl rfl (ad6 (js:=ŝ) rfl) (kF rfl) (iC rfl)) hmix (tab:=Ŗ _) rfl (Á iN (Á iM Å)) (mA fun x=>jc x some)
end Go.Proofs.ZzM
end
