/- lemmas -/
import Derived.Test.YtmadligicacpkaaGreatAmD
import Derived.Test.YtmadligicacpkaaGreatAmE
import Derived.Ground.NamesProg
import Derived.Ground.Names2Prog
import Derived.KernelRfl
import Derived.Test.YtmadligicacpkaaGreatMdMA
import Derived.Test.YtmadligicacpkaaGreatMdKD
import Derived.RangeFuncBox
import Derived.Lib.SliceRun
import Derived.RangeFuncLeaves
import Derived.WalkKit
import Derived.OwnWalkIn
import Derived.TacticsInMore
import Derived.LoopNIn
import Derived.LoopIn
import Derived.Test.YtmadligicacpkaaGreatProg
import Derived.RangeFuncFrom
import Derived.RangeFuncRecord
import Derived.Test.YtmadligicacpkaaGreatMdKC
import Derived.Test.YtmadligicacpkaaGreatMdKB
import Derived.Test.YtmadligicacpkaaGreatMdKA
set_option linter.all false
set_option linter.unusedSectionVars false
set_option linter.unusedVariables false
set_option linter.unusedSimpArgs false
noncomputable section
namespace Go.Proofs
open Go.Shelf
def Tryz.laysSort_ren:Go.Shelf.Ren:=⟨fun|189=>232|125=>262|257=>261|128=>281|129=>282|294=>272|295=>273|296=>274|297=>275|298=>276|299=>277|216=>278|300=>279|301=>280|328=>286|329=>287|330=>288|331=>289|332=>290|215=>291|343=>299|n=>n,fun|28=>53|3=>3|46=>298|0=>0|51=>316|53=>293|4=>4|183=>309|182=>308|131=>265|5=>5|9=>9|218=>324|222=>328|228=>336|229=>337|n=>n,fun|n=>n⟩
def Tryz.laysSort:Go.Proofs.Lays.n189 Tryz.prog Tryz.laysSort_ren:={
 mixed:=by kernel_rfl
 f125:=Tryz.func262.trans (congrArg some (by kernel_rfl))
 f128:=Tryz.func281.trans (congrArg some (by kernel_rfl))
 f129:=Tryz.func282.trans (congrArg some (by kernel_rfl))
 f189:=Tryz.func232.trans (congrArg some (by kernel_rfl))
 f215:=Tryz.func291.trans (congrArg some (by kernel_rfl))
 f216:=Tryz.func278.trans (congrArg some (by kernel_rfl))
 f257:=Tryz.func261.trans (congrArg some (by kernel_rfl))
 f294:=Tryz.func272.trans (congrArg some (by kernel_rfl))
 f295:=Tryz.func273.trans (congrArg some (by kernel_rfl))
 f296:=Tryz.func274.trans (congrArg some (by kernel_rfl))
 f297:=Tryz.func275.trans (congrArg some (by kernel_rfl))
 f298:=Tryz.func276.trans (congrArg some (by kernel_rfl))
 f299:=Tryz.func277.trans (congrArg some (by kernel_rfl))
 f300:=Tryz.func279.trans (congrArg some (by kernel_rfl))
 f301:=Tryz.func280.trans (congrArg some (by kernel_rfl))
 f328:=Tryz.func286.trans (congrArg some (by kernel_rfl))
 f329:=Tryz.func287.trans (congrArg some (by kernel_rfl))
 f330:=Tryz.func288.trans (congrArg some (by kernel_rfl))
 f331:=Tryz.func289.trans (congrArg some (by kernel_rfl))
 f332:=Tryz.func290.trans (congrArg some (by kernel_rfl))
 f343:=Tryz.func299.trans (congrArg some (by kernel_rfl))
 t0:=Tryz.underlying0
 a0:=Tryz.isAgg0
 z0:=Tryz.sizeOf0
 v0:=Tryz.zeroValue0
 t3:=Tryz.underlying3
 a3:=Tryz.isAgg3
 z3:=Tryz.sizeOf3
 v3:=Tryz.zeroValue3
 t4:=Tryz.underlying4
 a4:=Tryz.isAgg4
 z4:=Tryz.sizeOf4
 v4:=Tryz.zeroValue4
 t5:=Tryz.underlying5
 a5:=Tryz.isAgg5
 z5:=Tryz.sizeOf5
 v5:=Tryz.zeroValue5
 t9:=Tryz.underlying9
 a9:=Tryz.isAgg9
 z9:=Tryz.sizeOf9
 v9:=Tryz.zeroValue9
 t28:=Tryz.underlying53
 a28:=Tryz.isAgg53
 z28:=Tryz.sizeOf53
 v28:=Tryz.zeroValue53
 t46:=Tryz.underlying298
 a46:=Tryz.isAgg298
 z46:=Tryz.sizeOf298
 v46:=Tryz.zeroValue298
 t51:=Tryz.underlying316
 a51:=Tryz.isAgg316
 z51:=Tryz.sizeOf316
 v51:=Tryz.zeroValue316
 t53:=Tryz.underlying293
 a53:=Tryz.isAgg293
 z53:=Tryz.sizeOf293
 v53:=Tryz.zeroValue293
 t131:=Tryz.underlying265
 a131:=Tryz.isAgg265
 z131:=Tryz.sizeOf265
 v131:=Tryz.zeroValue265
 t182:=Tryz.underlying308
 a182:=Tryz.isAgg308
 z182:=Tryz.sizeOf308
 v182:=Tryz.zeroValue308
 t183:=Tryz.underlying309
 a183:=Tryz.isAgg309
 z183:=Tryz.sizeOf309
 v183:=Tryz.zeroValue309
 t218:=Tryz.underlying324
 a218:=Tryz.isAgg324
 z218:=Tryz.sizeOf324
 v218:=Tryz.zeroValue324
 t222:=Tryz.underlying328
 a222:=Tryz.isAgg328
 z222:=Tryz.sizeOf328
 v222:=Tryz.zeroValue328
 t228:=Tryz.underlying336
 a228:=Tryz.isAgg336
 z228:=Tryz.sizeOf336
 v228:=Tryz.zeroValue336
 t229:=Tryz.underlying337
 a229:=Tryz.isAgg337
 z229:=Tryz.sizeOf337
 v229:=Tryz.zeroValue337}
def Tryz.laysCompact_ren:Go.Shelf.Ren:=⟨fun|20=>233|n=>n,fun|22=>53|3=>3|4=>4|0=>0|n=>n,fun|n=>n⟩
def Tryz.laysCompact:Go.Proofs.Lays2.n20 Tryz.prog Tryz.laysCompact_ren:={
 mixed:=by kernel_rfl
 f20:=Tryz.func233.trans (congrArg some (by kernel_rfl))
 t0:=Tryz.underlying0
 a0:=Tryz.isAgg0
 z0:=Tryz.sizeOf0
 v0:=Tryz.zeroValue0
 t3:=Tryz.underlying3
 a3:=Tryz.isAgg3
 z3:=Tryz.sizeOf3
 v3:=Tryz.zeroValue3
 t4:=Tryz.underlying4
 a4:=Tryz.isAgg4
 z4:=Tryz.sizeOf4
 v4:=Tryz.zeroValue4
 t22:=Tryz.underlying53
 a22:=Tryz.isAgg53
 z22:=Tryz.sizeOf53
 v22:=Tryz.zeroValue53
 i3:=by kernel_rfl}
end Go.Proofs
namespace Go.Proofs.ZzM
open Go Go.Am
def hmix:Tryz.prog.follows .mixedOrders=true:=by kernel_rfl
def plain_ : (Tryz.prog.funcs.toList.all fun fn => !(fn.name == "runtime.NumGoroutine")) = true := by kernel_rfl
def plain (f : Nat) (fn : Func) (h : Tryz.prog.funcs[f]? = some fn) : (fn.name == "runtime.NumGoroutine") = false := by
 have:=dw.1 plain_ fn (cO (i:=f) (by simpa using h));simpa using this
def amP:Tryz.laysSort_ren.f 189=232:=by kernel_rfl
def afM:Tryz.laysCompact_ren.f 20=233:=by kernel_rfl
section
variable [ó] {ρ:Type}
def sortOk (f:Nat) (hf:aaJ f=true) (h:List Blk) (x:AV) (K:AV→List Blk→Option ρ) (q:ρ) (e:UM h x K=some q) (ν:Nat→Value) (w:World) (u:Value) (H:HR ν h w) (hx:VR ν h w x u):KX Tryz.prog f ν h w [u] K q:=by
 have h1:f=232:=by
  unfold aaJ at hf
  split at hf
  ·rfl
  ·cases hf
 subst h1;have:=amI Tryz.laysSort e H hx ⟨_,rfl⟩
 rwa [amP] at this
def ai6 (f:Nat) (hf:yJ f=true) (h:List Blk) (x:AV) (K:AV→List Blk→Option ρ) (q:ρ) (e:oj h x K=some q) (ν:Nat→Value) (w:World) (u:Value) (H:HR ν h w) (hx:VR ν h w x u):KX Tryz.prog f ν h w [u] K q:=by
 have h1:f=233:=by
  unfold yJ at hf
  split at hf
  ·rfl
  ·cases hf
 subst h1;have:=ags Tryz.laysCompact e H hx ⟨_,rfl⟩
 rwa [afM] at this
def anp:Jz Tryz.prog PY:=by
 intro g hg fz S nid x v S' e ν w u H hx hn hd;unfold PY at hg
 split at hg
 ·exact vB Tryz.func116 (T:=42) (by kernel_rfl) (by kernel_rfl) e H hx hn hd
 ·exact vB Tryz.func130 (T:=53) (by kernel_rfl) (by kernel_rfl) e H hx hn hd
 ·exact vB Tryz.func253 (T:=24) (by kernel_rfl) (by kernel_rfl) e H hx hn hd
 ·exact vB Tryz.func254 (T:=25) (by kernel_rfl) (by kernel_rfl) e H hx hn hd
 ·exact vB Tryz.func255 (T:=26) (by kernel_rfl) (by kernel_rfl) e H hx hn hd
 ·exact vB Tryz.func256 (T:=28) (by kernel_rfl) (by kernel_rfl) e H hx hn hd
 ·exact vB Tryz.func257 (T:=27) (by kernel_rfl) (by kernel_rfl) e H hx hn hd
 ·cases hg
def PU {pt:List (Nat×Ø)} (h:∀e∈pt,Ï Tryz.prog e.1 e.2) (E:Env ρ) (hP:E.P=Tryz.prog) (h1:E.pure=agj pt) (h2:E.sort=aaJ) (h3:E.compact=yJ) (h4:E.clone=PY) (hj:afv E):L9 E:=by
 constructor
 ·intro f p hf;rw[h1] at hf;rw[hP];exact h (f,p) (Up hf)
 ·intro f hf;rw[h2] at hf;rw[hP];exact sortOk f hf
 ·intro f hf;rw[h3] at hf;rw[hP];exact ai6 f hf
 ·rw[hP]; exact plain
 ·rw[hP,h4]; exact anp
 ·exact hj
def Ď {pt:List (Nat×Ø)} (h:∀e∈pt,Ï Tryz.prog e.1 e.2) (tab:List (Û ρ)):L9 (Ù pt tab):=PU h _ rfl rfl rfl rfl rfl (gJ rfl)
end
end Go.Proofs.ZzM
end

noncomputable section
set_option maxRecDepth 100000
namespace Go.Proofs.ZzM
open Go Go.Am
def Ş:Ï Tryz.prog 81 Ś:=Ç (ς _) (fun {_}=>Ď Æ _) hmix (tab:=lu _) rfl (Á sc (Á sa Æ)) (Å fun x=>wy x some)
def OI:∀e∈Ik,Ï Tryz.prog e.1 e.2:=(Á Ş Æ)
def acG {ρ:Type}:∀e∈CQ ρ,e.Ok (ų ρ):=(Á Wg (Á Wh (Á Wf (Á We (Á Wd (Á Wc Æ))))))
def J9 {ρ:Type}:∀e∈qo ρ,e.Ok (ę ρ):=(Á RY (Á RX (Á RW Æ)))
def Ac:Ï Tryz.prog 131 rV:=Ç (Ky _) (fun {_}=>Ď Æ _) hmix (tab:=BT _) rfl Æ (Å fun x=>SF x some)
def l8:Ï Tryz.prog 227 jX:=Ç (Kt _) (fun {_}=>Ď Æ _) hmix (tab:=BM _) rfl Æ (Å fun x=>Sr x some)
def QI:Ï Tryz.prog 189 D0:=Ç (PK _) (fun {_}=>Ď (Á l8 Æ) _) hmix (tab:=Gc _) rfl Æ (Å fun x=>WU x some)
def afd:Ï Tryz.prog 258 U1:=Ç (T0 _) (fun {_}=>Ď Æ _) hmix (tab:=Kn _) rfl Æ (Å fun x=>aab x some)
def ajx:Ï Tryz.prog 259 acf:=Ç (Pn _) (fun {_}=>Ď Æ _) hmix (tab:=Pm _) rfl (Á WC Æ) (Å fun x=>acP x some)
def Hc:Ï Tryz.prog 226 DW:=Ç (Pq _) (fun {_}=>Ď (Á afd (Á ajx Æ)) _) hmix (tab:=FR _) rfl Æ (Å fun x=>WE x some)
def adH:Ï Tryz.prog 187 No:=Ç (Gb _) (fun {_}=>Ď (Á Ac (Á QI (Á Hc (Á l8 Æ)))) _) hmix (tab:=yA _) rfl Æ (Å fun x=>PJ x some)
def QJ:Ï Tryz.prog 132 wU:=Ç (lT _) (fun {_}=>Ď (Á adH Æ) _) hmix (tab:=pf _) rfl (Á yB Æ) (Å fun x=>Db x some)
def QG:Ï Tryz.prog 133 Cn:=Ç (uG _) (fun {_}=>Ď Æ _) hmix (tab:=yr _) rfl (Á IK Æ) (Å fun x=>PC x some)
def Jo:Ï Tryz.prog 78 rP:=Ç (jM _) (fun {_}=>Ď Æ _) hmix (tab:=mA _) rfl (Á tP Æ) (Å fun x=>w8 x some)
def nE:Ï Tryz.prog 121 jm:=Ç (lr _) (fun {_}=>Ď (Á Jo Æ) _) hmix (tab:=j3 _) rfl Æ (Å fun x=>rZ x some)
def afh:Ï Tryz.prog 194 U5:=Ç (zC _) (fun {_}=>Ď (Á nE Æ) _) hmix (tab:=KA _) rfl (Á SI (Á SH Æ)) (Å fun x=>aau x some)
def QH:Ï Tryz.prog 135 DZ:=Ç (uJ _) (fun {_}=>Ď (Á afh Æ) _) hmix (tab:=FY _) rfl (Á PE (Á PF Æ)) (Å fun x=>WN x some)
def rJ:Ï Tryz.prog 190 mc:=Ç (wp _) (fun {_}=>Ď Æ _) hmix (tab:=qF _) rfl Æ (Å fun x=>FW x some)
def adG:Ï Tryz.prog 188 ach:=Ç (FX _) (fun {_}=>Ď (Á QI (Á rJ Æ)) _) hmix (tab:=yw _) rfl Æ (Å fun x=>PD x some)
def XI:Ï Tryz.prog 192 U6:=Ç (kK _) (fun {_}=>Ď (Á Ac (Á rJ (Á l8 Æ))) _) hmix (tab:=sS _) rfl (Á Da (Á C9 Æ)) (Å fun x=>IU x some)
def He:Ï Tryz.prog 199 zp:=Ç (zB _) (fun {_}=>Ď (Á nE Æ) _) hmix (tab:=Kx _) rfl (Á SC (Á SB Æ)) (Å fun x=>aar x some)
def Ux:Ï Tryz.prog 204 HF:=Ç (yz _) (fun {_}=>Ď (Á l8 Æ) _) hmix (tab:=BS _) rfl (Á LZ Æ) (Å fun x=>SD x some)
def alS:Ï Tryz.prog 231 aez:=Ç (IV _) (fun {_}=>Ď (Á l8 Æ) _) hmix (tab:=KB _) rfl (Á SJ Æ) (Å fun x=>aav x some)
def L6:Ï Tryz.prog 193 K6:=Ç (ŝ _) (fun {_}=>Ď (Á Ş (Á Ac (Á QI (Á rJ (Á He (Á Ux (Á l8 (Á alS Æ)))))))) _) hmix (tab:=nA _) rfl (Á wD (Á wB (Á wC (Á wA Æ)))) (Å fun x=>Au x some)
end Go.Proofs.ZzM
end

noncomputable section
namespace Go.Proofs
open Go.RowKit
attribute [local go_sem] Oper.semAt_some
def Q1 (sel:Nat→Bool) (k:Nat):List Nat:=(List.range k).filter sel
def DC (sel:Nat→Bool) (k:Nat):Q1 sel (k+1)=if sel k then Q1 sel k++[k] else Q1 sel k:=by
 unfold Q1;rw[List.range_succ,List.filter_append]
 cases h:sel k<;>simp[h]
def ab2 (sel:Nat→Bool) (k:Nat):(Q1 sel k).length≤k:=by
 unfold Q1;exact Nat.le_trans (List.length_filter_le _ _) (by simp)
def aht (sel:Nat→Bool) {j k:Nat} (h:j≤k):(Q1 sel j).length≤(Q1 sel k).length:=by
 obtain⟨d,rfl⟩:∃d,k=j+d:=⟨k-j,by omega⟩;unfold Q1;rw[List.range_add,List.filter_append,List.length_append];omega
def amJ {sel:Nat→Bool} {k n:Nat} (h:k<n) (hs:sel k=true):(Q1 sel k).length<(Q1 sel n).length:=by
 have h1:=aht sel (j:=k+1) (k:=n) h;rw[DC,hs] at h1;simp at h1;omega
set_option maxRecDepth 100000 in
set_option maxHeartbeats 1000000 in
def am5 (te:TypeId) (n:Nat) (hn:1≤n) (l bb tb:Nat) (flo fhi us lo co ko:Value) (gb go len cap:Nat) (gbase:Option Addr) (hgb:0<len→gbase=some ⟨gb,go,none⟩)
 (c0 c1 c2 c3 c4 c5 c6 c7:Nat→Int) (sel:Nat→Bool) (hlen:(len:Int)<9223372036854775807) (Nd:World→Prop)
 (W:World) (hb0:W.heap[bb]?=some (.cells #[flo,fhi,.slice gbase len cap,us,lo,co,ko] te (0,0)))
 (hNc:∀W',Nd W'→∀j,j<len→W'.cell? ⟨gb,go+j*8,none⟩=some (.int .i64 (c0 j))∧W'.cell? ⟨gb,go+j*8+1,none⟩=some (.int .i64 (c1 j))∧W'.cell? ⟨gb,go+j*8+2,none⟩=some (.int .i64 (c2 j))∧W'.cell? ⟨gb,go+j*8+3,none⟩=some (.int .i64 (c3 j)) ∧
  W'.cell? ⟨gb,go+j*8+4,none⟩=some (.int .i64 (c4 j))∧W'.cell? ⟨gb,go+j*8+5,none⟩=some (.int .i64 (c5 j))∧W'.cell? ⟨gb,go+j*8+6,none⟩=some (.int .i64 (c6 j))∧W'.cell? ⟨gb,go+j*8+7,none⟩=some (.int .i64 (c7 j)))
 (hNm:∀W',Nd W'→∃mv,∀W'',W'.grownBy W'' none→W''.cell? ⟨tb,0,none⟩=some mv∧∀j,j<len→(Instr.lookup 184 mv (.int .i64 (c0 j)) false).run Tryz.prog W''=.ok (.bool (sel j)) W'')
 (hNs:∀W1 W2,Nd W1→W1.grownBy W2 none→Nd W2) (hN:Nd W)
 (J Jx:List Nat→World→Prop) (hJ:∀pre W W',J pre W→W.grownBy W' none→J pre W') (hJx:∀pre W W',Jx pre W→W.grownBy W' none→Jx pre W')
 (hY:∀pre x W,J pre W→pre.length<(Q1 sel len).length→YieldAt Fence.wide (n-1) Tryz.prog l #[.agg #[.int .i64 (c0 x),.int .i64 (c1 x),.int .i64 (c2 x),.int .i64 (c3 x),.int .i64 (c4 x),.int .i64 (c5 x),.int .i64 (c6 x),.int .i64 (c7 x)]] W fun e W' =>
  (e=.returned (.bool true)∧J (pre++[x]) W'∧(Nd W→Nd W'))∨(e=.returned (.bool false)∧Jx (pre++[x]) W'))
 (h0 : J [] W) :
  CallsIn Fence.wide n Tryz.prog 186 #[.func (.yield l) #[] #[],.pointer (some ⟨bb,0,none⟩),.pointer (some ⟨tb,0,none⟩)] W fun e W'=>(∃v,e=.returned v) ∧
   ((∃xs,xs=Q1 sel len∧J xs W')∨(∃pre,True∧Jx pre W')):=by
 have hb3:W.cell? ⟨bb,2,none⟩=some (.slice gbase len cap):=by simp[World.cell?,hb0]
 refine callsIn_of_wp Tryz.func186 rfl trivial ?_ rfl;simp only[Tryz.ntmps186,eD,cW,dj,Nat.reduceAdd,Nat.reduceSub,Array.replicate_succ,Array.replicate_zero,List.push_toArray,f9,fN,eM]
 gi_wp2
 gi_loopw [9] (fun i wr=>∃k:Nat,k≤len∧i=.int .i64 k∧J (Q1 sel k) wr∧Nd wr)
  (fun i _=>len-(intOf i).toNat)
 case atStart=>exact⟨0,dX _,rfl,h0,hN⟩
 case round =>
  obtain⟨k,hk,rfl,hJs,hNw⟩:=hrel
  by_cases hlt:k<len
  ·have hg:=hgb (by omega);subst hg;obtain⟨q0,q1,q2,q3,q4,q5,q6,q7⟩:=hNc _ hNw k hlt;obtain⟨mv,hmv⟩:=hNm _ hNw;have hta:∀o,(wr.alloc o).cell? ⟨tb,0,none⟩=some mv:=fun o=>(hmv _ (World.grownBy_alloc _ o none)).1;have hlk:∀o,(Instr.lookup 184 mv (.int .i64 (c0 k)) false).run Tryz.prog (wr.alloc o)=.ok (.bool (sel k)) (wr.alloc o):=fun o=>(hmv _ (World.grownBy_alloc _ o none)).2 k hlt;have hNa:∀o,Nd (wr.alloc o):=fun o=>hNs _ _ hNw (World.grownBy_alloc _ o none);have hJa:∀o,J (Q1 sel k) (wr.alloc o):=fun o=>hJ _ _ _ hJs (World.grownBy_alloc _ o none);clear hmv hNm hNc
   cases hsel:sel k with
   |false =>
    rw[hsel] at hlk
    iterate 52 (first|go_values|gi_guarded|gi_step|gi_upon)
    refine⟨fun f hf=>by simp[undef,go_sem] at hf,?_⟩
    gi_wp2
    go_roundw
    case rel=>exact⟨k+1,by omega,by simp,by rw[DC,hsel]; exact hJa _,hNa _⟩
    case measure=>simp[intOf]; omega
   |true =>
    rw[hsel] at hlk
    gi_wp2
    obtain⟨fn,tmps,assign,body,hy,hR⟩:=hY (Q1 sel k) k (wr.alloc (.cells #[.int .i64 (c0 k),.int .i64 (c1 k),.int .i64 (c2 k),.int .i64 (c3 k),.int .i64 (c4 k),.int .i64 (c5 k),.int .i64 (c6 k),.int .i64 (c7 k)] 130)) (hJa _) (amJ hlt hsel);rw[hy];refine⟨fun h=>(by cases h),hR.mono ?_⟩;rintro e W3 (⟨rfl,hJ3,hk3⟩|⟨rfl,hJx3⟩)
    ·gi_wp2
     go_roundw
     case rel=>exact⟨k+1,by omega,by simp,by rw[DC,hsel]; exact hJ3,hk3 (hNa _)⟩
     case measure=>simp[intOf]; omega
    ·gi_wp2
     refine bodyPost_ret (results_none rfl _ _ _) rfl ?_;exact⟨⟨_,rfl⟩,.inr ⟨_,trivial,hJx3⟩⟩
  ·obtain rfl:len=k:=by omega
   gi_wp2
   go_end0
   exact⟨⟨_,rfl⟩,.inl ⟨_,rfl,hJs⟩⟩
end Go.Proofs
end

noncomputable section
namespace Go.Proofs
open Go.RowKit
attribute [local go_sem] Oper.semAt_some
def upE (f:Nat→Int) (k:Nat):List Int:=(List.range k).map f
def pL (f:Nat→Int) (k:Nat):upE f (k+1)=upE f k++[f k]:=by simp[upE,List.range_succ]
def zk (f:Nat→Int) (k:Nat):(upE f k).length=k:=by simp[upE]
def Ma (f:Nat→Int) {j k:Nat} (h:j≤k):upE f j <+: upE f k:=by
 have:k=j+(k-j):=by omega
 rw[this,upE,upE,List.range_add,gF];exact d9 _ _
set_option maxRecDepth 100000 in
set_option maxHeartbeats 1000000 in
def akM (te:TypeId) (n:Nat) (hn:1≤n) (l n₀ bb tb sb:Nat) (flo fhi ga mv:Value) (hbb:bb<n₀) (htb:tb<n₀) (hsb:sb<n₀)
 (ub uo ul uc kb ko kl kc:Nat) (ubase kbase lbase cbase:Option Addr) (ll lc cl cc:Nat) (hub:0<ul→ubase=some ⟨ub,uo,none⟩∧ub<n₀) (hkb:0<kl→kbase=some ⟨kb,ko,none⟩∧kb<n₀)
 (U K:Nat→Int×Int) (eU eL eC eK:Nat→Int)
 (hul:ul≤1000) (hll:ll≤1000) (hcl:cl≤1000) (hkl:kl≤1000)
 (W:World) (hb0:W.heap[bb]?=some (.cells #[flo,fhi,ga,.slice ubase ul uc,.slice lbase ll lc,.slice cbase cl cc,.slice kbase kl kc] te (0,0)))
 (ht:W.cell? ⟨tb,0,none⟩=some (.func (.func 188) #[] #[.pointer (some ⟨sb,0,none⟩)])) (hs:W.cell? ⟨sb,0,none⟩=some mv)
 (hU:∀j,j<ul→W.cell? ⟨ub,uo+j*2,none⟩=some (.int .i64 (U j).1)∧W.cell? ⟨ub,uo+j*2+1,none⟩=some (.int .i64 (U j).2))
 (hK:∀j,j<kl→W.cell? ⟨kb,ko+j*2,none⟩=some (.int .i64 (K j).1)∧W.cell? ⟨kb,ko+j*2+1,none⟩=some (.int .i64 (K j).2))
 (cU:∀j,j<ul→∀W',Below n₀ W W'→CallsIn Fence.wide (n-1) Tryz.prog 188 #[.int .i64 (U j).1,.int .i64 (U j).2,.pointer (some ⟨sb,0,none⟩)] W' fun e W''=>e=.returned (.int .i64 (eU j))∧W'.grownBy W'' none)
 (cK:∀j,j<kl→∀W',Below n₀ W W'→CallsIn Fence.wide (n-1) Tryz.prog 188 #[.int .i64 (K j).1,.int .i64 (K j).2,.pointer (some ⟨sb,0,none⟩)] W' fun e W''=>e=.returned (.int .i64 (eK j))∧W'.grownBy W'' none)
 (cL:∀j,j<ll→∀W',Below n₀ W W'→CallsIn Fence.wide (n-1) Tryz.prog 192 #[.agg #[flo,fhi,ga,.slice ubase ul uc,.slice lbase ll lc,.slice cbase cl cc,.slice kbase kl kc],mv,.int .i64 j] W' fun e W''=>e=.returned (.int .i64 (eL j))∧W'.grownBy W'' none)
 (cC:∀j,j<cl→∀W',Below n₀ W W'→CallsIn Fence.wide (n-1) Tryz.prog 193 #[.agg #[flo,fhi,ga,.slice ubase ul uc,.slice lbase ll lc,.slice cbase cl cc,.slice kbase kl kc],mv,.int .i64 j] W' fun e W''=>e=.returned (.int .i64 (eC j))∧W'.grownBy W'' none)
 (J Jx:List Int→World→Prop) (hJ:∀pre W W',J pre W→W.grownBy W' none→J pre W') (hJx:∀pre W W',Jx pre W→W.grownBy W' none→Jx pre W')
 (hY:∀pre x W,J pre W→pre.length<ul+(ll+(cl+kl))→YieldAt Fence.wide (n-1) Tryz.prog l #[.int .i64 x] W fun e W' =>
  (e=.returned (.bool true)∧J (pre++[x]) W'∧Below n₀ W W')∨(e=.returned (.bool false)∧Jx (pre++[x]) W'))
 (h0 : J [] W) (hn₀ : n₀ ≤ W.heap.size) :
  CallsIn Fence.wide n Tryz.prog 191 #[.func (.yield l) #[] #[],.pointer (some ⟨bb,0,none⟩),.pointer (some ⟨tb,0,none⟩),.pointer (some ⟨sb,0,none⟩)] W fun e W'=>(∃v,e=.returned v) ∧
   ((∃xs,xs=upE eU ul++(upE eL ll++(upE eC cl++upE eK kl))∧J xs W')∨(∃pre,(pre <+: upE eU ul++(upE eL ll++(upE eC cl++upE eK kl)))∧Jx pre W')):=by
 have grown_alloc:∀(X:World) (o:Obj),X.grownBy (X.alloc o) none:=fun X o=>World.grownBy_alloc X o none
 have bel:∀{X Y:World},Below n₀ W X→X.grownBy Y none→Below n₀ W Y:=fun {X Y} h g =>
  ⟨g.os.trans h.os,g.tape.trans h.tape,g.output.trans h.output,dt h.size g.size,fun k hk=>(g.block k (dk (dk hk hn₀) h.size) (by simp)).trans (h.block k hk)⟩
 have hc:∀{X:World},Below n₀ W X→X.heap[bb]?=some (.cells #[flo,fhi,ga,.slice ubase ul uc,.slice lbase ll lc,.slice cbase cl cc,.slice kbase kl kc] te (0,0)):=fun h=>(h.block bb hbb).trans hb0;refine callsIn_of_wp Tryz.func191 rfl trivial ?_ rfl;simp only[Tryz.ntmps191,eD,cW,dj,Nat.reduceAdd,Nat.reduceSub,Array.replicate_succ,Array.replicate_zero,List.push_toArray,f9,fN,eM]
 have hb3:W.cell? ⟨bb,3,none⟩=some (.slice ubase ul uc):=by simp[World.cell?,hb0]
 gi_wp2
 gi_loopw [14] (fun i wr=>∃k:Nat,k≤ul∧i=.int .i64 k∧J (upE eU k) wr∧Below n₀ W wr)
  (fun i _=>ul-(intOf i).toNat)
 case atStart=>exact⟨0,dX _,rfl,h0,Below.refl _ _⟩
 case round =>
  obtain⟨k,hk,rfl,hJs,hnx⟩:=hrel
  by_cases hlt:k<ul
  ·obtain⟨rfl,hlu⟩:=hub (by omega);have hu1:=(hnx.cell (p:=⟨ub,uo+k*2,none⟩) hlu).trans (hU k hlt).1;have hu2:=(hnx.cell (p:=⟨ub,uo+k*2+1,none⟩) hlu).trans (hU k hlt).2;have ht':=(hnx.cell (p:=⟨tb,0,none⟩) htb).trans ht;have hta:∀o,(wr.alloc o).cell? ⟨tb,0,none⟩=some (.func (.func 188) #[] #[.pointer (some ⟨sb,0,none⟩)]):=fun o=>Lib.cell?_alloc_some _ ht'
   gi_wp2
   refine⟨trivial,(cU k hlt _ (bel hnx (grown_alloc _ _))).mono ?_⟩;rintro e W2 ⟨rfl,hg2⟩;obtain⟨fn,tmps,assign,body,hy,hR⟩:=hY _ (eU k) W2 (hJ _ _ _ (hJ _ _ _ hJs (grown_alloc _ _)) hg2) (by rw[zk]; omega);have hb2:=bel (bel hnx (grown_alloc _ _)) hg2
   gi_wp2
   refine hR.mono ?_;rintro e W3 (⟨rfl,hJ3,hk3⟩|⟨rfl,hJx3⟩)
   ·gi_wp2
    go_roundw
    case rel=>exact⟨k+1,by omega,by simp,by rw[pL]; exact hJ3,hb2.trans hk3⟩
    case measure=>simp[intOf]; omega
   ·gi_wp2
    refine bodyPost_ret (results_none rfl _ _ _) rfl ?_;refine⟨⟨_,rfl⟩,.inr ⟨_,?_,hJx3⟩⟩;rw[←pL];exact(Ma eU (by omega)).trans (d9 _ _)
  ·obtain rfl:ul=k:=by omega
   have hb4:wr.cell? ⟨bb,4,none⟩=some (.slice lbase ll lc):=by simp[World.cell?,hc hnx]
   gi_wp2
   gi_loopw [31] (fun i wr=>∃k:Nat,k≤ll∧i=.int .i64 k∧J (upE eU ul++upE eL k) wr∧Below n₀ W wr)
    (fun i _=>ll-(intOf i).toNat)
   case atStart=>exact⟨0,dX _,rfl,by simpa[upE] using hJs,hnx⟩
   case round =>
    clear hJs hnx;obtain⟨k,hk,rfl,hJs,hnx⟩:=hrel
    by_cases hlt:k<ll
    ·have q0:wr.cell? ⟨bb,0,none⟩=some flo:=by simp[World.cell?,hc hnx]
     have q1:wr.cell? ⟨bb,1,none⟩=some fhi:=by simp[World.cell?,hc hnx]
     have q2:wr.cell? ⟨bb,2,none⟩=some ga:=by simp[World.cell?,hc hnx]
     have q3:wr.cell? ⟨bb,3,none⟩=some (.slice ubase ul uc):=by simp[World.cell?,hc hnx]
     have q4:wr.cell? ⟨bb,4,none⟩=some (.slice lbase ll lc):=by simp[World.cell?,hc hnx]
     have q5:wr.cell? ⟨bb,5,none⟩=some (.slice cbase cl cc):=by simp[World.cell?,hc hnx]
     have q6:wr.cell? ⟨bb,6,none⟩=some (.slice kbase kl kc):=by simp[World.cell?,hc hnx]
     have hs':=(hnx.cell (p:=⟨sb,0,none⟩) hsb).trans hs
     gi_wp2
     refine⟨trivial,(cL k hlt _ hnx).mono ?_⟩;rintro e W2 ⟨rfl,hg2⟩;obtain⟨fn,tmps,assign,body,hy,hR⟩:=hY _ (eL k) W2 (hJ _ _ _ hJs hg2) (by simp only[cJ,zk]; omega);have hb2:=bel hnx hg2
     gi_wp2
     refine hR.mono ?_;rintro e W3 (⟨rfl,hJ3,hk3⟩|⟨rfl,hJx3⟩)
     ·gi_wp2
      go_roundw
      case rel=>exact⟨k+1,by omega,by simp,by rw[pL,←dh]; exact hJ3,hb2.trans hk3⟩
      case measure=>simp[intOf]; omega
     ·gi_wp2
      refine bodyPost_ret (results_none rfl _ _ _) rfl ?_;refine⟨⟨_,rfl⟩,.inr ⟨_,?_,hJx3⟩⟩;rw[dh,←pL];exact(eo _).2 ((Ma eL (by omega)).trans (d9 _ _))
    ·obtain rfl:ll=k:=by omega
     have hb5:wr.cell? ⟨bb,5,none⟩=some (.slice cbase cl cc):=by simp[World.cell?,hc hnx]
     gi_wp2
     gi_loopw [45] (fun i wr=>∃k:Nat,k≤cl∧i=.int .i64 k∧J (upE eU ul++upE eL ll++upE eC k) wr∧Below n₀ W wr)
      (fun i _=>cl-(intOf i).toNat)
     case atStart=>exact⟨0,dX _,rfl,by simpa[upE] using hJs,hnx⟩
     case round =>
      clear hJs hnx;obtain⟨k,hk,rfl,hJs,hnx⟩:=hrel
      by_cases hlt:k<cl
      ·have q0:wr.cell? ⟨bb,0,none⟩=some flo:=by simp[World.cell?,hc hnx]
       have q1:wr.cell? ⟨bb,1,none⟩=some fhi:=by simp[World.cell?,hc hnx]
       have q2:wr.cell? ⟨bb,2,none⟩=some ga:=by simp[World.cell?,hc hnx]
       have q3:wr.cell? ⟨bb,3,none⟩=some (.slice ubase ul uc):=by simp[World.cell?,hc hnx]
       have q4:wr.cell? ⟨bb,4,none⟩=some (.slice lbase ll lc):=by simp[World.cell?,hc hnx]
       have q5:wr.cell? ⟨bb,5,none⟩=some (.slice cbase cl cc):=by simp[World.cell?,hc hnx]
       have q6:wr.cell? ⟨bb,6,none⟩=some (.slice kbase kl kc):=by simp[World.cell?,hc hnx]
       have hs':=(hnx.cell (p:=⟨sb,0,none⟩) hsb).trans hs
       gi_wp2
       refine⟨trivial,(cC k hlt _ hnx).mono ?_⟩;rintro e W2 ⟨rfl,hg2⟩;obtain⟨fn,tmps,assign,body,hy,hR⟩:=hY _ (eC k) W2 (hJ _ _ _ hJs hg2) (by simp only[cJ,zk]; omega);have hb2:=bel hnx hg2
       gi_wp2
       refine hR.mono ?_;rintro e W3 (⟨rfl,hJ3,hk3⟩|⟨rfl,hJx3⟩)
       ·gi_wp2
        go_roundw
        case rel=>exact⟨k+1,by omega,by simp,by rw[pL,←dh]; exact hJ3,hb2.trans hk3⟩
        case measure=>simp[intOf]; omega
       ·gi_wp2
        refine bodyPost_ret (results_none rfl _ _ _) rfl ?_;refine⟨⟨_,rfl⟩,.inr ⟨_,?_,hJx3⟩⟩;rw[dh,←pL]
        exact by rw[dh]; exact(eo _).2 ((eo _).2 ((Ma eC (by omega)).trans (d9 _ _)))
      ·obtain rfl:cl=k:=by omega
       have hb6:wr.cell? ⟨bb,6,none⟩=some (.slice kbase kl kc):=by simp[World.cell?,hc hnx]
       gi_wp2
       gi_loopw [59] (fun i wr=>∃k:Nat,k≤kl∧i=.int .i64 k∧J ((upE eU ul++upE eL ll++upE eC cl)++upE eK k) wr∧Below n₀ W wr)
        (fun i _=>kl-(intOf i).toNat)
       case atStart=>exact⟨0,dX _,rfl,by simpa[upE] using hJs,hnx⟩
       case round =>
        clear hJs hnx;obtain⟨k,hk,rfl,hJs,hnx⟩:=hrel
        by_cases hlt:k<kl
        ·obtain⟨rfl,hlk⟩:=hkb (by omega);have hu1:=(hnx.cell (p:=⟨kb,ko+k*2,none⟩) hlk).trans (hK k hlt).1;have hu2:=(hnx.cell (p:=⟨kb,ko+k*2+1,none⟩) hlk).trans (hK k hlt).2;have ht':=(hnx.cell (p:=⟨tb,0,none⟩) htb).trans ht;have hta:∀o,(wr.alloc o).cell? ⟨tb,0,none⟩=some (.func (.func 188) #[] #[.pointer (some ⟨sb,0,none⟩)]):=fun o=>Lib.cell?_alloc_some _ ht'
         gi_wp2
         refine⟨trivial,(cK k hlt _ (bel hnx (grown_alloc _ _))).mono ?_⟩;rintro e W2 ⟨rfl,hg2⟩;obtain⟨fn,tmps,assign,body,hy,hR⟩:=hY _ (eK k) W2 (hJ _ _ _ (hJ _ _ _ hJs (grown_alloc _ _)) hg2) (by simp only[cJ,zk]; omega);have hb2:=bel (bel hnx (grown_alloc _ _)) hg2
         gi_wp2
         refine hR.mono ?_;rintro e W3 (⟨rfl,hJ3,hk3⟩|⟨rfl,hJx3⟩)
         ·gi_wp2
          go_roundw
          case rel=>exact⟨k+1,by omega,by simp,by rw[pL,←dh]; exact hJ3,hb2.trans hk3⟩
          case measure=>simp[intOf]; omega
         ·gi_wp2
          refine bodyPost_ret (results_none rfl _ _ _) rfl ?_;refine⟨⟨_,rfl⟩,.inr ⟨_,?_,hJx3⟩⟩;rw[dh,←pL,dh,dh];exact(eo _).2 ((eo _).2 ((eo _).2 (Ma eK (by omega))))
        ·obtain rfl:kl=k:=by omega
         gi_wp2
         go_end0
         exact⟨⟨_,rfl⟩,.inl ⟨_,rfl,by simpa[dh] using hJs⟩⟩
end Go.Proofs
end

noncomputable section
set_option maxRecDepth 100000
namespace Go.Proofs.ZzM
open Go Go.Am Go.RowKit
def ael (p:String):Code:=.region 10 #[{dst:=some 5,op:=.assign (.tmp 49),type:=35,pos:=p,after:=#[],guard:=none}] false
def amf (q r:String):Code:=.block 1 (.seq (.region 11 #[{dst:=some 50,op:=.move (.tmp 5),type:=35,pos:=q,after:=#[],guard:=none},{dst:=some 51,op:=.binOp .neq 35 (.tmp 50) (.const (.int .i64 0)) 35,type:=4,pos:=q,after:=#[{on:=0,ground:=.data}],guard:=none}] false)
 (.cond (.tmp 51) (.seq (.region 12 #[{dst:=some 52,op:=.move (.tmp 5),type:=35,pos:=r,after:=#[],guard:=none},{dst:=none,op:=.store 35 (.tmp 2) (.tmp 52),type:=0,pos:=r,after:=#[{on:=0,ground:=.data},{on:=0,ground:=.phase}],guard:=none}] false) .ret) .skip))
section
variable {P:Program} {F:Fence} {n:Nat}
def D1 {ops:Array Oper} {i d:Nat} {o:Oper} {u:Value} {w w':World} {a:Act} {next:Act→World→Prop} {Q:Exit→Act→World→Prop} (hF:∀f,F.fn f) (ho:ops[i]?=some o) (hg:o.guard=none) (hd:o.dst=some d) (hdf:∀c,o.op≠.defer c)
 (hrun:(execOp a.eval o).run P w=.ok (.value u) w') (k:next (a.put (some d) u) w'):wpOpIn F n P ops Q i next a w:=by
 unfold wpOpIn;rw[ho]
 have hw:Region.wanted o (yielded ops a.tmps)=true:=by simp[Region.wanted,hg]
 simp only[hw,if_true];refine⟨fun _ _=>hF _,?_⟩;rw[Oper.semAt_eq _ _ _ hdf,hrun];rw[←hd] at k;exact k
def afR {ops:Array Oper} {i:Nat} {o:Oper} {w w':World} {a:Act} {next:Act→World→Prop} {Q:Exit→Act→World→Prop} (hF:∀f,F.fn f) (ho:ops[i]?=some o) (hg:o.guard=none) (hd:o.dst=none) (hdf:∀c,o.op≠.defer c)
 (hrun:(execOp a.eval o).run P w=.ok .skip w') (k:next a w'):wpOpIn F n P ops Q i next a w:=by
 unfold wpOpIn;rw[ho]
 have hw:Region.wanted o (yielded ops a.tmps)=true:=by simp[Region.wanted,hg]
 simp only[hw,if_true];refine⟨fun _ _=>hF _,?_⟩;rw[Oper.semAt_eq _ _ _ hdf,hrun];show next (a.put o.dst undef) w';rw[hd];exact k
end
def je (T:Array Value) (i j:Nat) (v:Value):(T.setIfInBounds i v).getD j undef=if i=j∧i<T.size then v else T.getD j undef:=by
 simp only[dI,eQ]
 by_cases h:i=j
 ·subst h
  by_cases h2:i<T.size
  ·simp[h2]
  ·simp[h2]
 ·simp[h]
def aeG (D:Nat):Deferred:={target:=.collected D,args:=#[]}
structure Put1 (n₀ rb:Nat) (x:Int) (w W:World):Prop where
 os:W.os=w.os
 tape:W.tape=w.tape
 output:W.output=w.output
 size:w.heap.size≤W.heap.size
 block:∀k,k<n₀→k≠rb→W.heap[k]?=w.heap[k]?
 cell:∃e,W.heap[rb]?=some (.cells #[.int .i64 x] e (0,0))
set_option maxHeartbeats 4000000 in
def amN {a:Act} {w:World} {Q:Exit→Act→World→Prop} {lb:Array Value} {L:List Int} {rb:Nat} {e0:TypeId} {v0:Value} {p q r:String}
 (hseq:SeqStopsK Fence.wide 1 Tryz.prog 191 lb (fun x:Int=>#[.int .i64 x]) (Below w.heap.size) (fun xs=>xs=L) (fun pre=>pre <+: L) L.length w)
 (hg:a.tmps.getD 48 undef=.func (.func 191) #[] lb) (h2:a.tmps.getD 2 undef=.pointer (some ⟨rb,0,none⟩)) (hsz:78≤a.tmps.size)
 (hrb:w.heap[rb]?=some (.cells #[v0] e0 (0,0)))
 (hdone:∀D W,(∀x∈L,x=0)→Below w.heap.size w W→w.heap.size≤D→W.heap[D]?=some (.deferred (some []))→Q .normal {a with defers:=aeG D::a.defers} W)
 (hstop:∀D W x,L.find? (fun e=>e != 0)=some x→Put1 w.heap.size rb x w W→w.heap.size≤D→W.heap[D]?=some (.deferred (some []))→Q .ret {a with defers:=aeG D::a.defers} W) :
 (Code.rangeFunc (.tmp 48) #[49] (ael p) (amf q r)).wpIn Fence.wide 2 Tryz.prog Q a w:=by
 have hT:∀f,Fence.wide.fn f:=fun _=>trivial;have hrl:=ē hrb
 refine wpIn_rangeFunc_ownF (α:=Int) (encs:=fun x=>#[.int .i64 x]) (Kp:=Below w.heap.size) (S:=fun xs=>xs=L) (Sp:=fun pre=>pre <+: L) (N:=L.length) (w0:=w) rfl (by omega) hg trivial (fun args w=>?eg) hseq
  (fun h k=>h.trans k) (fun W l o o' hl ho hc hw=>belowK_b (cH _) W l o o' hl ho hc hw) (Below.refl _ _) (fun _=>rfl)
  (fun pre W=>(∀x∈pre,x=0)∧Below w.heap.size w W)
  (fun c pre W=>c=.ret∧∃pre' x,pre=pre'++[x]∧(∀x∈pre',x=0)∧x≠0∧Put1 w.heap.size rb x w W)
  ?hI ?hIx ⟨by simp,Below.refl _ _⟩ (fun x=>{tmps:=(a.tmps.setIfInBounds 49 (.int .i64 x)).setIfInBounds 5 (.int .i64 x),defers:=[]}) ?hassign ?hbody ?hdone ?hstop
 case eg=>simp[callFunc,Sem.run_bind,run_program,Result.andThen_ok,Tryz.func191,plain 191 _ Tryz.func191,show Tryz.f191.body.isNone=false from rfl]; rfl
 case hI =>
  intro s W W' row ⟨h1,h2⟩ hgr hr;exact⟨h1,hgr.os.trans h2.os,hgr.tape.trans h2.tape,hgr.output.trans h2.output,dt h2.size hgr.size,fun k hk=>(hgr.block k (dk hk h2.size) (fun e=>by have:=(hr k e.symm).1; omega)).trans (h2.block k hk)⟩
 case hIx =>
  intro c s W W' row ⟨h1,pre',x,h3,h4,h5,h6⟩ hgr hr;have hb:∀k,k<w.heap.size→W'.heap[k]?=W.heap[k]?:=fun k hk=>hgr.block k (dk hk h6.size) (fun e=>by have:=(hr k e.symm).1; omega)
  exact⟨h1,pre',x,h3,h4,h5,hgr.os.trans h6.os,hgr.tape.trans h6.tape,hgr.output.trans h6.output,dt h6.size hgr.size,fun k hk hne=>(hb k hk).trans (h6.block k hk hne),by
   obtain⟨e,he⟩:=h6.cell
   exact⟨e,(hb rb hrl).trans he⟩⟩
 case hassign =>
  intro l x W K hK
  have hf:((#[49]:Array Tmp).zip #[Value.int .i64 x]).foldl (fun t (p,v)=>t.setIfInBounds p v) a.tmps=a.tmps.setIfInBounds 49 (.int .i64 x):=by simp
  rw[hf];refine wpIn_region ?_;rw[show ∀o:Oper,List.range (#[o]:Array Oper).size=[0] from fun _=>rfl,wpOpsIn_cons];refine D1 (d:=5) (u:=.int .i64 x) (w':=W) hT rfl rfl rfl (by simp) ?_ hK;show Result.ok (Next.value ((a.tmps.setIfInBounds 49 (.int .i64 x)).getD 49 undef)) W=_;rw[je,if_pos ⟨rfl,by omega⟩]
 case hbody =>
  intro l pre x W ⟨h1,hbel⟩ hpre;refine wpIn_block (wpIn_seq (wpIn_region ?_));rw[show ∀o p:Oper,List.range (#[o,p]:Array Oper).size=[0,1] from fun _ _=>rfl,wpOpsIn_cons]
  refine D1 (d:=50) (u:=.int .i64 x) (w':=W) hT rfl rfl rfl (by simp) (by
   show Result.ok (Next.value (((a.tmps.setIfInBounds 49 (.int .i64 x)).setIfInBounds 5 (.int .i64 x)).getD 5 undef)) W=_
   rw[je,if_pos ⟨rfl,by simp; omega⟩]) ?_
  rw[wpOpsIn_cons]
  refine D1 (d:=51) (u:=.bool (x != 0)) (w':=W) hT rfl rfl rfl (by simp) (by
   show((do let u ←(do eqGuard .neq 35 (.tmp 50) (.const (.int .i64 0)) ((((a.tmps.setIfInBounds 49 (.int .i64 x)).setIfInBounds 5 (.int .i64 x)).setIfInBounds 50 (.int .i64 x)).getD 50 undef) (.int .i64 0); binOp .neq 35 ((((a.tmps.setIfInBounds 49 (.int .i64 x)).setIfInBounds 5 (.int .i64 x)).setIfInBounds 50 (.int .i64 x)).getD 50 undef) (.int .i64 0)); pure (.value u)):Sem Next).run Tryz.prog W=_;rw[je,if_pos ⟨rfl,by simp; omega⟩]
   simp[eqGuard,binOp,Op.intCmp]) ?_
  show Code.wpIn (Fence.wide.inRound l) (2-1-1) Tryz.prog (Code.cond (.tmp 51) _ .skip) _ {tmps:=((((a.tmps.setIfInBounds 49 (.int .i64 x)).setIfInBounds 5 (.int .i64 x)).setIfInBounds 50 (.int .i64 x)).setIfInBounds 51 (.bool (x != 0))),defers:=[]} W;obtain⟨T,hTd⟩:∃T,T=((((a.tmps.setIfInBounds 49 (.int .i64 x)).setIfInBounds 5 (.int .i64 x)).setIfInBounds 50 (.int .i64 x)).setIfInBounds 51 (.bool (x != 0))):=⟨_,rfl⟩;rw[←hTd]
  have t51:T.getD 51 undef=.bool (x != 0):=by rw[hTd,je,if_pos ⟨rfl,by simp; omega⟩]
  have t5:T.getD 5 undef=.int .i64 x:=by rw[hTd,je,if_neg (by simp),je,if_neg (by simp),je,if_pos ⟨rfl,by simp; omega⟩]
  have t2:T.getD 2 undef=.pointer (some ⟨rb,0,none⟩):=by rw[hTd,je,if_neg (by simp),je,if_neg (by simp),je,if_neg (by simp),je,if_neg (by simp),h2]
  have tsz:78≤T.size:=by rw[hTd]; simpa using hsz
  clear hTd
  by_cases hx:x=0
  ·have e51:Act.eval {tmps:=T,defers:=[]} (.tmp 51)=.bool false:=t51.trans (by simp[hx]);refine wpIn_cond_false e51 (wpIn_skip ?_);simp only[Exit.inBlock,ownPostK];exact⟨KeepsOthers.refl _,Below.refl _ _,fun y hy=>(cN.1 hy).elim (h1 y) (fun h=>by rw[cR] at h; rw[h,hx]),hbel⟩
  ·have e51:Act.eval {tmps:=T,defers:=[]} (.tmp 51)=.bool true:=t51.trans (by simp[hx]);refine wpIn_cond_true e51 (wpIn_seq (wpIn_region ?_));rw[show ∀o p:Oper,List.range (#[o,p]:Array Oper).size=[0,1] from fun _ _=>rfl,wpOpsIn_cons]
   have e5:(execOp (Act.eval {tmps:=T,defers:=[]}) {dst:=some 52,op:=.move (.tmp 5),type:=35,pos:=r,after:=#[],guard:=none}).run Tryz.prog W=.ok (.value (.int .i64 x)) W:=by
    show Result.ok (Next.value (T.getD 5 undef)) W=_;rw[t5]
   refine D1 (d:=52) (u:=.int .i64 x) (w':=W) hT rfl rfl rfl (by simp) e5 ?_;rw[wpOpsIn_cons];have hW:W.heap[rb]?=some (.cells #[v0] e0 (0,0)):=(hbel.block rb hrl).trans hrb
   letI:ó:=⟨fun _=>False,[],none⟩
   have hst:=pO (P:=Tryz.prog) (w:=W) (t:=35) (u:=.int .i64 x) (n:=1) (b:=rb) (o:=0) (by kernel_rfl) rfl hW (by simp) (by simp[Value.cells,Value.oneCell'])
   have hst':(storeVar 35 ⟨rb,0,none⟩ (.int .i64 x)).run Tryz.prog W=.ok () (W.setRow rb #[.int .i64 x]):=by simpa[Value.cells] using hst
   have t52:(T.setIfInBounds 52 (.int .i64 x)).getD 52 undef=.int .i64 x:=by rw[je,if_pos ⟨rfl,by omega⟩]
   have t2':(T.setIfInBounds 52 (.int .i64 x)).getD 2 undef=.pointer (some ⟨rb,0,none⟩):=by rw[je,if_neg (by simp),t2]
   have e6:(execOp (Act.eval {tmps:=T.setIfInBounds 52 (.int .i64 x),defers:=[]}) {dst:=none,op:=.store 35 (.tmp 2) (.tmp 52),type:=0,pos:=r,after:=#[{on:=0,ground:=.data},{on:=0,ground:=.phase}],guard:=none}).run Tryz.prog W=.ok .skip (W.setRow rb #[.int .i64 x]):=by
    show((do Instr.storeAt 35 ((T.setIfInBounds 52 (.int .i64 x)).getD 2 undef) ((T.setIfInBounds 52 (.int .i64 x)).getD 52 undef); pure .skip):Sem Next).run Tryz.prog W=_;rw[t52,t2'];simp[Instr.storeAt,Instr.sureAddr,hst']
   refine afR (w':=W.setRow rb #[.int .i64 x]) hT rfl rfl rfl (by simp) e6 ?_;refine wpIn_ret ?_;simp only[Exit.inBlock,ownPostK];refine⟨⟨by simp,fun k o hk ho=>?_⟩,trivial,pre,x,rfl,h1,hx,hbel.os,hbel.tape,hbel.output,by simpa using hbel.size,fun k hk hne=>(setRow_other _ _ _ _ hne).trans (hbel.block k hk),⟨_,setRow_heap _ _ _ _ _ _ hW⟩⟩
   by_cases hk2:k=rb
   ·subst hk2; rw[hW] at hk; cases hk; simp[Obj.isCells] at ho
   ·rw[setRow_other _ _ _ _ hk2]; exact hk
 case hdone =>
  intro D xs W hD hS ⟨h1,hbel⟩ hDo;subst hS;exact hdone D W h1 hbel hD hDo
 case hstop =>
  intro D c pre W hD hS ⟨hc,pre',x,h3,h4,h5,h6⟩ hDo;subst hc;refine wpIn_ret (hstop D W x ?_ h6 hD hDo);obtain⟨t,rfl⟩:=hS;rw[h3,dh,List.find?_append]
  have:List.find? (fun e=>e != 0) pre'=none:=ee.2 fun y hy=>by simp[h4 y hy]
  rw[this];simp[h5]
end Go.Proofs.ZzM
end

noncomputable section
set_option maxRecDepth 100000
namespace Go.Proofs.ZzM
open Go Go.Am Go.RowKit
def fstC:Code→Code
 |.seq a _=>a
 |c=>c
def sndC:Code→Code
 |.seq _ b=>b
 |c=>c
def ahV:Nat→Code→Code
 |0,c=>fstC c
 |n+1,c=>ahV n (sndC c)
def alr:Nat→Code→Code
 |0,c=>c
 |n+1,c=>alr n (sndC c)
def ckB:Code:=Tryz.f66.body.getD .skip
def ckA5:Code:=fstC (alr 5 ckB |> fstC)
def ckRF:Code:=sndC (alr 5 ckB |> fstC)
def Uv:Code:=sndC (alr 5 ckB)
def ckPre:Code:=.seq (ahV 0 ckB) (.seq (ahV 1 ckB) (.seq (ahV 2 ckB) (.seq (ahV 3 ckB) (.seq (ahV 4 ckB) ckA5))))
def amx:Tryz.f66.body=some (.seq (ahV 0 ckB) (.seq (ahV 1 ckB) (.seq (ahV 2 ckB) (.seq (ahV 3 ckB) (.seq (ahV 4 ckB) (.seq (.seq ckA5 ckRF) Uv)))))):=by kernel_rfl
def ck_pt:List (Nat×Ø):=[(135,DZ),(133,Cn),(131,rV),(132,wU)]
def ckE (ρ:Type):Env ρ:=Ù ck_pt []
abbrev ckR:Type:=Int ⊕ (List AV×List Blk)
def ai9 (S:St):Option Int:=match oJ Tryz.prog Tryz.f66 S with
 |some v=>ą [tI] S.h v
 |none=>none
def ckK (e:Exit) (S:St):Option ckR:=match e with
 |.ret=>match ai9 S with
  |some n=>some (.inl n)
  |none=>none
 |.normal=>match decide (78≤S.t.length) with
  |true=>some (.inr ([lk S.t 1,lk S.t 2,lk S.t 48],S.h))
  |false=>none
 |_=>none
def ckH (x:Val Ä) (s:Val (.map tI Ð)) (n:Int):List Blk :=
 [.cells (flat Ä x),.cells [.int .i64 n],.cells (flat Ä x),.cells [.mp tI Ð s],.cells [.fn (.func 188) [] [.box 3 0]]]
def ckM (x:Val Ä):Option ckR :=
 Ã (Η x.1 (0:Int) (1000000:Int)) fun r1=>ifb (!r1) (some (.inl 1)) (ifb (igt (Ý x.2.1) (12:Int)) (some (.inl 2)) (ifb (igt (Ý x.2.2.1) (40:Int)) (some (.inl 2)) (ifb (igt (Ý x.2.2.2.1) (12:Int)) (some (.inl 2)) (ifb (igt (Ý x.2.2.2.2.1) (40:Int)) (some (.inl 2)) (ifb (igt (Ý x.2.2.2.2.2) (10:Int)) (some (.inl 2))
  (Ã (Ŷ x) fun r2=>ifb (ine r2 (0:Int)) (some (.inl r2)) (Ã (Ω x) fun r3=>some (.inr ([.box 0 0,.box 1 0,.fn (.func 191) [] [.box 2 0,.box 4 0,.box 3 0]],ckH x r3 0)))))))))
def ck_pre (x:Val Ä):goC (ckE ckR) (jD (ckE ckR) 10) 66 [] 0 0 ckPre {t:=ÿ [Ä] x++List.replicate 77 .any,h:=[]} ckK=ckM x:=by kernel_rfl
def alE (ρ:Type):Env ρ:={ckE ρ with inl:=fun _=>false}
def ckS (x:Val Ä):Option Int :=
 Ã (pB x) fun r5=>ifb (igt (Ý r5) (59:Int)) (some (2:Int)) (ck ((2:Int)*(Ý x.2.1)) fun n6=>ck ((Ý r5)-(Ý x.2.1)) fun n7=>ck ((2:Int)*n7) fun n8=>ck (n6+n8) fun n9=>ck ((2:Int)*(Ý x.2.2.2.2.1)) fun n10=>ck (n9+n10) fun n11=>ifb (igt n11 (300:Int)) (some (2:Int)) (some (0:Int)))
def ckK2 (e:Exit) (S:St):Option Int:=match e with
 |.ret=>match lk S.t 2 with
  |.box 1 0=>match lkB S.h 1 with
   |.cells [.int .i64 n]=>some n
   |_=>none
  |_=>none
 |_=>none
def ck_suf (x:Val Ä) (s:Val (.map tI Ð)):goC (alE Int) (jD (alE Int) 10) 66 [] 0 0 Uv {t:=[.any,.box 0 0,.box 1 0]++List.replicate 75 .any,h:=ckH x s 0} ckK2=ckS x:=by kernel_rfl
def alD (x:Val Ä):û x=match ckM x with
 |none=>none
 |some (.inl n)=>some n
 |some (.inr _)=>Ã (Ω x) fun s=>Yy (mU x s) some (ckS x):=by
 unfold û PR ckM ckS
 cases Η x.1 (0:Int) (1000000:Int) with
 |none=>rfl
 |some r1 =>
 cases r1 with
 |false=>rfl
 |true =>
 simp only[Ã,ifb,dY]
 cases igt (Ý x.2.1) (12:Int) with
 |true=>rfl
 |false =>
 cases igt (Ý x.2.2.1) (40:Int) with
 |true=>rfl
 |false =>
 cases igt (Ý x.2.2.2.1) (12:Int) with
 |true=>rfl
 |false =>
 cases igt (Ý x.2.2.2.2.1) (40:Int) with
 |true=>rfl
 |false =>
 cases igt (Ý x.2.2.2.2.2) (10:Int) with
 |true=>rfl
 |false =>
 cases Ŷ x with
 |none=>rfl
 |some r2 =>
 simp only
 cases ine r2 (0:Int) with
 |true=>rfl
 |false =>
 cases Ω x with
 |none=>rfl
 |some r3=>rfl
def ans {x:Val Ä} {q:List AV×List Blk} (h:ckM x=some (.inr q)):((x.2.2.1:List (Val Â)).length≤1000∧(x.2.2.2.1:List (Val ņ)).length≤1000∧(x.2.2.2.2.1:List (Val Ì)).length≤1000∧(x.2.2.2.2.2:List (Val Â)).length≤1000) ∧
 ∃s,Ω x=some s∧q=([.box 0 0,.box 1 0,.fn (.func 191) [] [.box 2 0,.box 4 0,.box 3 0]],ckH x s 0):=by
 unfold ckM at h
 cases h0:Η x.1 (0:Int) (1000000:Int) with
 |none=>rw[h0] at h; cases h
 |some r1 =>
 rw[h0] at h
 cases r1 with
 |false=>cases h
 |true =>
 simp only[Ã,ifb,dY] at h
 cases h1:igt (Ý x.2.1) (12:Int) with
 |true=>rw[h1] at h; cases h
 |false =>
 rw[h1] at h
 cases h2:igt (Ý x.2.2.1) (40:Int) with
 |true=>rw[h2] at h; cases h
 |false =>
 rw[h2] at h
 cases h3:igt (Ý x.2.2.2.1) (12:Int) with
 |true=>rw[h3] at h; cases h
 |false =>
 rw[h3] at h
 cases h4:igt (Ý x.2.2.2.2.1) (40:Int) with
 |true=>rw[h4] at h; cases h
 |false =>
 rw[h4] at h
 cases h5:igt (Ý x.2.2.2.2.2) (10:Int) with
 |true=>rw[h5] at h; cases h
 |false =>
 rw[h5] at h
 cases h6:Ŷ x with
 |none=>rw[h6] at h; cases h
 |some r2 =>
 rw[h6] at h;simp only at h
 cases h7:ine r2 (0:Int) with
 |true=>rw[h7] at h; cases h
 |false =>
 rw[h7] at h
 cases h8:Ω x with
 |none=>rw[h8] at h; cases h
 |some r3 =>
 rw[h8] at h
 have lt:∀{α:Type} (l:List α) (n:Nat),igt (Ý l) (n:Int)=false→l.length≤n:=by
  intro α l n h;unfold Ý at h;rw[Nu] at h;simp only[igt,gt_iff_lt,decide_eq_false_iff_not] at h;omega
 simp only[Option.some.injEq,Sum.inr.injEq] at h;exact⟨⟨by have:=lt x.2.2.1 40 h2; omega,by have:=lt x.2.2.2.1 12 h3; omega,by have:=lt x.2.2.2.2.1 40 h4; omega,by have:=lt x.2.2.2.2.2 10 h5; omega⟩,r3,rfl,h.symm⟩
def D9 {α β:Type} {f:α→Option β}:∀{l:List α} {m:List β},Ny f l=some m→m.length=l.length∧∀(i:Nat) (a:α),l[i]?=some a→∃b,m[i]?=some b∧f a=some b
 |[],m,h=>by cases h; exact⟨rfl,fun i a ha=>by simp at ha⟩
 |a::l,m,h=>by
  unfold Ny at h
  cases ha:f a with
  |none=>rw[ha] at h; cases h
  |some b =>
   rw[ha] at h
   cases hl:Ny f l with
   |none=>rw[hl] at h; cases h
   |some m' =>
    rw[hl] at h;cases h;obtain⟨h1,h2⟩:=D9 hl;refine⟨by simp[h1],fun i c hc=>?_⟩
    cases i with
    |zero=>simp at hc; subst hc; exact⟨b,by simp,ha⟩
    |succ i=>simpa using h2 i c (by simpa using hc)
def Mb (l:List Int):upE (fun j=>l[j]?.getD 0) l.length=l:=by
 unfold upE;refine List.ext_getElem (by simp) fun i h1 h2=>?_;simp at h1;simp[h1]
def CR.below {n₀:Nat} {w W:World} {av:Nat→Prop} (hb:Below n₀ w W) (hn:w.heap.size≤n₀) {t:Ty} {x:Val t} {vs:List Value} (h:CR w av t x vs):CR W av t x vs :=
 h.keep fun b hlt ha=>⟨hb.block b (dk hlt hn),ha⟩
def MS {w:World} {av:Nat→Prop} {xs:List (Int×Int)} {v:Value} (h:CR w av (.slice Â) xs [v]):∃base cap b off,v=.slice base xs.length cap∧(0<xs.length→base=some ⟨b,off,none⟩∧b<w.heap.size) ∧
 ∀j,j<xs.length→w.cell? ⟨b,off+j*2,none⟩=some (.int .i64 (xs[j]?.getD (0,0)).1)∧w.cell? ⟨b,off+j*2+1,none⟩=some (.int .i64 (xs[j]?.getD (0,0)).2):=by
 obtain⟨base,cap,e,hc,hx⟩:=h;cases e;rcases hx with hx|⟨b,off,hb,hav,hlt,hx⟩
 ·refine⟨base,cap,0,0,rfl,fun h=>?_,fun j hj=>?_⟩
  ·rw[show xs=[] from hx] at h; simp at h
  ·rw[show xs=[] from hx] at hj; simp at hj
 ·refine⟨base,cap,b,off,rfl,fun _=>⟨hb,hlt⟩,fun j hj=>?_⟩;obtain⟨us,h1,h2⟩:=hx j xs[j] (cG hj);obtain⟨u1,u2,e1,h3,h4⟩:=h1;have e3:u1=[.int .i64 xs[j].1]:=h3;have e4:u2=[.int .i64 xs[j].2]:=h4;subst e3 e4 e1;have s:(Â).size=2:=rfl;rw[s] at h2;have c1:=h2 0 _ rfl;have c2:=h2 1 _ rfl;rw[cG hj];exact⟨by simpa using c1,by simpa[eP] using c2⟩
end Go.Proofs.ZzM
end

noncomputable section
set_option maxRecDepth 100000
namespace Go.Proofs.ZzM
open Go Go.Am Go.RowKit
section
variable {w W W':World}
abbrev noG:Nat→Prop:=fun _=>False
def Xi (w:World) (n:Int):ka w noG tI n (.int .i64 n):=⟨[.int .i64 n],rfl,rfl⟩
def am3 {sb:Nat} {mv:Value} {e:TypeId} {s:Val (.map tI Ð)} (h:w.heap[sb]?=some (.cells #[mv] e (0,0))) (hm:CR w noG (.map tI Ð) s [mv]):ka w noG (.ptr (.map tI Ð)) s (.pointer (some ⟨sb,0,none⟩)):=by
 letI:ó:=⟨fun _=>False,[],none⟩
 exact⟨[.pointer (some ⟨sb,0,none⟩)],⟨sb,0,[mv],rfl,id,ē h,hm,ń.of_cells h⟩,rfl⟩
def amO {y:Int} {u:Value} (h:RR w noG [tI] y u):u=.int .i64 y:=by
 obtain⟨us,h1,rfl⟩:=h;have:us=[.int .i64 y]:=h1;rw[this]; rfl
def alf (h1:∀b,b<W.heap.size→W'.heap[b]?=W.heap[b]?) (h2:W.heap.size≤W'.heap.size) (h3:W'.os=W.os) (h4:W'.tape=W.tape) (h5:W'.output=W.output):W.grownBy W' none :=
 ⟨h3,h4,h5,h2,fun b hb _=>h1 b hb⟩
def XA {f:Nat} {p:Ø} (hp:Ï Tryz.prog f p) (hrs:p.rs=[tI]) {x:Val (tyL p.ts)} {y:Int} (hF:p.F x=some (hrs▸(show Val (tyL [tI]) from y))) {vals:List Value} (ha:AL W noG p.ts x vals) :
 CallsIn Fence.wide 0 Tryz.prog f vals.toArray W fun e W''=>e=.returned (.int .i64 y)∧W.grownBy W'' none:=by
 obtain⟨ts,rs,F⟩:=p;dsimp only at hrs hF ha x;subst hrs;refine(hp noG x y hF W vals (fun _ h=>h.elim) ha).2.mono fun e w' ⟨u,h0,h1,h2,h3,h4,h5,h6⟩=>⟨?_,alf h2 h3 h4 h5 h6⟩;rw[h0,amO h1]
def X4 {s:Val (.map tI Ð)} {a b y:Int} (hF:ļ a b s=some y) {sb:Nat} {mv:Value} {e:TypeId} (h:W.heap[sb]?=some (.cells #[mv] e (0,0))) (hm:CR W noG (.map tI Ð) s [mv]) :
 CallsIn Fence.wide 0 Tryz.prog 188 #[.int .i64 a,.int .i64 b,.pointer (some ⟨sb,0,none⟩)] W fun e W''=>e=.returned (.int .i64 y)∧W.grownBy W'' none :=
 XA adG rfl (x:=(a,b,s)) (y:=y) hF (vals:=[.int .i64 a,.int .i64 b,.pointer (some ⟨sb,0,none⟩)]) ⟨_,_,rfl,Xi _ _,_,_,rfl,Xi _ _,_,rfl,am3 h hm⟩
def ah8 {mv:Value} {s:Val (.map tI Ð)} (hm:CR W noG (.map tI Ð) s [mv]):ka W noG (.map tI Ð) s mv:=⟨[mv],hm,rfl⟩
def afk {x:Val Ä} {cs:Array Value} (hb:CR W noG Ä x cs.toList):ka W noG Ä x (.agg cs):=⟨cs.toList,hb,by show Value.agg cs=Value.agg cs.toList.toArray; rw[Array.toArray_toList]⟩
def aik {x:Val Ä} {s:Val (.map tI Ð)} {i y:Int} (hF:Ν x s i=some y) {mv:Value} {cs:Array Value} (hb:CR W noG Ä x cs.toList) (hm:CR W noG (.map tI Ð) s [mv]) :
 CallsIn Fence.wide 0 Tryz.prog 192 #[.agg cs,mv,.int .i64 i] W fun e W''=>e=.returned (.int .i64 y)∧W.grownBy W'' none :=
 XA XI rfl (x:=(x,s,i)) (y:=y) hF (vals:=[.agg cs,mv,.int .i64 i]) ⟨_,_,rfl,afk hb,_,_,rfl,ah8 hm,_,rfl,Xi _ _⟩
def abe {x:Val Ä} {s:Val (.map tI Ð)} {i y:Int} (hF:Ł x s i=some y) {mv:Value} {cs:Array Value} (hb:CR W noG Ä x cs.toList) (hm:CR W noG (.map tI Ð) s [mv]) :
 CallsIn Fence.wide 0 Tryz.prog 193 #[.agg cs,mv,.int .i64 i] W fun e W''=>e=.returned (.int .i64 y)∧W.grownBy W'' none :=
 XA L6 rfl (x:=(x,s,i)) (y:=y) hF (vals:=[.agg cs,mv,.int .i64 i]) ⟨_,_,rfl,afk hb,_,_,rfl,ah8 hm,_,rfl,Xi _ _⟩
end
def oH {w:World} {av:Nat→Prop} {t:Ty} {xs:List (Val t)} {vs:List Value} (h:CR w av (.slice t) xs vs):∃base cap,vs=[.slice base xs.length cap]:=by
 obtain⟨base,cap,e,_⟩:=h;exact⟨base,cap,e⟩
def akC {x:Val Ä} {s:Val (.map tI Ð)} {l1 l2 l3 l4:List Int} (h1:Ny (fun u=>ļ u.1 u.2 s) (x.2.2.1:List (Int×Int))=some l1) (h2:Ny (fun i=>Ν x s i) (wF (x.2.2.2.1:List (Val ņ)).length)=some l2)
 (h3:Ny (fun i=>Ł x s i) (wF (x.2.2.2.2.1:List (Val Ì)).length)=some l3) (h4:Ny (fun u=>ļ u.1 u.2 s) (x.2.2.2.2.2:List (Int×Int))=some l4)
 (hlen:(x.2.2.1:List (Val Â)).length≤1000∧(x.2.2.2.1:List (Val ņ)).length≤1000∧(x.2.2.2.2.1:List (Val Ì)).length≤1000∧(x.2.2.2.2.2:List (Val Â)).length≤1000)
 {w:World} {bb tb sb:Nat} {te te2 te3:TypeId} {cb:Array Value} {mv:Value} (hbb:w.heap[bb]?=some (.cells cb te (0,0))) (hbk:CR w noG Ä x cb.toList) (htb:w.heap[tb]?=some (.cells #[.func (.func 188) #[] #[.pointer (some ⟨sb,0,none⟩)]] te2 (0,0)))
 (hsb:w.heap[sb]?=some (.cells #[mv] te3 (0,0))) (hmv:CR w noG (.map tI Ð) s [mv]) :
 SeqStopsK Fence.wide 1 Tryz.prog 191 #[.pointer (some ⟨bb,0,none⟩),.pointer (some ⟨tb,0,none⟩),.pointer (some ⟨sb,0,none⟩)] (fun x:Int=>#[.int .i64 x]) (Below w.heap.size) (fun xs=>xs=l1++(l2++(l3++l4))) (fun pre=>pre <+: (l1++(l2++(l3++l4)))) (l1++(l2++(l3++l4))).length w:=by
 intro l J Jx W hbel hJ hJx hY h0;obtain⟨fl,r0,e0,hfl,hr0⟩:=id hbk;obtain⟨ga,r1,e1,hga,hr1⟩:=hr0;obtain⟨us,r2,e2,hus,hr2⟩:=hr1;obtain⟨lo,r3,e3,hlo,hr3⟩:=hr2;obtain⟨co,ko,e4,hco,hko⟩:=hr3;obtain⟨f1,f2,e5,hf1,hf2⟩:=hfl;have e6:f1=[.int .i64 x.1.1]:=hf1;have e7:f2=[.int .i64 x.1.2]:=hf2;obtain⟨gab,gac,e8⟩:=oH hga;obtain⟨lob,loc,e9⟩:=oH hlo;obtain⟨cob,coc,e10⟩:=oH hco;obtain⟨usb0,usc0,e11⟩:=oH hus;obtain⟨kob0,koc0,e12⟩:=oH hko;rw[e11] at hus;rw[e12] at hko;obtain⟨usb,usc,ub,uo,e13,hub,hU⟩:=MS hus;obtain⟨kob,koc,kb,kof,e14,hkb,hK⟩:=MS hko;rw[e13] at e11;rw[e14] at e12
 have hcb:cb=#[.int .i64 x.1.1,.int .i64 x.1.2,.slice gab (x.2.1:List (Val Ð)).length gac,.slice usb (x.2.2.1:List (Val Â)).length usc,.slice lob (x.2.2.2.1:List (Val ņ)).length loc,.slice cob (x.2.2.2.2.1:List (Val Ì)).length coc,.slice kob (x.2.2.2.2.2:List (Val Â)).length koc]:=by
  rw[←dM,e0,e1,e2,e3,e4,e5,e6,e7,e8,e9,e10,e11,e12];rfl
 obtain⟨g1,q1⟩:=D9 h1;obtain⟨g2,q2⟩:=D9 h2;obtain⟨g3,q3⟩:=D9 h3;obtain⟨g4,q4⟩:=D9 h4
 have gl2:l2.length=(x.2.2.2.1:List (Val ņ)).length:=by rw[g2]; simp[wF]
 have gl3:l3.length=(x.2.2.2.2.1:List (Val Ì)).length:=by rw[g3]; simp[wF]
 have up1:upE (fun j=>l1[j]?.getD 0) (x.2.2.1:List (Val Â)).length=l1:=by rw[←g1]; exact Mb l1
 have up2:upE (fun j=>l2[j]?.getD 0) (x.2.2.2.1:List (Val ņ)).length=l2:=by rw[←gl2]; exact Mb l2
 have up3:upE (fun j=>l3[j]?.getD 0) (x.2.2.2.2.1:List (Val Ì)).length=l3:=by rw[←gl3]; exact Mb l3
 have up4:upE (fun j=>l4[j]?.getD 0) (x.2.2.2.2.2:List (Val Â)).length=l4:=by rw[←g4]; exact Mb l4
 have at1:∀{xs:List (Int×Int)} {ls:List Int},(∀(i:Nat) (a:Int×Int),xs[i]?=some a→∃b,ls[i]?=some b∧ļ a.1 a.2 s=some b)→∀j,j<xs.length→ļ (xs[j]?.getD (0,0)).1 (xs[j]?.getD (0,0)).2 s=some (ls[j]?.getD 0):=by
  intro xs ls hq j hj;obtain⟨b,hb,hf⟩:=hq j xs[j] (cG hj);rw[cG hj,hb];exact hf
 have at2:∀{n:Nat} {ls:List Int} {f:Int→Option Int},(∀(i:Nat) (a:Int),(wF n)[i]?=some a→∃b,ls[i]?=some b∧f a=some b)→∀j,j<n→f (j:Int)=some (ls[j]?.getD 0):=by
  intro n ls f hq j hj;obtain⟨b,hb,hf⟩:=hq j j (by simp[wF,hj]);rw[hb]; exact hf
 have hbel':∀{W':World},Below w.heap.size W W'→Below w.heap.size w W':=fun h=>hbel.trans h;have hcell:∀{W':World} {p:Addr} {v:Value},Below w.heap.size w W'→w.cell? p=some v→p.block<w.heap.size→W'.cell? p=some v:=fun {W'} {p} {v} h hc hp=>(h.cell (p:=p) hp).trans hc;have lb:=ē hbb;have lt:=ē htb;have ls:=ē hsb
 have:=akM te 1 (by omega) l w.heap.size bb tb sb (.int .i64 x.1.1) (.int .i64 x.1.2) (.slice gab (x.2.1:List (Val Ð)).length gac) mv lb lt ls
  ub uo (x.2.2.1:List (Val Â)).length usc kb kof (x.2.2.2.2.2:List (Val Â)).length koc usb kob lob cob (x.2.2.2.1:List (Val ņ)).length loc (x.2.2.2.2.1:List (Val Ì)).length coc hub hkb
  (fun j=>(x.2.2.1:List (Int×Int))[j]?.getD (0,0)) (fun j=>(x.2.2.2.2.2:List (Int×Int))[j]?.getD (0,0)) (fun j=>l1[j]?.getD 0) (fun j=>l2[j]?.getD 0) (fun j=>l3[j]?.getD 0) (fun j=>l4[j]?.getD 0)
  hlen.1 hlen.2.1 hlen.2.2.1 hlen.2.2.2 W ((hbel.block bb lb).trans (by rw[hbb,hcb])) (hcell hbel (by simp[World.cell?,htb]) lt) (hcell hbel (by simp[World.cell?,hsb]) ls)
  (fun j hj=>⟨hcell hbel (hU j hj).1 (hub (by omega)).2,hcell hbel (hU j hj).2 (hub (by omega)).2⟩) (fun j hj=>⟨hcell hbel (hK j hj).1 (hkb (by omega)).2,hcell hbel (hK j hj).2 (hkb (by omega)).2⟩)
  (fun j hj W' hW=>X4 (at1 q1 j hj) (((hbel' hW).block sb ls).trans hsb) (CR.below (hbel' hW) (cH _) hmv))
  (fun j hj W' hW=>X4 (at1 q4 j hj) (((hbel' hW).block sb ls).trans hsb) (CR.below (hbel' hW) (cH _) hmv))
  (fun j hj W' hW=>aik (at2 q2 j hj) (by have:=CR.below (hbel' hW) (cH _) hbk; rwa [hcb] at this) (CR.below (hbel' hW) (cH _) hmv))
  (fun j hj W' hW=>abe (at2 q3 j hj) (by have:=CR.below (hbel' hW) (cH _) hbk; rwa [hcb] at this) (CR.below (hbel' hW) (cH _) hmv))
  J Jx (fun pre W1 W2 hj hg=>hJ pre W1 W2 none hj hg (fun r e=>by cases e)) (fun pre W1 W2 hj hg=>hJx pre W1 W2 none hj hg (fun r e=>by cases e))
  (fun pre y W1 hj hl=>hY pre y W1 hj (by simp only[cJ]; omega)) h0 hbel.size
 rw[up1,up2,up3,up4] at this;exact this
end Go.Proofs.ZzM
end

noncomputable section
set_option maxRecDepth 100000
namespace Go.Proofs.ZzM
open Go Go.Am Go.RowKit
section
variable [ó] {ρ:Type} {ν:Nat→Value} {w:World}
def peel (hq:ó.Q=none) {E:Env ρ} {call:List Nat→Bool→Nat→List AV→List Blk→(AV→List Blk→Option ρ)→Option ρ} {L:Nat} (hE:kY E L call) (hD:lz E L call) (hj:E.joins=fun _ _ _ _=>none) {fid:Nat} {path:List Nat} (hp:path.length+2=L) {x y c:Code} {bid n:Nat} {S:St} {K:Exit→St→Option ρ} {r:ρ} {a:Act} {Q:Exit→Act→World→Prop}
 (hL:∀z∈í bid x,nF E path fid z.1 z.2) (e:goC E call fid path 0 bid (.seq x y) S K=some r) (H:Sim ν S a w)
 (hn:∀ν' S' a' w',Sim ν' S' a' w'→Ev 0 ν S.h w ν' S'.h w'→goC E call fid path 0 bid y S' K=some r→c.wpIn Fence.wide n E.P Q a' w')
 (hx:∀ν' S' a' w' e,e≠.normal→Sim ν' S' a' w'→Ev 0 ν S.h w ν' S'.h w'→K e S'=some r→Q e a' w'):(Code.seq x c).wpIn Fence.wide n E.P Q a w:=by
 simp only[goC,hj] at e;have hgo:=kM hE hD hp x bid S _ ν a w hL e H (dX _);rw[GF hq] at hgo;refine wpIn_seq (wpIn_wide.2 (wpIn_wide.1 (wpIn_mono hgo fun e' a' w' ha=>?_)));obtain⟨ν',S',h1,h2,h3,h4,h5⟩:=ha
 cases e' with
 |normal=>exact hn ν' S' a' w' h1 h2 h5
 |exit id=>exact hx ν' S' a' w' _ (by simp) h1 h2 h5
 |goto l=>exact hx ν' S' a' w' _ (by simp) h1 h2 h5
 |ret=>exact hx ν' S' a' w' _ (by simp) h1 h2 h5
 |panic ch=>exact hx ν' S' a' w' _ (by simp) h1 h2 h5
 |outgrown=>exact hx ν' S' a' w' _ (by simp) h1 h2 h5
end
def ahB {T:Array Value} {rb:Nat} {n:Int} {e:TypeId} {W:World} (h2:T.getD 2 undef=.pointer (some ⟨rb,0,none⟩)) (hc:W.heap[rb]?=some (.cells #[.int .i64 n] e (0,0))):(results Tryz.f66 T).run Tryz.prog W=.ok (.int .i64 n) W:=by
 letI:ó:=⟨fun _=>False,[],none⟩
 have hl:(loadVar 35 ⟨rb,0,none⟩).run Tryz.prog W=.ok (.int .i64 n) W:=by
  have:=tE (P:=Tryz.prog) (w:=W) (t:=35) (agg:=false) (n:=1) (by kernel_rfl) (us:=[.int .i64 n]) rfl (fun _=>rfl) (a:=⟨rb,0,none⟩) (fun j v hj=>by
   have:=ń.of_cells hc j v (by simpa using hj)
   cases j with
   |zero=>simpa[Addr.add] using this
   |succ j=>simp at hj)
  exact this
 have hr:Tryz.f66.results=#[.cell 2 35]:=by kernel_rfl
 unfold results;rw[hr,Array.mapM_eq_mapM_toList];simp only[Sem.run_bind,Sem.run_map,List.mapM_cons,List.mapM_nil,h2,asAddr,Sem.run_pure,Result.andThen_ok,hl];rfl
def HR_ghost {G:Nat→Prop} {D D':List Deferred} {Q Q':Option Nat} {ν:Nat→Value} {h:List Blk} {w:World} (H:@HR ⟨G,D,Q⟩ ν h w):@HR ⟨G,D',Q'⟩ ν h w :=
 @HR.mk ⟨G,D',Q'⟩ ν h w (@HR.blk ⟨G,D,Q⟩ ν h w H) (@HR.inj ⟨G,D,Q⟩ ν h w H) (@HR.ghlt ⟨G,D,Q⟩ ν h w H) (@HR.ghne ⟨G,D,Q⟩ ν h w H)
def anA [ó] {ν:Nat→Value} {h:List Blk} {w:World} {x:Val Ä} {us:List Value} (hv:ă (VRc ν h w) (flat Ä x) us):CR w noG Ä x us:=by
 have h1:â Ä (flat Ä x)=some x:=rfl;have h2:ă (VRs w (Av ν h)) (flat Ä x) us:=hv.mono fun c u hu=>hu.1.data;exact CR.mono (fun _ hf=>hf.elim) (Ũ h1 h2)
def B6 (G:Nat→Prop) (y:Int) (w:World) (e:Ending) (w':World):Prop :=
 ∃u,e=.returned u∧RR w' G [tI] y u∧(∀b,b<w.heap.size→w'.heap[b]?=w.heap[b]?)∧w.heap.size≤w'.heap.size∧w'.os=w.os∧w'.tape=w.tape∧w'.output=w.output
def ae8 {G:Nat→Prop} {y:Int} {w0 w:World} {a:Act} {D rb:Nat} {e:TypeId} (hd:a.defers=[aeG D]) (hD:w.heap[D]?=some (.deferred (some []))) (h2:a.tmps.getD 2 undef=.pointer (some ⟨rb,0,none⟩)) (hc:w.heap[rb]?=some (.cells #[.int .i64 y] e (0,0)))
 (hb:∀b,b<w0.heap.size→w.heap[b]?=w0.heap[b]?) (hDl:w0.heap.size≤D) (hsz:w0.heap.size≤w.heap.size) (h3:w.os=w0.os) (h4:w.tape=w0.tape) (h5:w.output=w0.output):LeavesInM Fence.wide 2 Tryz.prog Tryz.f66 a.tmps (B6 G y w0) a.defers .returning w:=by
 rw[hd]
 have hne:rb≠D:=fun h=>by rw[h,hD] at hc; cases hc
 have ho:∀b,b≠D→(w.putObj D (.deferred none)).heap[b]?=w.heap[b]?:=fun b hb=>by
  simp only[World.putObj,eQ];rw[if_neg (fun h=>hb h.symm)]
 refine⟨by simp,.inl ⟨D,_,rfl,run_takeDeferred hD,?_⟩⟩;refine⟨.int .i64 y,ahB h2 ((ho rb hne).trans hc),.int .i64 y,rfl,⟨[.int .i64 y],rfl,rfl⟩,fun b hlt=>(ho b (by omega)).trans (hb b hlt),by simpa[World.putObj] using hsz,h3,h4,h5⟩
def ant (S:St):ckK .ret S=(ai9 S).map .inl:=by
 unfold ckK
 cases ai9 S<;>rfl
def agv (S:St):ckK .normal S=if decide (78≤S.t.length)=true then some (.inr ([lk S.t 1,lk S.t 2,lk S.t 48],S.h)) else none:=by
 unfold ckK
 cases decide (78≤S.t.length)<;>rfl
def i6 [ó] {ρ:Type} {E:Env ρ} (h0:E.loops=n0 []) {path:List Nat} {fid bid:Nat} {b:Code}:nF E path fid bid b:=fun m S K r ν a w e=>by
 rw[h0] at e;cases e
def amS:Code→String
 | .region _ ops _ => ((ops[0]?).map fun o => o.pos).getD ""
 | _ => ""
def rfA:Code→Code
 |.block _ (.rangeFunc _ _ a _)=>a
 |_=>.skip
def rfB:Code→Code
 |.block _ (.rangeFunc _ _ _ (.block _ (.seq a _)))=>a
 |_=>.skip
def rfC:Code→Code
 |.block _ (.rangeFunc _ _ _ (.block _ (.seq _ (.cond _ (.seq a _) _))))=>a
 |_=>.skip
def anr:ckRF=Code.block 0 (Code.rangeFunc (.tmp 48) #[49] (ael (amS (rfA ckRF))) (amf (amS (rfB ckRF)) (amS (rfC ckRF)))):=by kernel_rfl
def amw:∀e∈ck_pt,Ï Tryz.prog e.1 e.2:=Á QH (Á QG (Á Ac (Á QJ Æ)))
def aja {e:Exit} {S:St} {n:Int} (h:ckK2 e S=some n):e=.ret∧lk S.t 2=.box 1 0∧lkB S.h 1=.cells [.int .i64 n]:=by
 unfold ckK2 at h
 split at h
 ·split at h
  ·rename_i h2
   split at h
   ·rename_i h3;cases h;exact⟨rfl,h2,h3⟩
   ·cases h
  ·cases h
 ·cases h
def aaM [ó] {ν:Nat→Value} {h:List Blk} {w:World} {n:Int} {id:Nat} (H:HR ν h w) (hl:lkB h id=.cells [.int .i64 n]):∃b e,ν id=.pointer (some ⟨b,0,none⟩)∧w.heap[b]?=some (.cells #[.int .i64 n] e (0,0)):=by
 have hB:=H.blk id;rw[hl] at hB;obtain⟨b,c,e,h1,h2,h3⟩:=hB;obtain⟨u,h4,h5⟩:=h3.one;have h6:u=.int .i64 n:=h5.1;refine⟨b,e,h1,?_⟩;rw[h2]
 have:c=#[.int .i64 n]:=by rw[←dM,h4,h6]
 rw[this]
def zb [ó] {ν:Nat→Value} {h:List Blk} {w:World} {id off:Nat} {v:Value} {b:Nat} (hv:VR ν h w (.box id off) v) (hb:ν id=.pointer (some ⟨b,0,none⟩)):v=.pointer (some ⟨b,off,none⟩):=by
 obtain⟨cs,b',h1,h2,h3⟩:=hv;rw[hb] at h2;cases h2;exact h3
def anq {G:Nat→Prop} {x:Val Ä} {s:Val (.map tI Ð)} {y:Int} (hS:ckS x=some y) {ν:Nat→Value} {w0 w6 W:World} {a:Act} {D:Nat} (H:@HR ⟨G,[],none⟩ ν (ckH x s 0) w6) (hb:Below w6.heap.size w6 W) (hD:w6.heap.size≤D) (hDo:W.heap[D]?=some (.deferred (some []))) (hd:a.defers=[aeG D]) (hlen:78≤a.tmps.size)
 (t1:@VR ⟨G,[],none⟩ ν (ckH x s 0) w6 (.box 0 0) (a.tmps.getD 1 undef)) (t2:@VR ⟨G,[],none⟩ ν (ckH x s 0) w6 (.box 1 0) (a.tmps.getD 2 undef))
 (h0:∀b,b<w0.heap.size→w6.heap[b]?=w0.heap[b]?∧¬adS ν (ckH x s 0) b) (hsz:w0.heap.size≤w6.heap.size) (h3:w6.os=w0.os) (h4:w6.tape=w0.tape) (h5:w6.output=w0.output) :
 Uv.wpIn Fence.wide 2 Tryz.prog (bodyPostM Fence.wide 2 Tryz.prog Tryz.f66 (B6 G y w0)) a W:=by
 have hlive:∀b,adS ν (ckH x s 0) b→b<w6.heap.size:=fun b hl=>@HR.ltA ⟨G,[],none⟩ _ _ _ H b (.inl hl)
 have t1':∃b,ν 0=.pointer (some ⟨b,0,none⟩)∧a.tmps.getD 1 undef=.pointer (some ⟨b,0,none⟩):=by
  obtain⟨cs,b,_,h2,h3⟩:=t1;exact⟨b,h2,h3⟩
 have t2':∃b,ν 1=.pointer (some ⟨b,0,none⟩)∧a.tmps.getD 2 undef=.pointer (some ⟨b,0,none⟩):=by
  obtain⟨cs,b,_,h2,h3⟩:=t2;exact⟨b,h2,h3⟩
 letI:ó:=⟨G,[aeG D],none⟩
 have H1:HR ν (ckH x s 0) w6:=HR_ghost H;have H2:HR ν (ckH x s 0) W:=(H1.grow (fun b hlt=>hb.block b hlt) hb.size hb.os hb.tape hb.output 0).2;have hlib:L9 (alE Int):=PU amw (alE Int) rfl rfl rfl rfl rfl (gJ rfl);have hdraw:∀L call,kY (alE Int) L call→lz (alE Int) L call:=Dp hmix;have hl0:(alE Int).loops=n0 []:=rfl;have hcall:=l6 (.inr fun _=>rfl) hlib hdraw (fun n hn hE path f fn c _ _ _ z _=>i6 hl0) 10 (cH _);have hEnv:kY (alE Int) 2 (jD (alE Int) 10):=⟨.inr (pD 9),hcall,hlib.plain,hlib.clone,hlib.joins⟩;have law:=ck_suf x s;rw[hS] at law
 have sim:Sim ν {t:=[.any,.box 0 0,.box 1 0]++List.replicate 75 .any,h:=ckH x s 0} a W:=by
  refine⟨hd,by simpa using hlen,fun i=>?_,H2⟩;simp only[PT];rcases i with _|_|_|i
  ·trivial
  ·obtain⟨b,g1,g2⟩:=t1';exact⟨_,b,rfl,g1,g2⟩
  ·obtain⟨b,g1,g2⟩:=t2';exact⟨_,b,rfl,g1,g2⟩
  ·trivial
 refine wpIn_wide.2 (wpIn_wide.1 (wpIn_mono (kM hEnv (hdraw _ _ hEnv) rfl Uv 0 _ _ ν a W (fun z _=>i6 hl0) law sim (dX _)) fun e a' w' ha=>?_));obtain⟨ν',S',g1,g2,_,_,g5⟩:=ha;obtain⟨rfl,k2,k3⟩:=aja g5;obtain⟨rb,te,r1,r2⟩:=aaM g1.heap k3;have r3:=g1.tmps 2;rw[k2] at r3;have r4:=zb r3 r1;have hDlt:=ē hDo;refine ae8 (w:=w') (a:=a') (G:=G) (y:=y) (w0:=w0) (D:=D) (rb:=rb) g1.defers ((g2.keep D hDlt fun hl=>by have:=hlive D hl; omega).1.trans hDo) r4 r2 (fun b hlt=>?_) (by omega) (by have:=g2.size; have:=hb.size; omega) (g2.os.trans (hb.os.trans h3)) (g2.tape.trans (hb.tape.trans h4)) (g2.output.trans (hb.output.trans h5));have h01:=h0 b hlt
 have hlt6:b<w6.heap.size:=by omega
 have hltW:b<W.heap.size:=by have:=hb.size; omega
 exact(g2.keep b hltW h01.2).1.trans ((hb.block b hlt6).trans h01.1)
set_option maxHeartbeats 2000000 in
def agw (G:Nat→Prop) (x:Val Ä) (y:Int) (hF':û x=some y) (w:World) (vals:List Value) (hG:∀b,G b→b<w.heap.size) (hAL:AL w G [Ä] x vals) :
 (∃fn c,Tryz.prog.funcs[66]?=some fn∧fn.body=some c)∧CallsIn Fence.wide 0 Tryz.prog 66 vals.toArray w (B6 G y w):=by
 rw[alD] at hF'
 letI:ó:=⟨G,[],none⟩
 have hpt:=amw;have hlib:L9 (ckE ckR):=PU hpt (ckE ckR) rfl rfl rfl rfl rfl (gJ rfl);have hdraw:∀L call,kY (ckE ckR) L call→lz (ckE ckR) L call:=Dp hmix;have h0:(ckE ckR).loops=n0 []:=rfl;have hcall:=l6 (.inl ⟨rfl,rfl⟩) hlib hdraw (fun n hn hE path f fn c _ _ _ z _=>i6 h0) 10 (cH _);have hEnv:kY (ckE ckR) 2 (jD (ckE ckR) 10):=⟨.inr (pD 9),hcall,hlib.plain,hlib.clone,hlib.joins⟩;have hD:=hdraw _ _ hEnv;have H:HR (fun _=>undef) [] w:=⟨fun _=>trivial,fun _ _ _ h=>(by cases h),hG,fun _ _ h=>(by cases h)⟩;have hav:∀b,Av (fun _=>undef) [] b→G b:=fun b hb=>hb.elim (fun⟨_,h,_⟩=>by cases h) id;have hargs:ă (VR (fun _=>undef) [] w) (ÿ [Ä] x) vals:=AL.VR (hAL.mono hav);refine⟨⟨Tryz.f66,_,Tryz.func66,amx⟩,?_⟩
 have hlen:vals.length=1:=by
  have:=hargs.length;simpa[ÿ,aiU] using this.symm
 cases hM:ckM x with
 |none=>rw[hM] at hF'; cases hF'
 |some r0 =>
 rw[hM] at hF';have law:=ck_pre x;rw[hM] at law;refine callsIn_wide.2 (callsIn_wide.1 (callsIn_of_wp_marks (n:=2) Tryz.func66 amx trivial ?_ (R:=B6 G y w)))
 have hS:Sim (fun _=>undef) {t:=ÿ [Ä] x++List.replicate 77 .any,h:=[]} {tmps:=vals.toArray++Array.replicate (Tryz.f66.ntmps-vals.toArray.size) undef,defers:=[]} w:=by
  refine⟨rfl,?_,fun i=>?_,H⟩
  ·have:Tryz.f66.ntmps=78:=by kernel_rfl
   have hl2:(ÿ [Ä] x).length=1:=rfl;simp[this,hlen,hl2]
  ·simp only[PT];rcases dv i (ÿ [Ä] x).length with hi|hi
   ·have:=ă.lk (R:=VR (fun _=>undef) [] w) (fun _=>trivial) i hargs
    have hv:i<vals.length:=by rw[←hargs.length]; exact hi
    have h2:(vals.toArray++Array.replicate (Tryz.f66.ntmps-vals.toArray.size) undef).getD i undef=vals.getD i undef:=by
     simp[dI,eJ,hv]
    rw[h2]; exact this
   ·rw[aio _ _ hi]; trivial
 -- the ways out ahead of the loop
 have out:∀ν' S' a' w' e,e≠.normal→Sim ν' S' a' w'→Ev 0 (fun _=>undef) [] w ν' S'.h w'→ckK e S'=some r0→bodyPostM Fence.wide 2 Tryz.prog Tryz.f66 (B6 G y w) e a' w':=by
  intro ν' S' a' w' e hne hS' hE' hk
  cases e with
  |normal=>exact(hne rfl).elim
  |ret =>
   rw[ant] at hk
   cases hr:ai9 S' with
   |none=>rw[hr] at hk; cases hk
   |some n =>
    rw[hr,dJ] at hk;cases hk
    have hyn:n=y:=by simpa using hF'
    subst hyn;unfold ai9 at hr
    split at hr
    ·rename_i v hv;obtain⟨u,q1,q2⟩:=Hy hS' hv;show LeavesInM _ _ _ _ _ _ a'.defers _ _;rw[show a'.defers=[] from hS'.defers];exact⟨u,q1,u,rfl,US hS'.heap [tI] q2 hr,fun b hb=>(hE'.keep b hb fun⟨_,h,_⟩=>by cases h).1,hE'.size,hE'.os,hE'.tape,hE'.output⟩
    ·cases hr
  |exit id=>cases hk
  |goto l=>cases hk
  |panic ch=>cases hk
  |outgrown=>cases hk
 have outT:∀{ν₁:Nat→Value} {h₁:List Blk} {w₁:World},Ev 0 (fun _=>undef) [] w ν₁ h₁ w₁→∀ν' S' a' w' e,e≠.normal→Sim ν' S' a' w'→Ev 0 ν₁ h₁ w₁ ν' S'.h w'→ckK e S'=some r0→bodyPostM Fence.wide 2 Tryz.prog Tryz.f66 (B6 G y w) e a' w' :=
  fun hE ν' S' a' w' e hne hS' hE' hk=>out ν' S' a' w' e hne hS' (hE.trans hE' (cH _)) hk
 refine peel rfl hEnv hD rfl rfl (fun z _=>i6 h0) law hS (fun ν1 S1 a1 w1 s1 e1 k1=>?_) out;refine peel rfl hEnv hD rfl rfl (fun z _=>i6 h0) k1 s1 (fun ν2 S2 a2 w2 s2 e2 k2=>?_) (outT e1);have t2:=e1.trans e2 (cH _);refine peel rfl hEnv hD rfl rfl (fun z _=>i6 h0) k2 s2 (fun ν3 S3 a3 w3 s3 e3 k3=>?_) (outT t2);have t3:=t2.trans e3 (cH _);refine peel rfl hEnv hD rfl rfl (fun z _=>i6 h0) k3 s3 (fun ν4 S4 a4 w4 s4 e4 k4=>?_) (outT t3);have t4:=t3.trans e4 (cH _);refine peel rfl hEnv hD rfl rfl (fun z _=>i6 h0) k4 s4 (fun ν5 S5 a5 w5 s5 e5 k5=>?_) (outT t4);have t5:=t4.trans e5 (cH _);refine wpIn_seq (wpIn_seq (wpIn_wide.2 (wpIn_wide.1 (wpIn_mono (kM hEnv hD rfl ckA5 0 S5 _ ν5 a5 w5 (fun z _=>i6 h0) k5 s5 (dX _)) fun e' a6 w6 ha=>?_))));obtain⟨ν,S,s6,e6,_,_,k6⟩:=ha;have t6:=t5.trans e6 (cH _)
 have other:∀e,e≠.normal→ckK e S=some r0→Exit.then (Code.wpIn Fence.wide 2 Tryz.prog Uv (bodyPostM Fence.wide 2 Tryz.prog Tryz.f66 (B6 G y w))) (bodyPostM Fence.wide 2 Tryz.prog Tryz.f66 (B6 G y w)) e a6 w6:=by
  intro e hne hk;have:=out ν S a6 w6 e hne s6 t6 hk
  cases e<;>first|exact(hne rfl).elim|exact this
 cases e' with
 |exit id=>exact other _ (by simp) k6
 |goto l=>exact other _ (by simp) k6
 |ret=>exact other _ (by simp) k6
 |panic ch=>exact other _ (by simp) k6
 |outgrown=>exact other _ (by simp) k6
 |normal =>
 clear other;rw[agv] at k6
 split at k6<;>try (cases k6; done)
 rename_i h78
 have h78':78≤S.t.length:=by simpa using h78
 cases k6;obtain⟨hlens,s,hs,hq⟩:=ans hM;simp only[Prod.mk.injEq,List.cons.injEq,and_true] at hq;obtain⟨⟨q1,q2,q48⟩,qh⟩:=hq
 have hF2:Yy (mU x s) some (ckS x)=some y:=by
  simp only at hF';rw[hs] at hF';exact hF'
 -- what the errors are
 obtain⟨L,hL,hLy⟩:∃L,mU x s=some L∧(match L.find? (fun e=>e != 0) with|some e=>some e|none=>ckS x)=some y:=by
  unfold Yy at hF2
  cases hl:mU x s with
  |none=>rw[hl] at hF2; cases hF2
  |some L=>rw[hl] at hF2; exact⟨L,rfl,hF2⟩
 obtain⟨l1,l2,l3,l4,m1,m2,m3,m4,rfl⟩:∃l1 l2 l3 l4,Ny (fun u=>ļ u.1 u.2 s) (x.2.2.1:List (Int×Int))=some l1∧Ny (fun i=>Ν x s i) (wF (x.2.2.2.1:List (Val ņ)).length)=some l2 ∧
  Ny (fun i=>Ł x s i) (wF (x.2.2.2.2.1:List (Val Ì)).length)=some l3∧Ny (fun u=>ļ u.1 u.2 s) (x.2.2.2.2.2:List (Int×Int))=some l4∧L=l1++(l2++(l3++l4)):=by
  unfold mU at hL
  cases m1:Ny (fun u=>ļ u.1 u.2 s) (x.2.2.1:List (Int×Int)) with
  |none=>rw[m1] at hL; cases hL
  |some l1 =>
  rw[m1] at hL
  cases m2:Ny (fun i=>Ν x s i) (wF (x.2.2.2.1:List (Val ņ)).length) with
  |none=>simp only[Ã,m2] at hL; cases hL
  |some l2 =>
  cases m3:Ny (fun i=>Ł x s i) (wF (x.2.2.2.2.1:List (Val Ì)).length) with
  |none=>simp only[Ã,m2,m3] at hL; cases hL
  |some l3 =>
  cases m4:Ny (fun u=>ļ u.1 u.2 s) (x.2.2.2.2.2:List (Int×Int)) with
  |none=>simp only[Ã,m2,m3,m4] at hL; cases hL
  |some l4 =>
  simp only[Ã,m2,m3,m4] at hL;cases hL;exact⟨l1,l2,l3,l4,rfl,rfl,rfl,rfl,rfl⟩
 -- the blocks
 obtain⟨T,Hh⟩:=S;dsimp only at q1 q2 q48 qh h78';subst qh;have p1:=s6.tmps 1;have p2:=s6.tmps 2;have p48:=s6.tmps 48;dsimp only at p1 p2 p48;rw[q1] at p1;rw[q2] at p2;rw[q48] at p48;obtain⟨rb,te1,n1,hrb⟩:=aaM (id:=1) (n:=0) s6.heap rfl;have hB2:BR ν (ckH x s 0) w6 2 (.cells (flat Ä x)):=s6.heap.blk 2;have hB3:BR ν (ckH x s 0) w6 3 (.cells [.mp tI Ð s]):=s6.heap.blk 3;have hB4:BR ν (ckH x s 0) w6 4 (.cells [.fn (.func 188) [] [.box 3 0]]):=s6.heap.blk 4;obtain⟨bb,cb,te,n2,hbb,hb2⟩:=hB2;obtain⟨sb,cs3,te3,n3,hsb,hb3⟩:=hB3;obtain⟨tb,cs4,te2,n4,htb,hb4⟩:=hB4;obtain⟨mv,z3,hm3⟩:=hb3.one;obtain⟨fv,z4,hm4⟩:=hb4.one;have hmv:CR w6 noG (.map tI Ð) s [mv]:=CR.mono (fun _ hf=>hf.elim) (show CR w6 (Av ν (ckH x s 0)) (.map tI Ð) s [mv] from hm3.1)
 have hc3:cs3=#[mv]:=by rw[←dM,z3]
 have hfv:fv=.func (.func 188) #[] #[.pointer (some ⟨sb,0,none⟩)]:=by
  obtain⟨fs,cs,h1,h2,h3⟩:=hm4.1
  have e1:fs=#[]:=by rw[←dM]; exact h2.nil_left
  obtain⟨u,e2,h4⟩:=h3.one;have e3:u=.pointer (some ⟨sb,0,none⟩):=zb (w:=w6) (id:=3) (off:=0) h4 n3
  have e4:cs=#[.pointer (some ⟨sb,0,none⟩)]:=by rw[←dM,e2,e3]
  rw[h1,e1,e4]
 have hc4:cs4=#[fv]:=by rw[←dM,z4]
 rw[hc3] at hsb;rw[hc4,hfv] at htb
 have hg:a6.tmps.getD 48 undef=.func (.func 191) #[] #[.pointer (some ⟨bb,0,none⟩),.pointer (some ⟨tb,0,none⟩),.pointer (some ⟨sb,0,none⟩)]:=by
  obtain⟨fs,cs,h1,h2,h3⟩:=p48
  have e1:fs=#[]:=by rw[←dM]; exact h2.nil_left
  have hl:=h3.length
  obtain⟨u1,u2,u3,e2⟩:∃u1 u2 u3,cs.toList=[u1,u2,u3]:=by
   rcases hcs:cs.toList with _|⟨u1,_|⟨u2,_|⟨u3,_|⟨u4,t⟩⟩⟩⟩<;>rw[hcs] at hl<;>simp at hl
   exact⟨u1,u2,u3,rfl⟩
  rw[e2] at h3;have e3:u1=.pointer (some ⟨bb,0,none⟩):=zb (w:=w6) (id:=2) (off:=0) h3.1 n2;have e4:u2=.pointer (some ⟨tb,0,none⟩):=zb (w:=w6) (id:=4) (off:=0) h3.2.1 n4;have e5:u3=.pointer (some ⟨sb,0,none⟩):=zb (w:=w6) (id:=3) (off:=0) h3.2.2.1 n3;rw[h1,e1];congr 1;rw[←dM,e2,e3,e4,e5]
 have hseq:=akC m1 m2 m3 m4 hlens hbb (anA hb2) htb hsb hmv;have h2:=zb p2 n1;have hsz:78≤a6.tmps.size:=dt h78' s6.len
 have hkeep:∀b,b<w.heap.size→w6.heap[b]?=w.heap[b]?∧¬adS ν (ckH x s 0) b:=fun b hb=>t6.keep b hb fun⟨_,h,_⟩=>by cases h
 have hdef:a6.defers=[]:=s6.defers;show ckRF.wpIn Fence.wide 2 Tryz.prog (Exit.then (Uv.wpIn Fence.wide 2 Tryz.prog (bodyPostM Fence.wide 2 Tryz.prog Tryz.f66 (B6 G y w))) (bodyPostM Fence.wide 2 Tryz.prog Tryz.f66 (B6 G y w))) a6 w6;rw[anr];refine wpIn_block (amN hseq hg h2 hsz hrb (fun D W hall hbel hDl hDo=>?_) (fun D W z hz hput hDl hDo=>?_))
 ·have hck:ckS x=some y:=by
   have:(l1++(l2++(l3++l4))).find? (fun e=>e != 0)=none:=ee.2 fun z hz=>by rw[hall z hz]; simp
   rw[this] at hLy;exact hLy
  exact anq (s:=s) hck s6.heap hbel hDl hDo (by show aeG D::a6.defers=_; rw[hdef]) hsz p1 p2 hkeep t6.size t6.os t6.tape t6.output
 ·have hzy:z=y:=by
   rw[hz] at hLy;simpa using hLy
  subst hzy;obtain⟨te5,hcell⟩:=hput.cell;have hlb:=ē hrb;have hlive:adS ν (ckH x s 0) rb:=⟨1,rfl,by rw[n1]; rfl⟩
  exact ae8 (a:={a6 with defers:=aeG D::a6.defers}) (w:=W) (by show aeG D::a6.defers=_; rw[hdef]) hDo h2 hcell
   (fun b hb=>(hput.block b (by have:=t6.size; omega) (fun e=>(hkeep b hb).2 (e▸hlive))).trans (hkeep b hb).1) (by have:=t6.size; omega) (by have:=t6.size; have:=hput.size; omega) (hput.os.trans t6.os) (hput.tape.trans t6.tape) (hput.output.trans t6.output)
def ř:Ï Tryz.prog 66 œ:=fun G x y hF w vals hG hAL=>agw G x y hF w vals hG hAL
end Go.Proofs.ZzM
end

noncomputable section
set_option maxRecDepth 100000
namespace Go.Proofs.ZzM
open Go Go.Am Go.RowKit
abbrev cP:Type:=Val (tyL iy)
abbrev cV:Type:=Val (tyL lS)
abbrev cS (p:cP) (v:cV):St:=iI sj iy lS p v
abbrev cU (p:cP) (v:cV) (x:Val Ð):St:=iI OJ iy zu p (CS v x)
def alx (im:List (Int×Bool)) (n:Int):nq Tryz.prog [.map tI .bool im] 184 (.omp 0) (.int .i64 n) false some=(match (rX (k:=tI) (v:=.bool) n im:Option Bool) with|some y=>some (.bool y)|none=>some (.bool false)):=by kernel_rfl
noncomputable def MapAt (W:World) (mb:Nat) (im:List (Int×Bool)):Prop:=∃(entries:Array MapEntry) (clock:Nat),W.heap[mb]?=some (.map entries clock)∧entries.size=im.length∧∀(i:Nat) (e:Int×Bool),im[i]?=some e→∃m,entries[i]?=some m∧m.key=.int .i64 e.1∧m.val=.bool e.2
noncomputable def K4 (im:List (Int×Bool)) (n:Int):Bool:=((rX (k:=tI) (v:=.bool) n im:Option Bool)).getD false
def ak0 {W:World} {mb:Nat} {im:List (Int×Bool)} (h:MapAt W mb im) (n:Int):(Instr.lookup 184 (.map (some mb)) (.int .i64 n) false).run Tryz.prog W=.ok (.bool (K4 im n)) W:=by
 letI:ó:=⟨fun _=>False,[],none⟩
 obtain⟨entries,clock,h1,h2,h3⟩:=h
 have H:HR (fun _=>.map (some mb)) [.map tI .bool im] W:=by
  refine⟨fun id=>?_,fun i j b hi hj _ _=>?_,fun b hb=>hb.elim,fun id b _ _ hb=>hb.elim⟩
  ·rcases id with _|id
   ·refine⟨mb,entries,clock,rfl,h1,h2,fun i e he=>?_⟩;obtain⟨m,q1,q2,q3⟩:=h3 i e he;exact⟨m,[.bool e.2],q1,by rw[q2]; rfl,rfl,by rw[q3]; rfl⟩
   ·rw[T6 _ _ (by simp)]; trivial
  ·have one:∀i,(lkB [Blk.map tI .bool im] i).live=true→i=0:=fun i hi=>by
    rcases i with _|i
    ·rfl
    ·rw[T6 _ _ (by simp)] at hi; cases hi
   rw[one i hi,one j hj]
 have hom:VR (fun _=>.map (some mb)) [.map tI .bool im] W (.omp 0) (.map (some mb)):=⟨rfl,_,_,_,rfl,rfl⟩
 have hk:nq Tryz.prog [.map tI .bool im] 184 (.omp 0) (.int .i64 n) false some=some (.bool (K4 im n)):=by
  rw[alx];unfold K4
  cases(rX (k:=tI) (v:=.bool) n im:Option Bool)<;>rfl
 obtain⟨u,q1,q2⟩:=aaB H hk hom (ui:=.int .i64 n) rfl;rw[q1];have:u=.bool (K4 im n):=q2;rw[this]
noncomputable def gz (l:List (Val Ð)) (j:Nat):Val Ð:=l[j]?.getD (0,0,0,(0,0),(0,0),0)
def adg {w:World} {av:Nat→Prop} {g:Val Ð} {us:List Value} (h:CR w av Ð g us) :
 us=[.int .i64 g.1,.int .i64 g.2.1,.int .i64 g.2.2.1,.int .i64 g.2.2.2.1.1,.int .i64 g.2.2.2.1.2,.int .i64 g.2.2.2.2.1.1,.int .i64 g.2.2.2.2.1.2,.int .i64 g.2.2.2.2.2]:=by
 obtain⟨a1,r1,rfl,h1,a2,r2,rfl,h2,a3,r3,rfl,h3,a4,r4,rfl,⟨b1,b2,rfl,h4,h5⟩,⟨b3,r5,rfl,⟨b5,b6,rfl,h6,h7⟩,h8⟩⟩:=h;have e1:a1=[.int .i64 g.1]:=h1;have e2:a2=[.int .i64 g.2.1]:=h2;have e3:a3=[.int .i64 g.2.2.1]:=h3;have e4:b1=[.int .i64 g.2.2.2.1.1]:=h4;have e5:b2=[.int .i64 g.2.2.2.1.2]:=h5;have e6:b5=[.int .i64 g.2.2.2.2.1.1]:=h6;have e7:b6=[.int .i64 g.2.2.2.2.1.2]:=h7;have e8:r5=[.int .i64 g.2.2.2.2.2]:=h8;subst e1 e2 e3 e4 e5 e6 e7 e8;rfl
noncomputable def KNd (w1:World) (R:Nat→Prop) (tb:Nat) (im:List (Int×Bool)) (W:World):Prop:=w1.heap.size≤W.heap.size∧(∀b,R b→W.heap[b]?=w1.heap[b]?)∧tb<w1.heap.size∧∃mb,mb<w1.heap.size∧W.cell? ⟨tb,0,none⟩=some (.map (some mb))∧MapAt W mb im
def KNd.below {w1 W W':World} {R:Nat→Prop} {tb:Nat} {im:List (Int×Bool)} (hR:∀b,R b→b<w1.heap.size) (h:KNd w1 R tb im W) (hz:W.heap.size≤W'.heap.size) (hb:∀b,b<w1.heap.size→W'.heap[b]?=W.heap[b]?):KNd w1 R tb im W':=by
 obtain⟨h1,h2,h3,mb,h4,h5,en,cl,h6,h7,h8⟩:=h;exact⟨dt h1 hz,fun b hr=>(hb b (hR b hr)).trans (h2 b hr),h3,mb,h4,by rw[World.cell?_of_block (w:=W) (hb tb h3)]; exact h5,en,cl,(hb mb h4).trans h6,h7,h8⟩
def KNd.grown {w1 W W':World} {R:Nat→Prop} {tb:Nat} {im:List (Int×Bool)} (hR:∀b,R b→b<w1.heap.size) (h:KNd w1 R tb im W) (hg:W.grownBy W' none):KNd w1 R tb im W' :=
 h.below hR hg.size fun b hb=>hg.block b (dk hb h.1) (by simp)
def aaE {f:AV→Bool} (h0:f .any=true):∀(l:List AV),l.all f=true→∀i,f (lk l i)=true
 |[],_,i=>by cases i<;>exact h0
 |x::l,h,0=>by simp only[fE,cI] at h; exact h.1
 |x::l,h,i+1=>by simp only[fE,cI] at h; exact aaE h0 l h.2 i
def Xd {f:Blk→Bool} (h0:f .dead=true):∀(l:List Blk),l.all f=true→∀i,f (lkB l i)=true
 |[],_,i=>by cases i<;>exact h0
 |x::l,h,0=>by simp only[fE,cI] at h; exact h.1
 |x::l,h,i+1=>by simp only[fE,cI] at h; exact Xd h0 l h.2 i
def cS_mf (p:cP) (v:cV):(cS p v).h.all mfB=true:=by kernel_rfl
def cU_mf (p:cP) (v:cV) (x:Val Ð):(cU p v x).h.all mfB=true:=by kernel_rfl
def cU_mft (p:cP) (v:cV) (x:Val Ð):(cU p v x).t.all mfV3=true:=by kernel_rfl
def cR_mf (y:Val Ä):(iI o9 [] jb () (j5 y)).h.all mfB=true:=by kernel_rfl
def cR_mft (y:Val Ä):(iI o9 [] jb () (j5 y)).t.all mfV3=true:=by kernel_rfl
noncomputable def pin0 (m:Nat):AV→Bool
 |.any=>true
 |.box id _=>Nat.blt id m
 |_=>false
noncomputable def pin3 (m:Nat):AV→Bool
 |.fn _ a b=>a.all (pin0 m)&&b.all (pin0 m)
 |a=>pin0 m a
section
variable [ó] {ν ν':Nat→Value} {h h':List Blk} {w w':World} {m:Nat}
def VR0.pin (e:Ev m ν h w ν' h' w') {a:AV} {v:Value} (hp:pin0 m a=true) (hv:VR0 ν h w a v):VR0 ν' h' w' a v:=by
 cases a with
 |any=>trivial
 |box id off =>
  obtain⟨cs,b,hl,h1,h2⟩:=hv;have hlt:id<m:=fA hp;have hb:=e.blk id hlt;rw[hl] at hb;obtain⟨⟨cs',hl'⟩,he⟩:=hb;exact⟨cs',b,hl',by rw[he]; exact h1,h2⟩
 |_=>cases hp
def VR.pin (e:Ev m ν h w ν' h' w') {a:AV} {v:Value} (hp:pin3 m a=true) (hv:VR ν h w a v):VR ν' h' w' a v:=by
 cases a with
 |fn f fa fb =>
  obtain⟨fs,cs,h1,h2,h3⟩:=hv;simp only[pin3,cI,dw] at hp;exact⟨fs,cs,h1,h2.mem fun a ha _=>VR0.pin e (hp.1 a ha),h3.mem fun a ha _=>VR0.pin e (hp.2 a ha)⟩
 |any=>trivial
 |box id off=>exact VR0.pin (a:=.box id off) e (show pin0 m (.box id off)=true from hp) hv
 |_=>cases hp
end
def amy (p:cP) (v:cV):(cS p v).t.all (pin3 9)=true:=by kernel_rfl
def cS_len (p:cP) (v:cV):(cS p v).h.length=10:=by kernel_rfl
def cU_len (p:cP) (v:cV) (x:Val Ð):(cU p v x).h.length=11:=by kernel_rfl
def cS_t (p:cP) (v:cV) (z:List (Val Ð)):(cS p (Ĝ v z)).t=(cS p v).t:=by kernel_rfl
def cS_5 (p:cP) (v:cV):∃a b us lo co ko,lkB (cS p v).h 5=.cells [.int .i64 a,.int .i64 b,.slc Ð (ñ v),.slc Â us,.slc ņ lo,.slc Ì co,.slc Â ko]:=⟨_,_,_,_,_,_,rfl⟩
def cS_6 (p:cP) (v:cV):lkB (cS p v).h 6=.cells [.omp 7]:=by kernel_rfl
def cS_7 (p:cP) (v:cV):lkB (cS p v).h 7=.map tI .bool (Ŝ v):=by kernel_rfl
def cS_59 (p:cP) (v:cV):lk (cS p v).t 59=.fn (.func 186) [] [.box 5 0,.box 6 0]:=by kernel_rfl
noncomputable def aaK:Blk→Bool
 |.map _ _ _=>true
 |_=>false
def adJ (p:cP) (v:cV):(cS p v).h.map aaK=[false,false,false,false,false,false,false,true,true,false]:=by kernel_rfl
def anw (p:cP) (v:cV) (x:Val Ð):(cU p v x).h.map aaK=[false,false,false,false,false,false,false,true,true,false,false]:=by kernel_rfl
def I1:∀(l:List Blk) (i:Nat),aaK (lkB l i)=true→(l.map aaK)[i]?=some true
 |[],i,h=>by cases i<;>cases h
 |x::l,0,h=>by have:aaK x=true:=h; simp[this]
 |x::l,i+1,h=>by simpa using I1 l i h
def aeH {l:List Blk} {t:List Bool} (hl:l.map aaK=[false,false,false,false,false,false,false,true,true]++t) (ht:∀b∈t,b=false) {id:Nat} {k u:Ty} {es:List (Val k×Val u)} (h:lkB l id=.map k u es):id=7∨id=8:=by
 have:=I1 l id (by rw[h]; rfl);rw[hl] at this
 rcases id with _|_|_|_|_|_|_|_|_|id<;>simp at this ⊢
 have:=ht _ (cO this);cases this
noncomputable def amr {ρ:Type}:List (Val Ð)→Option ρ→Option ρ
 |[],x=>x
 |_::_,_=>none
def ads {ρ:Type} {l:List (Val Ð)} {x:Option ρ} {r:ρ} (h:amr l x=some r):l=[]∧x=some r:=by
 cases l with
 |nil=>exact⟨rfl,h⟩
 |cons=>cases h
noncomputable def cutK (p:cP) (v:cV):Option (Val Ä):=amr (uh v) (Ã (zE (ñ v) (Ŝ v)) fun z=>mK p (Ĝ v z) some)
def aix {l:List (Val Ð)} {im:List (Int×Bool)} {z:List (Val Ð)} (h:zE l im=some z):ç l.length=true∧z=(Q1 (fun j=>K4 im (gz l j).1) l.length).map (gz l):=by
 unfold zE at h;simp only[è] at h
 split at h
 ·rename_i ho;cases h;refine⟨ho,?_⟩
  have key:∀(n:Nat),n≤l.length→(l.take n).filter (fun g=>((rX (k:=tI) (v:=.bool) g.1 im:Option Bool)).getD false)=(Q1 (fun j=>K4 im (gz l j).1) n).map (gz l):=by
   intro n
   induction n with
   |zero=>intro _; rfl
   |succ n ih =>
    intro hn
    have hg:l[n]?=some (gz l n):=by simp[gz,cG (show n<l.length from hn)]
    rw[List.take_succ,gn,ih (by omega),DC,hg];have:((rX (k:=tI) (v:=.bool) (gz l n).1 im:Option Bool)).getD false=K4 im (gz l n).1:=rfl;simp only[Option.toList_some,dL,dR,this]
    split<;>simp
  have:=key l.length (cH _)
  rwa [List.take_length] at this
 ·cases h
def akP {n m:Nat} (h:ç n=true) (hm:m≤n):ç m=true:=by
 unfold ç at h ⊢;simp only[Bool.and_eq_true,decide_eq_true_eq] at h ⊢
 first|omega|(constructor<;>omega)
def afr {G:Nat→Prop} {D D':List Deferred} {Q Q':Option Nat} {ν:Nat→Value} {h:List Blk} {w:World} {a:AV} {v:Value} (hv:@VR ⟨G,D,Q⟩ ν h w a v):@VR ⟨G,D',Q'⟩ ν h w a v:=hv
def zt [ó] {ν2 ν':Nat→Value} {h1 h':List Blk} {w1 W:World} (H1:HR ν2 h1 w1) (ev:Ev 9 ν2 h1 w1 ν' h' W) (hl1:∀id,id=7∨id=8→∃k u es,lkB h1 id=.map k u es)
 {t:List Bool} (hl:h'.map aaK=[false,false,false,false,false,false,false,true,true]++t) (ht:∀b∈t,b=false):aj5 w1.heap.size ν' h':=by
 intro id k u es b hm hν
 have h9:id<9:=by rcases aeH hl ht hm with rfl|rfl<;>omega
 obtain⟨k1,u1,es1,h7⟩:=hl1 id (aeH hl ht hm);have hb:=ev.blk id h9;rw[h7] at hb;obtain⟨_,he⟩:=hb;have hB:=H1.blk id;rw[h7] at hB;obtain⟨b0,_,_,q1,q2,_⟩:=hB;rw[he,q1] at hν;cases hν;exact ē q2
def alU (p:cP) (v:cV):∀id,id=7∨id=8→∃k u es,lkB (cS p v).h id=.map k u es:=by
 rintro id (rfl|rfl)
 ·exact⟨_,_,_,rfl⟩
 ·exact⟨_,_,_,rfl⟩
noncomputable def CI (G:Nat→Prop) (p:cP) (v:cV) (ν2:Nat→Value) (w1:World) (pre:List Nat) (W:World):Prop :=
 ∃ν',@HR ⟨G,[],none⟩ ν' (cS p (Ĝ v (pre.map (gz (ñ v))))).h W∧Ev 9 ν2 (cS p v).h w1 ν' (cS p (Ĝ v (pre.map (gz (ñ v))))).h W
def CI.own {G:Nat→Prop} {p:cP} {v:cV} {ν2:Nat→Value} {w1:World} (H1:@HR ⟨G,[],none⟩ ν2 (cS p v).h w1):OwnFrom w1.heap.size (CI G p v ν2 w1):=by
 intro pre W W' row hI hg hr
 letI:ó:=⟨G,[],none⟩
 obtain⟨ν',H,ev⟩:=hI;have hml:=zt H1 ev (alU p v) (adJ _ _) (t:=[false]) (by simp);refine⟨ν',H.ckeep (Qw hg hr) (fun id k u es b hl hν=>?_) (Xd rfl _ (cS_mf _ _)),ev.own hg fun r e=>(hr r e).1⟩;have hb:=hml id k u es b hl hν
 exact hg.block b (dk hb ev.size) fun e=>by have:=(hr b e.symm).1; omega
def CI.nd {G:Nat→Prop} {p:cP} {v:cV} {ν2:Nat→Value} {w1 W:World} {pre:List Nat} {R:Nat→Prop} {tb:Nat} (H1:@HR ⟨G,[],none⟩ ν2 (cS p v).h w1) (hR:∀b,R b→b<w1.heap.size∧¬adS ν2 (cS p v).h b) (htb:ν2 6=.pointer (some ⟨tb,0,none⟩)) (hI:CI G p v ν2 w1 pre W):KNd w1 R tb (Ŝ v) W:=by
 letI:ó:=⟨G,[],none⟩
 obtain⟨ν',H,ev⟩:=hI;have h6:=H1.blk 6;rw[cS_6] at h6;obtain⟨b6,_,_,q1,q2,_⟩:=h6;rw[htb] at q1;cases q1;have h7:=H1.blk 7;rw[cS_7] at h7;obtain⟨mb,_,_,r1,r2,_⟩:=h7;have e6:=ev.blk 6 (by omega);rw[cS_6] at e6;have e7:=ev.blk 7 (by omega);rw[cS_7] at e7;have k6:=H.blk 6;rw[show lkB (cS p (Ĝ v (pre.map (gz (ñ v))))).h 6=.cells [.omp 7] from cS_6 _ _] at k6;obtain⟨b,c,e,s1,s2,s3⟩:=k6;rw[e6.2,htb] at s1;cases s1;obtain⟨mv,s4,s5⟩:=s3.one;obtain⟨_,k,u,es,_,s6⟩:=s5.1;have k7:=H.blk 7;rw[show lkB (cS p (Ĝ v (pre.map (gz (ñ v))))).h 7=.map tI .bool (Ŝ v) from cS_7 _ _] at k7;obtain⟨mb',en,cl,t1,t2,t3,t4⟩:=k7;have e1:mv=.map (some mb'):=s6.trans t1
 have e2:mb'=mb:=by rw[e7.2,r1] at t1; cases t1; rfl
 subst e2;refine⟨ev.size,fun b hb=>(ev.keep b (hR b hb).1 (hR b hb).2).1,ē q2,mb',ē r2,?_,en,cl,t2,t3,fun i x hx=>?_⟩
 ·have hc:c=#[mv]:=by rw[←dM,s4]
  rw[hc,e1] at s2;simp[World.cell?,s2]
 ·obtain⟨m,us,u1,u2,u3,u4⟩:=t4 i x hx;have v1:[m.key]=[.int .i64 x.1]:=u2;have v2:us=[.bool x.2]:=u3;refine⟨m,u1,by simpa using v1,?_⟩;rw[u4,v2];rfl
def agr:drawn (Am.rfA (Am.rfC 7 ĝ))=false:=by kernel_rfl
def agq:drawn (Am.rfB (Am.rfC 7 ĝ))=false:=by kernel_rfl
def agp:í 4 (Am.rfA (Am.rfC 7 ĝ))=[]:=by kernel_rfl
def ago:í 4 (Am.rfB (Am.rfC 7 ĝ))=[]:=by kernel_rfl
def Xx [ó] (ρ:Type):kY (ę ρ) 2 (jD (ę ρ) 10):=by
 have hlib:L9 (ę ρ):=PU OI (ę ρ) rfl rfl rfl rfl rfl (gJ rfl);have hdraw:∀L call,kY (ę ρ) L call→lz (ę ρ) L call:=Dp hmix;have hcall:=l6 (.inr fun _=>rfl) hlib hdraw (fun n hn hE path f fn c hp hf hc=>Gq (tab:=qo ρ) rfl J9 hn hE (hdraw _ _ hE) hp hf hc) 10 (cH _);exact⟨.inr (pD 9),hcall,hlib.plain,hlib.clone,hlib.joins⟩
def ai5 {G:Nat→Prop} {p:cP} {v:cV} {ν2:Nat→Value} {a:Act} {w1:World} (H1:@Sim ⟨G,[],none⟩ ν2 (cS p v) a w1) (l:Nat) (pre:List Nat) (x:Nat) (W:World) (hl:w1.heap.size≤l) (hI:CI G p v ν2 w1 pre W) (hok:ç (pre.length+1)=true) {u:Value} (hu:∀[ó] (ν:Nat→Value) (h:List Blk) (w:World),VR ν h w (.agg (flat Ð (gz (ñ v) x))) u) :
 (Am.rfA (Am.rfC 7 ĝ)).wpIn (Fence.wide.inRound l) 0 Tryz.prog (Exit.then (fun a' Wa=>KeepsFrom w1.heap.size W Wa∧∀r',(∃r,Wa.heap[l]?=some (.loop r)) →
  (Am.rfB (Am.rfC 7 ĝ)).wpIn (Fence.wide.inRound l) 0 Tryz.prog (Exit.then (fun _ W3=>KeepsFrom w1.heap.size (Wa.putObj l (.loop r')) W3∧CI G p v ν2 w1 (pre++[x]) W3) (fun _ _ _=>False)) a' (Wa.putObj l (.loop r'))) (fun _ _ _=>False)) {tmps:=a.tmps.setIfInBounds 60 u,defers:=[]} W:=by
 letI:ó:=⟨G,[],some l⟩
 have H1h:HR ν2 (cS p v).h w1:=HR_ghost (@Sim.heap ⟨G,[],none⟩ _ _ _ _ H1);obtain⟨ν',H0,ev⟩:=hI;have H:HR ν' (cS p (Ĝ v (pre.map (gz (ñ v))))).h W:=HR_ghost H0;obtain⟨v',hv'⟩:∃v',v'=Ĝ v (pre.map (gz (ñ v))):=⟨_,rfl⟩;rw[←hv'] at H ev
 have ht:(cS p v').t=(cS p v).t:=by rw[hv']; exact cS_t _ _ _
 have hml:=zt H1h ev (alU p v) (adJ _ _) (t:=[false]) (by simp)
 have simA:Sim ν' (cS p v') {tmps:=a.tmps,defers:=[]} W:=by
  refine⟨rfl,?_,fun i=>?_,H⟩
  ·rw[ht]; show _≤a.tmps.size; exact @Sim.len ⟨G,[],none⟩ _ _ _ _ H1
  ·rw[ht]; exact VR.pin ev (aaE rfl _ (amy p v) i) (afr (@Sim.tmps ⟨G,[],none⟩ _ _ _ _ H1 i))
 have sim0:=simA.put (Ev.refl _ _ _ _) H (some 60) (hu ν' _ W);have hEnv:=Xx (cP×Val (tyL zu));have hgo:=I8 hEnv (path:=[]) rfl (Am.rfA (Am.rfC 7 ĝ)) 4 _ _ ν' _ W (fun h=>by rw[agr] at h; cases h) (fun z hz=>by rw[agp] at hz; cases hz) (af0 p v' (gz (ñ v) x) fun p u=>some (p,u)) sim0 (dt (show 9≤10 by decide) (Nat.le_of_eq (cS_len p v').symm));refine wpIn_mono hgo fun e a' Wa ha=>?_;obtain⟨νa,Sa,sA,evA,lenA,ddA,kA⟩:=ha;obtain⟨rfl,p',u',hm',hk'⟩:=D7 kA;cases hk';obtain⟨νb,sB,evB,lB,dB⟩:=D4 _ _ _ _ _ _ _ νa a' Wa hm' sA;have evAB:Ev 9 ν' (cS p v').h W νb (cU p v' (gz (ñ v) x)).h Wa:=evA.trans evB (cH _);have evT:=ev.trans evAB (cH _);have hmu:=zt H1h evT (alU p v) (anw _ _ _) (t:=[false,false]) (by simp);refine⟨KJ H hml evAB,fun r' ⟨r,hr⟩=>?_⟩;have hlt:l<Wa.heap.size:=ē hr
 have K:Ο Wa (Wa.putObj l (.loop r')):=⟨by simp[World.putObj],fun b c e q hb=>by
  rw[World.putObj_heap_other (fun e'=>by subst e'; rw[hr] at hb; cases hb)]; exact hb⟩
 have sC:Sim νb (cU p v' (gz (ñ v) x)) a' (Wa.putObj l (.loop r')):=sB.ckeep K (fun id k q es b hb hν=>World.putObj_heap_other (by have:=hmu id k q es b hb hν; omega)) (Xd rfl _ (cU_mf _ _ _)) (aaE rfl _ (cU_mft _ _ _))
 have evO:Ev 9 ν2 (cS p v).h w1 νb (cU p v' (gz (ñ v) x)).h (Wa.putObj l (.loop r')):=evT.own (grownBy_putObj' Wa l _) fun q e=>by cases e; exact hl
 have hEnv2:=Xx (cP×cV);have law:=afZ p v' (gz (ñ v) x) fun p v=>some (p,v)
 have hrow:uh v'=pre.map (gz (ñ v)):=by rw[hv']; rfl
 rw[hrow] at law;simp only[dT,cW,dj,df,hok,è] at law;have hgo2:=I8 hEnv2 (path:=[]) rfl (Am.rfB (Am.rfC 7 ĝ)) 4 _ _ νb _ _ (fun h=>by rw[agq] at h; cases h) (fun z hz=>by rw[ago] at hz; cases hz) law sC (dt (show 9≤11 by decide) (Nat.le_of_eq (cU_len p v' (gz (ñ v) x)).symm));refine wpIn_mono hgo2 fun e a3 W3 hb=>?_;obtain⟨νc,Sc,sD,evC,lenC,ddC,kC⟩:=hb;obtain⟨rfl,p',u',hm',hk'⟩:=D7 kC;cases hk';obtain⟨νd,sE,evD,lD,dD⟩:=D4 _ _ _ _ _ _ _ νc a3 W3 hm' sD;have evCD:=evC.trans evD (cH _);refine⟨KJ sC.heap hmu evCD,νd,?_⟩
 have hput:Ĝ v' (pre.map (gz (ñ v))++[gz (ñ v) x])=Ĝ v ((pre++[x]).map (gz (ñ v))):=by
  rw[hv',gF]; rfl
 rw[←hput];exact⟨HR_ghost sE.heap,evO.trans evCD (cH _)⟩
noncomputable def adT (G:Nat→Prop) (y:Val Ä) (w:World) (e:Ending) (w':World):Prop :=
 ∃u,e=.returned u∧RR w' G [Ä] y u∧(∀b,b<w.heap.size→w'.heap[b]?=w.heap[b]?)∧w.heap.size≤w'.heap.size∧w'.os=w.os∧w'.tape=w.tape∧w'.output=w.output
noncomputable def adt (u:Val (tyL jb)):Val Ä:=((u.1,u.2.1),u.2.2.1,u.2.2.2.1,u.2.2.2.2.1,u.2.2.2.2.2.1,u.2.2.2.2.2.2)
def alz (p:cP) (v:cV):mK p v (fun y=>(fun u=>some (adt u)) (j5 y))=mK p v some:=by kernel_rfl
def ai4 (u:Val (tyL jb)):j5 (adt u)=u:=by kernel_rfl
def anx (y:Val Ä):(iI o9 [] jb () (j5 y)).h.map aaK=[false]:=by kernel_rfl
def alw {G:Nat→Prop} {p:cP} {v:cV} {y:Val Ä} {ν:Nat→Value} {a:Act} {w0 W:World} {D:Nat} (H:@Sim ⟨G,[],none⟩ ν (cS p v) a W) (hB:mK p v some=some y) (hD:W.heap[D]?=some (.deferred (some []))) (hnl:¬adS ν (cS p v).h D)
 (hev:Ev 0 (fun _=>undef) [] w0 ν (cS p v).h W) (hDl:w0.heap.size≤D) :
 (Am.postC 7 ĝ).wpIn Fence.wide 2 Tryz.prog (bodyPostM Fence.wide 2 Tryz.prog Tryz.f62 (adT G y w0)) {a with defers:=aeG D::a.defers} W:=by
 have hdf:a.defers=[]:=@Sim.defers ⟨G,[],none⟩ _ _ _ _ H
 letI:ó:=⟨G,[aeG D],none⟩
 have sim:Sim ν (cS p v) {a with defers:=aeG D::a.defers} W:=⟨by show aeG D::a.defers=[aeG D]; rw[hdf],(show _≤a.tmps.size from @Sim.len ⟨G,[],none⟩ _ _ _ _ H),fun i=>afr (@Sim.tmps ⟨G,[],none⟩ _ _ _ _ H i),HR_ghost (@Sim.heap ⟨G,[],none⟩ _ _ _ _ H)⟩;have hEnv:=Xx (Val Ä);have hdraw:∀L call,kY (ę (Val Ä)) L call→lz (ę (Val Ä)) L call:=Dp hmix;have law:=ZQ p v fun u=>some (adt u);rw[alz,hB] at law
 have hL:∀z∈í 0 (Am.postC 7 ĝ),nF (ę (Val Ä)) [] 62 z.1 z.2:=fun z hz =>
  Gq (E:=ę (Val Ä)) (tab:=qo _) rfl J9 (n:=10) (cH _) hEnv (hdraw _ _ hEnv) rfl Tryz.func62 qp z (aeK 7 ĝ 0 Fe hz)
 have hgo:=kM hEnv (hdraw _ _ hEnv) rfl (Am.postC 7 ĝ) 0 _ _ ν _ W hL law sim (dX _);rw[GF rfl] at hgo;refine wpIn_wide.2 (wpIn_wide.1 (wpIn_mono hgo fun e a' W' ha=>?_));obtain⟨νa,Sa,sA,evA,_,_,kA⟩:=ha;obtain⟨rfl,u,hm,hk⟩:=ah6 kA;cases hk;obtain⟨νb,sB,evB,_,_⟩:=D4 _ _ _ _ _ _ _ νa a' W' hm sA
 have hu:iI o9 [] jb () u=iI o9 [] jb () (j5 (adt u)):=by rw[ai4]
 rw[hu] at sB evB;have evT:=(evA.trans evB (cH _));have hD':W'.heap[D]?=some (.deferred (some [])):=(evT.keep D (ē hD) hnl).1.trans hD;have hd':a'.defers=[aeG D]:=sB.defers;show LeavesInM _ _ _ _ _ _ a'.defers _ _;rw[hd'];refine⟨by simp,.inl ⟨D,_,rfl,run_takeDeferred hD',?_⟩⟩;have hlt:=ē hD'
 have K:Ο W' (W'.putObj D (.deferred none)):=⟨by simp[World.putObj],fun b c e q hb=>by
  rw[World.putObj_heap_other (fun e'=>by subst e'; rw[hD'] at hb; cases hb)]; exact hb⟩
 have sC:=sB.ckeep K (fun id k q es b hb hν=>by
  have:=I1 _ id (by rw[hb]; rfl);rw[anx] at this
  rcases id with _|id<;>simp at this) (Xd rfl _ (cR_mf _)) (aaE rfl _ (cR_mft _))
 obtain⟨uu,q1,q2⟩:=Hy sC (acE (adt u));have hall:=hev.trans evT (cH _);refine⟨uu,q1,uu,rfl,US sC.heap [Ä] q2 (show ą [Ä] _ (enc Ä (adt u))=some (adt u) from rfl),fun b hb=>?_,?_,hall.os,hall.tape,hall.output⟩
 ·rw[World.putObj_heap_other (by omega)];exact(hall.keep b hb fun⟨_,h,_⟩=>by cases h).1
 ·have:=hall.size;simpa[World.putObj] using this
def alA (x:Val (.pair Ä (.pair (.slice Â) (.slice Â)))):Ff x.1 x.2.1 x.2.2 cutK=oM.F x:=by kernel_rfl
noncomputable def encG (g:Val Ð):Value:=.agg #[.int .i64 g.1,.int .i64 g.2.1,.int .i64 g.2.2.1,.int .i64 g.2.2.2.1.1,.int .i64 g.2.2.2.1.2,.int .i64 g.2.2.2.2.1.1,.int .i64 g.2.2.2.2.1.2,.int .i64 g.2.2.2.2.2]
def ani [ó] (g:Val Ð) (ν:Nat→Value) (h:List Blk) (w:World):VR ν h w (.agg (flat Ð g)) (encG g) :=
 ⟨_,rfl,⟨rfl,rfl⟩,⟨rfl,rfl⟩,⟨rfl,rfl⟩,⟨rfl,rfl⟩,⟨rfl,rfl⟩,⟨rfl,rfl⟩,⟨rfl,rfl⟩,⟨rfl,rfl⟩,trivial⟩
def aly (G:Nat→Prop) (x:Val (tyL oM.ts)) (y:Val Ä) (hF:oM.F x=some y) (w:World) (vals:List Value) (hG:∀b,G b→b<w.heap.size) (hAL:AL w G oM.ts x vals) :
 (∃fn c,Tryz.prog.funcs[62]?=some fn∧fn.body=some c)∧CallsIn Fence.wide 0 Tryz.prog 62 vals.toArray w (adT G y w):=by
 letI:ó:=⟨G,[],none⟩
 have hlib:L9 (ų (Val Ä)):=PU OI _ rfl rfl rfl rfl rfl (gJ rfl);have hdraw:∀L call,kY (ų (Val Ä)) L call→lz (ų (Val Ä)) L call:=Dp hmix;have hloops:adR (ų (Val Ä)):=fun n hn hE hD path f fn c hp hf hc=>Gq (tab:=CQ _) rfl acG hn hE hD hp hf hc;have hcall:=l6 (.inl ⟨rfl,rfl⟩) hlib hdraw (fun n hn hE=>hloops n hn hE (hdraw _ _ hE)) 10 (cH _);have hEnv:kY (ų (Val Ä)) 2 (jD (ų (Val Ä)) 10):=⟨.inr (pD 9),hcall,hlib.plain,hlib.clone,hlib.joins⟩;have H:HR (fun _=>undef) [] w:=⟨fun _=>trivial,fun _ _ _ h=>(by cases h),hG,fun _ _ h=>(by cases h)⟩;have hav:∀b,Av (fun _=>undef) [] b→G b:=fun b hb=>hb.elim (fun⟨_,h,_⟩=>by cases h) id;have hargs:ă (VR (fun _=>undef) [] w) (ÿ oM.ts x) vals:=AL.VR (hAL.mono hav);refine⟨⟨Tryz.f62,_,Tryz.func62,qp⟩,?_⟩;have hlen:vals.length=3:=hargs.length.symm;refine callsIn_wide.2 (callsIn_wide.1 (callsIn_of_wp_marks (n:=2) Tryz.func62 qp trivial ?_ (R:=adT G y w)))
 have hS:Sim (fun _=>undef) {t:=ÿ oM.ts x++List.replicate 127 .any,h:=[]} {tmps:=vals.toArray++Array.replicate (Tryz.f62.ntmps-vals.toArray.size) undef,defers:=[]} w:=by
  refine⟨rfl,?_,fun i=>?_,H⟩
  ·have:Tryz.f62.ntmps=130:=by kernel_rfl
   have hl2:(ÿ oM.ts x).length=3:=rfl;simp[this,hlen,hl2]
  ·simp only[PT];rcases dv i (ÿ oM.ts x).length with hi|hi
   ·have:=ă.lk (R:=VR (fun _=>undef) [] w) (fun _=>trivial) i hargs
    have hv:i<vals.length:=by rw[←hargs.length]; exact hi
    have h2:(vals.toArray++Array.replicate (Tryz.f62.ntmps-vals.toArray.size) undef).getD i undef=vals.getD i undef:=by
     simp[dI,eJ,hv]
    rw[h2]; exact this
   ·rw[aio _ _ hi]; trivial
 have law:=(acF x cutK).trans ((alA x).trans hF);refine peelN rfl hEnv (hdraw _ _ hEnv) rfl (path:=[]) rfl (fun e S hne h=>hne (D7 h).1) 7 ĝ _ _ _ _ Fe (fun z hz=>hloops 10 (cH _) hEnv (hdraw _ _ hEnv) [] 62 Tryz.f62 ĝ rfl Tryz.func62 qp z hz) law hS (fun ν1 S1 a1 w1 s1 e1 k1=>?_);obtain⟨_,p,v,hm,hk⟩:=D7 k1;obtain⟨hrow,hk⟩:=ads hk
 cases hz:zE (ñ v) (Ŝ v) with
 |none=>rw[hz] at hk; cases hk
 |some z =>
 rw[hz] at hk;have hB:mK p (Ĝ v z) some=some y:=hk;obtain⟨hzl,hzs⟩:=aix hz;obtain⟨ν2,s2,e2,_,_⟩:=D4 _ _ _ _ _ _ _ ν1 a1 w1 hm s1;have evw:=e1.trans e2 (cH _)
 have hv0:Ĝ v []=v:=by rw[←hrow]; rfl
 have s2':Sim ν2 (cS p v) a1 w1:=s2
 -- the blocks
 obtain⟨fa,fb,us,lo,co,ko,h5⟩:=cS_5 p v;have hB5:=s2'.heap.blk 5;rw[h5] at hB5;obtain⟨bb,cb,te,n5,hbb,hc5⟩:=hB5;have hB6:=s2'.heap.blk 6;rw[cS_6] at hB6;obtain⟨tb,ct,tt,n6,htb,hc6⟩:=hB6;have hl5:=hc5.length
 obtain⟨u1,u2,u3,u4,u5,u6,u7,hcb⟩:∃u1 u2 u3 u4 u5 u6 u7,cb.toList=[u1,u2,u3,u4,u5,u6,u7]:=by
  rcases hcs:cb.toList with _|⟨u1,_|⟨u2,_|⟨u3,_|⟨u4,_|⟨u5,_|⟨u6,_|⟨u7,_|⟨u8,t⟩⟩⟩⟩⟩⟩⟩⟩<;>rw[hcs] at hl5<;>simp at hl5
  exact⟨u1,u2,u3,u4,u5,u6,u7,rfl⟩
 rw[hcb] at hc5;obtain⟨_,_,hc3,_⟩:=hc5;have hg3:CR w1 (Av ν2 (cS p v).h) (.slice Ð) (ñ v) [u3]:=hc3.1;obtain⟨base,cap,eu3,hcap,hgl⟩:=hg3
 have eu3:u3=.slice base (ñ v).length cap:=by simpa using eu3
 obtain⟨gb,go,hgb⟩:∃gb go,0<(ñ v).length→base=some ⟨gb,go,none⟩∧¬Av ν2 (cS p v).h gb∧gb<w1.heap.size∧∀(i:Nat) (g:Val Ð),(ñ v)[i]?=some g→∃us,CR w1 (Av ν2 (cS p v).h) Ð g us∧ń w1 gb (go+i*8) us:=by
  rcases hgl with hgl|⟨gb,go,q1,q2,q3,q4⟩
  ·exact⟨0,0,fun h=>by rw[show(ñ v)=[] from hgl] at h; simp at h⟩
  ·exact⟨gb,go,fun _=>⟨q1,q2,q3,q4⟩⟩
 obtain⟨gl,hgle⟩:∃gl,gl=ñ v:=⟨_,rfl⟩;rw[←hgle] at hgb eu3
 have hR:∀b,(0<gl.length∧b=gb)→b<w1.heap.size∧¬adS ν2 (cS p v).h b:=fun b ⟨h,e⟩=>by subst e; obtain⟨_,q2,q3,_⟩:=hgb h; exact⟨q3,fun hl=>q2 (.inl hl)⟩
 have hnd:∀pre W,CI G p v ν2 w1 pre W→KNd w1 (fun b=>0<gl.length∧b=gb) tb (Ŝ v) W:=fun pre W hI=>hI.nd s2'.heap hR n6
 have hI0:CI G p v ν2 w1 [] w1:=by
  refine⟨ν2,?_,?_⟩
  ·rw[show Ĝ v (([]:List Nat).map (gz (ñ v)))=v from hv0]; exact s2'.heap
  ·rw[show Ĝ v (([]:List Nat).map (gz (ñ v)))=v from hv0]; exact Ev.refl _ _ _ _
 have hp59:=s2'.tmps 59;rw[cS_59] at hp59
 have hg:a1.tmps.getD 59 undef=.func (.func 186) #[] #[.pointer (some ⟨bb,0,none⟩),.pointer (some ⟨tb,0,none⟩)]:=by
  obtain⟨fs,cs,h1,h2,h3⟩:=hp59
  have e1:fs=#[]:=by rw[←dM]; exact h2.nil_left
  have hl:=h3.length
  obtain⟨v1,v2,e2⟩:∃v1 v2,cs.toList=[v1,v2]:=by
   rcases hcs:cs.toList with _|⟨v1,_|⟨v2,_|⟨v3,t⟩⟩⟩<;>rw[hcs] at hl<;>simp at hl
   exact⟨v1,v2,rfl⟩
  rw[e2] at h3;have e3:v1=.pointer (some ⟨bb,0,none⟩):=zb (w:=w1) (id:=5) (off:=0) h3.1 n5;have e4:v2=.pointer (some ⟨tb,0,none⟩):=zb (w:=w1) (id:=6) (off:=0) h3.2.1 n6;rw[h1,e1];congr 1;rw[←dM,e2,e3,e4]
 have hcbe:cb=#[u1,u2,.slice base gl.length cap,u4,u5,u6,u7]:=by rw[←dM,hcb,eu3]
 have hseq:SeqStopsK Fence.wide 1 Tryz.prog 186 #[.pointer (some ⟨bb,0,none⟩),.pointer (some ⟨tb,0,none⟩)] (fun j:Nat=>#[encG (gz gl j)]) (fun A B=>KNd w1 (fun b=>0<gl.length∧b=gb) tb (Ŝ v) A→KNd w1 (fun b=>0<gl.length∧b=gb) tb (Ŝ v) B)
  (fun xs=>xs=Q1 (fun j=>K4 (Ŝ v) (gz gl j).1) gl.length) (fun _=>True) (Q1 (fun j=>K4 (Ŝ v) (gz gl j).1) gl.length).length w1:=by
  intro l J Jx W hbel hJ hJx hY h0
  refine am5 te 1 (by omega) l bb tb u1 u2 u4 u5 u6 u7 gb go gl.length cap base (fun h=>(hgb h).1) (fun j=>(gz gl j).1) (fun j=>(gz gl j).2.1) (fun j=>(gz gl j).2.2.1) (fun j=>(gz gl j).2.2.2.1.1) (fun j=>(gz gl j).2.2.2.1.2) (fun j=>(gz gl j).2.2.2.2.1.1) (fun j=>(gz gl j).2.2.2.2.1.2) (fun j=>(gz gl j).2.2.2.2.2)
   (fun j=>K4 (Ŝ v) (gz gl j).1) ?len (KNd w1 (fun b=>0<gl.length∧b=gb) tb (Ŝ v)) W ((hbel.block bb (ē hbb)).trans (by rw[hbb,hcbe])) ?cells ?maps (fun W1 W2 h hg=>h.grown (fun b hb=>(hR b hb).1) hg) ((hnd [] w1 hI0).below (fun b hb=>(hR b hb).1) hbel.size hbel.block)
   J Jx (fun pre W1 W2 hj hg=>hJ pre W1 W2 none hj hg (fun r e=>by cases e)) (fun pre W1 W2 hj hg=>hJx pre W1 W2 none hj hg (fun r e=>by cases e)) (fun pre j W1 hj hl=>hY pre j W1 hj hl) h0
  case len =>
   have:=hzl;rw[←hgle] at this;simp only[ç,decide_eq_true_eq] at this;omega
  case cells =>
   intro W' hW j hj;obtain⟨q1,q2,q3,q4⟩:=hgb (by omega);obtain⟨vs,r1,r2⟩:=q4 j (gz gl j) (by simp[gz,cG hj]);have r2:=r2.keep (w':=W') (hW.2.1 gb ⟨by omega,rfl⟩);rw[adg r1] at r2;refine⟨?_,?_,?_,?_,?_,?_,?_,?_⟩
   ·simpa using r2 0 _ rfl
   ·simpa[eP] using r2 1 _ rfl
   ·simpa[eP] using r2 2 _ rfl
   ·simpa[eP] using r2 3 _ rfl
   ·simpa[eP] using r2 4 _ rfl
   ·simpa[eP] using r2 5 _ rfl
   ·simpa[eP] using r2 6 _ rfl
   ·simpa[eP] using r2 7 _ rfl
  case maps =>
   intro W' hW;obtain⟨_,_,h3,mb,h4,h5,h6⟩:=id hW;refine⟨.map (some mb),fun W'' hg=>?_⟩;obtain⟨k1,_,k3,mb',k4,k5,k6⟩:=hW.grown (fun b hb=>(hR b hb).1) hg
   have:mb'=mb:=by
    have e:=World.cell?_of_block (a:=⟨tb,0,none⟩) (hg.block tb (dk h3 hW.1) (by simp));rw[e,h5] at k5;cases k5; rfl
   subst this;exact⟨k5,fun j _=>ak0 k6 _⟩
 rw[afY];refine wpIn_block (Q3 (n:=2) rfl (by omega) hg trivial (fun args w=>?eg) hseq (fun h k=>fun q=>k (h q)) (fun W l o o' hl ho _ _ hW=>?kb) (Below.refl _ _) (fun _=>rfl) (CI G p v ν2 w1) (CI.own s2'.heap) hI0 (fun l pre j W hl _ hI hlt=>?round) (fun D xs W hD hxs hI hDo=>?done))
 case eg=>simp[callFunc,Sem.run_bind,run_program,Result.andThen_ok,Tryz.func186,plain 186 _ Tryz.func186,show Tryz.f186.body.isNone=false from rfl]; rfl
 case kb=>exact hW.below (fun b hb=>(hR b hb).1) (by simp[World.putObj]) fun b hb=>World.putObj_heap_other (by omega)
 case round =>
  have hf:∀u:Value,((#[60]:Array Tmp).zip #[u]).foldl (fun t (p,v)=>t.setIfInBounds p v) a1.tmps=a1.tmps.setIfInBounds 60 u:=fun u=>by simp
  show Code.wpIn (Fence.wide.inRound l) 0 Tryz.prog _ _ ⟨((#[60]:Array Tmp).zip #[encG (gz gl j)]).foldl (fun t (p,v)=>t.setIfInBounds p v) a1.tmps,[]⟩ W;rw[hf];refine wpIn_mono (ai5 s2' l pre j W hl hI ?_ (u:=encG (gz gl j)) (by rw[hgle]; exact fun ν h w=>ani _ ν h w)) fun e a' Wa ha=>?_
  ·refine akP hzl ?_;have:=ab2 (fun j=>K4 (Ŝ v) (gz gl j).1) gl.length;rw[←hgle];omega
  ·cases e with
   |normal =>
    refine⟨ha.1,fun r' hr=>wpIn_mono (ha.2 r' hr) fun e a3 W3 hb=>?_⟩
    cases e with
    |normal=>exact⟨hb.1,fun _=>hnd _ _ hb.2,hb.2⟩
    |_=>exact hb
   |_=>exact ha
 case done =>
  subst hxs;obtain⟨ν',Hd,evd⟩:=hI
  have hzz:(Q1 (fun j=>K4 (Ŝ v) (gz gl j).1) gl.length).map (gz (ñ v))=z:=by rw[hzs,hgle]
  rw[hzz] at Hd evd;have hml:=zt s2'.heap evd (alU p v) (adJ _ _) (t:=[false]) (by simp);have ht:(cS p (Ĝ v z)).t=(cS p v).t:=cS_t _ _ _
  have simD:Sim ν' (cS p (Ĝ v z)) a1 W:=by
   refine⟨s2'.defers,?_,fun i=>?_,Hd⟩
   ·rw[ht]; exact s2'.len
   ·rw[ht]; exact VR.pin evd (aaE rfl _ (amy p v) i) (s2'.tmps i)
  exact alw simD hB hDo (T7 Hd hml hD hDo rfl) (evw.trans (evd.mono (dX _)) (cH _)) (dt evw.size hD)
def ajp:Ï Tryz.prog 62 oM:=fun G x y hF w vals hG hAL=>aly G x y hF w vals hG hAL
end Go.Proofs.ZzM
end

noncomputable section
set_option maxRecDepth 100000
namespace Go.Proofs.ZzM
open Go Go.Am
def agB:Ï Tryz.prog 30 Tl:=Ç (JN _) (fun {_}=>Ď Æ _) hmix (tab:=AM _) rfl Æ (Å fun x=>Q8 x some)
def alI:Ï Tryz.prog 10 aep:=Ç (HL _) (fun {_}=>Ď (Á agB Æ) _) hmix (tab:=JM _) rfl (Á Q7 Æ) (Å fun x=>Zl x some)
def iW:Ï Tryz.prog 136 ů:=Ç (Š _) (fun {_}=>Ď Æ _) hmix (tab:=χ _) rfl (Á km Æ) (Å fun x=>lK x some)
def iX:Ï Tryz.prog 67 iM:=Ç (PP _) (fun {_}=>Ď (Á ř (Á QH (Á iW Æ))) _) hmix (tab:=Gp _) rfl Æ (Å fun x=>W9 x some)
def jW:Ï Tryz.prog 50 iL:=Ç (EK _) (fun {_}=>Ď (Á iX Æ) _) hmix (tab:=xO _) rfl Æ (Å fun x=>OA x some)
def qR:Ï Tryz.prog 117 mr:=Ç (Υ _) (fun {_}=>Ď Æ _) hmix (tab:=wg _) rfl (Á FB (Á FA (Á Fy (Á Fz (Á Fx Æ))))) (Å fun x=>LN x some)
def XF:Ï Tryz.prog 139 Mk:=Ç (TS _) (fun {_}=>Ď Æ _) hmix (tab:=Kg _) rfl Æ (Å fun x=>Z2 x some)
def y0:Ï Tryz.prog 138 rS:=Ç (C1 _) (fun {_}=>Ď (Á XF Æ) _) hmix (tab:=FI _) rfl (Á Pa Æ) (Å fun x=>Wx x some)
def ajt:Ï Tryz.prog 112 YX:=Ç (C0 _) (fun {_}=>Ď (Á qR (Á y0 (Á XF Æ))) _) hmix (tab:=FE _) rfl (Á O0 Æ) (Å fun x=>Wu x some)
def agN:Ï Tryz.prog 120 Tz:=Ç (iQ _) (fun {_}=>Ď Æ _) hmix (tab:=Bs _) rfl (Á LU (Á LS (Á LR (Á LP (Á LQ Æ))))) (Å fun x=>Si x some)
def Hb:Ï Tryz.prog 114 wS:=Ç (Pg _) (fun {_}=>Ď (Á ajt (Á agN Æ)) _) hmix (tab:=FM _) rfl Æ (Å fun x=>Wz x some)
def mo:Ï Tryz.prog 51 jr:=Ç (vR _) (fun {_}=>Ď (Á Hb Æ) _) hmix (tab:=ql _) rfl Æ (Å fun x=>EJ x some)
def B4:Ï Tryz.prog 64 qW:=Ç (vQ _) (fun {_}=>Ď (Á jW (Á mo Æ)) _) hmix (tab:=qk _) rfl Æ (Å fun x=>EI x some)
def tv:Ï Tryz.prog 65 lG:=Ç (oX _) (fun {_}=>Ď (Á jW (Á mo Æ)) _) hmix (tab:=mJ _) rfl Æ (Å fun x=>xN x some)
def l7:Ï Tryz.prog 48 i5:=Ç (jQ _) (fun {_}=>PU (Á B4 (Á tv Æ)) (jQ _) rfl rfl rfl rfl rfl (gJ rfl)) hmix (tab:=mI _) rfl Æ (Å fun x=>xM x some)
def KS:Ï Tryz.prog 198 wT:=Ç (BQ _) (fun {_}=>Ď (Á iW Æ) _) hmix (tab:=wq _) rfl Æ (Å fun x=>LY x some)
def L5:Ï Tryz.prog 263 vK:=Ç (qE _) (fun {_}=>Ď Æ _) hmix (tab:=ny _) rfl Æ (Å fun x=>Ar x some)
def za:Ï Tryz.prog 266 rU:=Ç (C2 _) (fun {_}=>Ď (Á Hc Æ) _) hmix (tab:=FN _) rfl (Á Pj Æ) (Å fun x=>WA x some)
def QF:Ï Tryz.prog 294 Cm:=Ç (FO _) (fun {_}=>Ď (Á afd (Á ajx Æ)) _) hmix (tab:=yq _) rfl Æ (Å fun x=>Pl x some)
def anv:Ï Tryz.prog 283 ahF:=Ç (aag _) (fun {_}=>Ď (Á za (Á QF Æ)) _) hmix (tab:=Ps _) rfl Æ (Å fun x=>acT x some)
def XH:Ï Tryz.prog 264 DY:=Ç (yv _) (fun {_}=>Ď (Á anv Æ) _) hmix (tab:=sQ _) rfl Æ (Å fun x=>IP x some)
def adF:Ï Tryz.prog 300 acg:=Ç (aae _) (fun {_}=>Ď Æ _) hmix (tab:=Pp _) rfl Æ (Å fun x=>acR x some)
def B5:Ï Tryz.prog 295 AJ:=Ç (wn _) (fun {_}=>Ď (Á za (Á adF Æ)) _) hmix (tab:=qD _) rfl Æ (Å fun x=>FS x some)
def ajz:Ï Tryz.prog 298 ahG:=Ç (aai _) (fun {_}=>Ď (Á za (Á QF Æ)) _) hmix (tab:=Pv _) rfl Æ (Å fun x=>acV x some)
def ajy:Ï Tryz.prog 284 Y1:=Yz (C4 _) (aah _) (fun {_}=>PU (Á Hc (Á B5 (Á ajz (Á adF Æ)))) (C4 _) rfl rfl rfl rfl rfl (gJ rfl)) (fun {_}=>Ď (Á Hc (Á B5 (Á ajz (Á adF Æ)))) _) rfl hmix (tab:=uF _) rfl Æ (us:=Kq) rfl (Á (by kernel_rfl) Æ) (Å fun x=>WF x some)
def XG:Ï Tryz.prog 265 DX:=Ç (yu _) (fun {_}=>Ď (Á ajy Æ) _) hmix (tab:=sP _) rfl Æ (Å fun x=>IM x some)
def Uy:Ï Tryz.prog 238 HG:=Ç (Kz _) (fun {_}=>Ď (Á QG (Á He (Á L5 (Á XH (Á XG Æ))))) _) hmix (tab:=BU _) rfl Æ (Å fun x=>SG x some)
def abr:Ï Tryz.prog 239 Np:=Ç (PM _) (fun {_}=>Ď Æ _) hmix (tab:=Gd _) rfl Æ (Å fun x=>WX x some)
def abp:Ï Tryz.prog 267 Nl:=Ç (Po _) (fun {_}=>Ď Æ _) hmix (tab:=FP _) rfl Æ (Å fun x=>WD x some)
def afe:Ï Tryz.prog 240 U2:=Ç (T1 _) (fun {_}=>Ď (Á za (Á abp Æ)) _) hmix (tab:=Ks _) rfl Æ (Å fun x=>aak x some)
def abq:Ï Tryz.prog 241 Nn:=Ç (Pw _) (fun {_}=>Ď (Á za (Á abp Æ)) _) hmix (tab:=FT _) rfl Æ (Å fun x=>WG x some)
def aff:Ï Tryz.prog 203 U3:=Ç (T2 _) (fun {_}=>Ď (Á Uy (Á abr (Á afe (Á abq Æ)))) _) hmix (tab:=Ku _) rfl Æ (Å fun x=>aan x some)
def alR:Ï Tryz.prog 235 aey:=Ç (zA _) (fun {_}=>Ď (Á l8 Æ) _) hmix (tab:=Kw _) rfl (Á SA (Á Sz Æ)) (Å fun x=>aaq x some)
def afg:Ï Tryz.prog 137 U4:=Ç (sR _) (fun {_}=>Ď (Á QH (Á afh (Á KS (Á He (Á aff (Á alR Æ)))))) _) hmix (tab:=Kv _) rfl (Á Sx (Á Sy (Á Sw Æ))) (Å fun x=>aap x some)
def ş:Ï Tryz.prog 68 ś:=Ç (KD _) (fun {_}=>Ď (Á ř (Á afg Æ)) _) hmix (tab:=BV _) rfl Æ (Å fun x=>SL x some)
def om:Ï Tryz.prog 110 nI:=Ç (IY _) (fun {_}=>Ď (Á ř Æ) _) hmix (tab:=KG _) rfl (Á SN Æ) (Å fun x=>aay x some)
def ő:Ï Tryz.prog 111 ŏ:=Ç (wi _) (fun {_}=>Ď (Á qR (Á y0 Æ)) _) hmix (tab:=qw _) rfl Æ (Å fun x=>FG x some)
def abn:Ï Tryz.prog 12 JL:=Ç (rg _) (fun {_}=>Ď (Á l7 (Á ř (Á iX (Á ş (Á om (Á ő Æ)))))) _) hmix (tab:=vU _) rfl (Á Ft Æ) (Å fun x=>LK x some)
def adE:Ï Tryz.prog 14 Nj:=Ç (uz _) (fun {_}=>Ď (Á jW (Á mo (Á ř (Á iX (Á ş (Á om (Á ő Æ))))))) _) hmix (tab:=yd _) rfl (Á Iy Æ) (Å fun x=>OW x some)
def Dr:Ï Tryz.prog 57 Cj:=Ç (EH _) (fun {_}=>Ď Æ _) hmix (tab:=xK _) rfl Æ (Å fun x=>Oy x some)
def ajr:Ï Tryz.prog 21 YV:=Ç (CV _) (fun {_}=>Ď (Á l7 (Á Dr (Á ř (Á iX (Á ş (Á om (Á ő Æ))))))) _) hmix (tab:=Fs _) rfl (Á OO Æ) (Å fun x=>Wn x some)
def abo:Ï Tryz.prog 122 Nk:=Ç (IC _) (fun {_}=>Ď Æ _) hmix (tab:=Z3 _) rfl (Á acN (Á acL (Á acK (Á acM Æ)))) (Å fun x=>aia x some)
def ajw:Ï Tryz.prog 61 Y0:=Ç (pd _) (fun {_}=>Ď (Á Hb (Á abo Æ)) _) hmix (tab:=FL _) rfl (Á Pe (Á Pc (Á Pd Æ))) (Å fun x=>Wy x some)
def XE:Ï Tryz.prog 60 DU:=Ç (yc _) (fun {_}=>Ď (Á jW (Á ajw Æ)) _) hmix (tab:=sF _) rfl Æ (Å fun x=>Ix x some)
def QD:Ï Tryz.prog 63 Ck:=Ç (t8 _) (fun {_}=>Ď (Á ş Æ) _) hmix (tab:=xL _) rfl (Á Ic Æ) (Å fun x=>Oz x some)
def adD:Ï Tryz.prog 24 Ni:=Ç (kJ _) (fun {_}=>PU (Á XE (Á ajp (Á QD (Á B4 (Á tv (Á ř (Á iX (Á ş (Á om (Á ő Æ)))))))))) (kJ _) rfl rfl rfl rfl rfl (gJ rfl)) hmix (tab:=yb _) rfl (Á Iw (Á Iv Æ)) (Å fun x=>OV x some)
def QE:Ï Tryz.prog 140 Cl:=Ç (uB _) (fun {_}=>Ď Æ _) hmix (tab:=yf _) rfl (Á IB Æ) (Å fun x=>OY x some)
def afc:Ï Tryz.prog 141 U0:=Ç (Iz _) (fun {_}=>Ď Æ _) hmix (tab:=Kf _) rfl (Á Sg Æ) (Å fun x=>Z1 x some)
def SX:Ï Tryz.prog 69 AI:=Ç (wm _) (fun {_}=>Ď (Á y0 (Á XF (Á QE (Á afc Æ)))) _) hmix (tab:=qz _) rfl Æ (Å fun x=>FK x some)
def Ha:Ï Tryz.prog 25 tJ:=Ç (ya _) (fun {_}=>Ď (Á ř (Á iX (Á ş (Á SX Æ)))) _) hmix (tab:=sw _) rfl Æ (Å fun x=>Iu x some)
def afi:Ï Tryz.prog 147 U7:=Ç (IW _) (fun {_}=>Ď (Á ř Æ) _) hmix (tab:=KC _) rfl (Á SK Æ) (Å fun x=>aaw x some)
def ajB:Ï Tryz.prog 200 Y3:=Ç (PA _) (fun {_}=>Ď (Á Uy (Á abr (Á afe (Á abq Æ)))) _) hmix (tab:=FV _) rfl Æ (Å fun x=>WL x some)
def adI:Ï Tryz.prog 146 Nq:=Ç (Gl _) (fun {_}=>Ď (Á Hb (Á afg (Á afi (Á KS (Á He (Á ajB Æ)))))) _) hmix (tab:=yC _) rfl Æ (Å fun x=>PO x some)
def ajA:Ï Tryz.prog 202 Y2:=Ç (Py _) (fun {_}=>Ď (Á ř Æ) _) hmix (tab:=FU _) rfl Æ (Å fun x=>WK x some)
def alT:Ï Tryz.prog 148 aeA:=Ç (T3 _) (fun {_}=>Ď (Á ajA (Á aff Æ)) _) hmix (tab:=KE _) rfl Æ (Å fun x=>aax x some)
def Uz:Ï Tryz.prog 149 HH:=Ç (KH _) (fun {_}=>Ď (Á He (Á Ux Æ)) _) hmix (tab:=BW _) rfl Æ (Å fun x=>SO x some)
def abm:Ï Tryz.prog 150 JK:=Ç (Bk _) (fun {_}=>Ď (Á jW Æ) _) hmix (tab:=vT _) rfl Æ (Å fun x=>LG x some)
def abl:Ï Tryz.prog 151 JJ:=Ç (Bj _) (fun {_}=>Ď (Á mo Æ) _) hmix (tab:=vS _) rfl Æ (Å fun x=>LF x some)
def Jq:Ï Tryz.prog 76 HE:=Ç (qn _) (fun {_}=>PU (Á jW (Á ş (Á adI (Á afi (Á alT (Á Uz (Á abm (Á abl Æ)))))))) (qn _) rfl rfl rfl rfl rfl (gJ rfl)) hmix (tab:=Bi _) rfl (Á LD Æ) (Å fun x=>RU x some)
def vD:Ï Tryz.prog 82 tG:=Ç (xT _) (fun {_}=>Ď Æ _) hmix (tab:=sh _) rfl Æ (Å fun x=>Ih x some)
def agL:Ï Tryz.prog 154 Tw:=Ç (J8 _) (fun {_}=>Ď Æ _) hmix (tab:=Bl _) rfl Æ (Å fun x=>RV x some)
def rH:Ï Tryz.prog 86 qU:=Ç (vO _) (fun {_}=>Ď (Á agL Æ) _) hmix (tab:=qi _) rfl Æ (Å fun x=>EF x some)
def rI:Ï Tryz.prog 88 qV:=Ç (jG _) (fun {_}=>Ď Æ _) hmix (tab:=qj _) rfl (Á Al (Á Ao Æ)) (Å fun x=>EG x some)
def QC:Ï Tryz.prog 77 wR:=Ç (lN _) (fun {_}=>Ď (Á Ş (Á vD (Á rH (Á rI Æ)))) _) hmix (tab:=oS _) rfl (Á xJ Æ) (Å fun x=>CJ x some)
def ajq:Ï Tryz.prog 31 YU:=Ç (CT _) (fun {_}=>Ď (Á ř (Á iX (Á ş (Á Jq (Á QC (Á om (Á ő Æ))))))) _) hmix (tab:=Fg _) rfl (Á OK Æ) (Å fun x=>Wi x some)
def G9:Ï Tryz.prog 83 DT:=Ç (xW _) (fun {_}=>Ď Æ _) hmix (tab:=sr _) rfl Æ (Å fun x=>Ip x some)
def G8:Ï Tryz.prog 84 DS:=Ç (xU _) (fun {_}=>Ď Æ _) hmix (tab:=si _) rfl Æ (Å fun x=>Ii x some)
def adB:Ï Tryz.prog 35 Ng:=Yz (uj _) (ď _) (fun {_}=>PU (Á Dr (Á ř (Á iX (Á ş (Á Jq (Á Ş (Á vD (Á G9 (Á G8 (Á rH (Á rI (Á om (Á ő Æ))))))))))))) (uj _) rfl rfl rfl rfl rfl (gJ rfl)) (fun {_}=>PU (Á Dr (Á ř (Á iX (Á ş (Á Jq (Á Ş (Á vD (Á G9 (Á G8 (Á rH (Á rI (Á om (Á ő Æ))))))))))))) (ď _) rfl rfl rfl rfl rfl (gJ rfl)) rfl hmix (tab:=pb _) rfl (Á Io (Á Im Æ)) (us:=re) rfl (Á (by kernel_rfl) Æ) (Å fun x=>OM x some)
def ajv:Ï Tryz.prog 91 YZ:=Ç (jS _) (fun {_}=>Ď (Á qR (Á abo (Á y0 Æ))) _) hmix (tab:=FH _) rfl (Á O8 (Á O4 (Á O5 (Á O6 (Á O7 Æ))))) (Å fun x=>Ww x some)
def ajs:Ï Tryz.prog 38 YW:=Ç (OT _) (fun {_}=>Ď (Á ajp (Á QD (Á ş (Á ajv Æ)))) _) hmix (tab:=Fu _) rfl Æ (Å fun x=>Wo x some)
def abi:Ï Tryz.prog 44 JI:=Ç (AK _) (fun {_}=>Ď Æ _) hmix (tab:=vL _) rfl Æ (Å fun x=>La x some)
def alO:Ï Tryz.prog 106 aev:=Ç (TR _) (fun {_}=>Ď (Á Uz Æ) _) hmix (tab:=J6 _) rfl Æ (Å fun x=>ZM x some)
def ajo:Ï Tryz.prog 107 YT:=Ç (OG _) (fun {_}=>Ď Æ _) hmix (tab:=Fc _) rfl Æ (Å fun x=>V9 x some)
def ajn:Ï Tryz.prog 108 YS:=Ç (CP _) (fun {_}=>Ď (Á Ş Æ) _) hmix (tab:=E9 _) rfl (Á OB Æ) (Å fun x=>V7 x some)
def alQ:Ï Tryz.prog 45 aex:=Ç (zx _) (fun {_}=>Ď (Á l7 (Á ř (Á iX (Á ş (Á alO (Á ajo (Á ajn (Á om (Á ő Æ))))))))) _) hmix (tab:=Ke _) rfl (Á Sb (Á R0 Æ)) (Å fun x=>ZY x some)
def SW:Ï Tryz.prog 92 AH:=Ç (wj _) (fun {_}=>Ď (Á y0 (Á QE (Á afc Æ))) _) hmix (tab:=qy _) rfl Æ (Å fun x=>FJ x some)
def SV:Ï Tryz.prog 39 AG:=Ç (vX _) (fun {_}=>Ď (Á ř (Á ş (Á SW Æ))) _) hmix (tab:=qu _) rfl Æ (Å fun x=>Fv x some)
def nu:Ï Tryz.prog 248 ir:=Ç (Ŋ _) (fun {_}=>Ď Æ _) hmix (tab:=Λ _) rfl (Á jN Æ) (Å fun x=>kq x some)
def lm:Ï Tryz.prog 216 θ:=Ç (Ž _) (fun {_}=>Ď (Á nu Æ) _) hmix (tab:=ũ _) rfl Æ (Å fun x=>jv x some)
def rG:Ï Tryz.prog 250 jq:=Ç (Ű _) (fun {_}=>Ď Æ _) hmix (tab:=iu _) rfl (Á lJ Æ) (Å fun x=>ni x some)
def ol:Ï Tryz.prog 219 iC:=Ç (gP _) (fun {_}=>Ď (Á rG Æ) _) hmix (tab:=ξ _) rfl Æ (Å fun x=>lh x some)
def pE:Ï Tryz.prog 252 iK:=Ç (š _) (fun {_}=>Ď Æ _) hmix (tab:=ψ _) rfl (Á kp Æ) (Å fun x=>lL x some)
def m7:Ï Tryz.prog 222 gN:=Ç (ο _) (fun {_}=>Ď (Á pE Æ) _) hmix (tab:=ż _) rfl Æ (Å fun x=>ke x some)
def alP:Ï Tryz.prog 109 aew:=Ç (Γ _) (fun {_}=>Ď (Á lm (Á ol (Á m7 Æ))) _) hmix (tab:=J7 _) rfl (Á RS (Á RO (Á RN (Á RP (Á RQ (Á RM (Á RL (Á RK (Á RJ (Á RI Æ)))))))))) (Å fun x=>ZN x some)
def agM:Ï Tryz.prog 46 Tx:=Ç (Kd _) (fun {_}=>Ď (Á Ha (Á SV (Á ř (Á alP Æ)))) _) hmix (tab:=Bo _) rfl Æ (Å fun x=>RZ x some)
def adx:Ï Tryz.prog 11 M8:=Ç (Ea _) (fun {_}=>Ď (Á abn (Á adE (Á ajr (Á adD (Á Ha (Á ajq (Á adB (Á ajs (Á abi (Á alQ (Á agM Æ))))))))))) _) hmix (tab:=wY _) rfl Æ (Å fun x=>NA x some)
def qQ:Ï Tryz.prog 94 mq:=Ç (AQ _) (fun {_}=>Ď Æ _) hmix (tab:=vM _) rfl Æ (Å fun x=>Lc x some)
def QA:Ï Tryz.prog 164 HC:=Ç (Zy _) (fun {_}=>Ď Æ _) hmix (tab:=N7 _) rfl Æ (Å fun x=>acq x some)
def MH:Ï Tryz.prog 100 DR:=Ç (TL _) (fun {_}=>Ď (Á QA Æ) _) hmix (tab:=JW _) rfl Æ (Å fun x=>ZB x some)
def afa:Ï Tryz.prog 209 UY:=Ç (H8 _) (fun {_}=>Ď Æ _) hmix (tab:=J2 _) rfl (Á RD Æ) (Å fun x=>ZI x some)
def afb:Ï Tryz.prog 210 UZ:=Ç (TQ _) (fun {_}=>Ď Æ _) hmix (tab:=J5 _) rfl Æ (Å fun x=>ZL x some)
def agI:Ï Tryz.prog 163 Tt:=Ç (JX _) (fun {_}=>Ď (Á afa (Á afb Æ)) _) hmix (tab:=Be _) rfl Æ (Å fun x=>RB x some)
def agF:Ï Tryz.prog 95 Tq:=Ç (JR _) (fun {_}=>Ď (Á qQ (Á MH (Á agI (Á QA Æ)))) _) hmix (tab:=AX _) rfl Æ (Å fun x=>Rf x some)
def G7:Ï Tryz.prog 166 wQ:=Ç (CF _) (fun {_}=>Ď Æ _) hmix (tab:=Ey _) rfl (Á N9 Æ) (Å fun x=>VM x some)
def Aa:Ï Tryz.prog 101 rQ:=Ç (JT _) (fun {_}=>Ď (Á G7 Æ) _) hmix (tab:=A1 _) rfl Æ (Å fun x=>Rn x some)
def ajd:Ï Tryz.prog 96 YI:=Ç (Cu _) (fun {_}=>Ď (Á MH (Á Aa Æ)) _) hmix (tab:=Ee _) rfl (Á NE Æ) (Å fun x=>Vp x some)
def agD:Ï Tryz.prog 97 Tn:=Ç (mG _) (fun {_}=>Ď (Á qQ (Á Aa (Á QA Æ))) _) hmix (tab:=AU _) rfl (Á Le (Á Ld (Á Lf Æ))) (Å fun x=>Rc x some)
def ajh:Ï Tryz.prog 165 YM:=Ç (CA _) (fun {_}=>Ď (Á QA Æ) _) hmix (tab:=Ep _) rfl (Á NT Æ) (Å fun x=>VD x some)
def agC:Ï Tryz.prog 98 Tm:=Ç (JO _) (fun {_}=>Ď (Á qQ (Á MH (Á QA (Á ajh Æ)))) _) hmix (tab:=AR _) rfl Æ (Å fun x=>Rb x some)
def abj:Ï Tryz.prog 167 Na:=Ç (CC _) (fun {_}=>Ď Æ _) hmix (tab:=Et _) rfl (Á N2 Æ) (Å fun x=>VH x some)
def alJ:Ï Tryz.prog 211 aeq:=Ç (HX _) (fun {_}=>Ď Æ _) hmix (tab:=JU _) rfl (Á Rt Æ) (Å fun x=>Zz x some)
def abk:Ï Tryz.prog 168 Nb:=Ç (CD _) (fun {_}=>Ď (Á alJ Æ) _) hmix (tab:=Eu _) rfl (Á N4 Æ) (Å fun x=>VI x some)
def XD:Ï Tryz.prog 99 DQ:=Ç (iN _) (fun {_}=>Ď (Á Aa (Á G7 (Á abj (Á abk Æ)))) _) hmix (tab:=sf _) rfl (Á Cx (Á Cw (Á Cv Æ))) (Å fun x=>HT x some)
def XC:Ï Tryz.prog 158 Mj:=Ç (TK _) (fun {_}=>Ď (Á abk Æ) _) hmix (tab:=JP _) rfl Æ (Å fun x=>Zo x some)
def aje:Ï Tryz.prog 169 YJ:=Ç (tV _) (fun {_}=>Ď (Á XC Æ) _) hmix (tab:=Ei _) rfl (Á NL (Á NK Æ)) (Å fun x=>Vv x some)
def Ab:Ï Tryz.prog 102 rR:=Ç (gQ _) (fun {_}=>Ď (Á aje Æ) _) hmix (tab:=A3 _) rfl (Á Ln (Á Lm (Á Ll (Á Lh (Á Li (Á Lj Æ)))))) (Å fun x=>Rp x some)
def Jp:Ï Tryz.prog 52 zo:=Ç (xr _) (fun {_}=>Ď (Á Ab Æ) _) hmix (tab:=A8 _) rfl (Á Lp Æ) (Å fun x=>Rs x some)
def ajf:Ï Tryz.prog 212 YK:=Ç (Cy _) (fun {_}=>Ď Æ _) hmix (tab:=Ej _) rfl (Á NN Æ) (Å fun x=>Vw x some)
def aji:Ï Tryz.prog 170 YN:=Ç (CB _) (fun {_}=>Ď (Á G7 (Á abj (Á ajf Æ))) _) hmix (tab:=Er _) rfl (Á NY Æ) (Å fun x=>VF x some)
def QB:Ï Tryz.prog 285 Ci:=Ç (Ez _) (fun {_}=>Ď (Á afa (Á afb Æ)) _) hmix (tab:=xI _) rfl Æ (Å fun x=>Oo x some)
def alN:Ï Tryz.prog 268 aeu:=Ç (TP _) (fun {_}=>Ď (Á QB Æ) _) hmix (tab:=J4 _) rfl Æ (Å fun x=>ZK x some)
def alL:Ï Tryz.prog 269 aes:=Ç (TN _) (fun {_}=>Ď Æ _) hmix (tab:=J0 _) rfl Æ (Å fun x=>ZG x some)
def alK:Ï Tryz.prog 242 aer:=Ç (TM _) (fun {_}=>Ď (Á alN (Á alL Æ)) _) hmix (tab:=JY _) rfl Æ (Å fun x=>ZF x some)
def agE:Ï Tryz.prog 243 Tp:=Ç (JQ _) (fun {_}=>Ď (Á G7 Æ) _) hmix (tab:=AW _) rfl Æ (Å fun x=>Re x some)
def ajl:Ï Tryz.prog 270 YQ:=Ç (Ou _) (fun {_}=>Ď Æ _) hmix (tab:=EB _) rfl Æ (Å fun x=>VT x some)
def alM:Ï Tryz.prog 271 aet:=Ç (TO _) (fun {_}=>Ď (Á QB Æ) _) hmix (tab:=J1 _) rfl Æ (Å fun x=>ZH x some)
def agJ:Ï Tryz.prog 244 Tu:=Ç (JZ _) (fun {_}=>Ď (Á ajl (Á alM Æ)) _) hmix (tab:=Bf _) rfl Æ (Å fun x=>RC x some)
def adz:Ï Tryz.prog 205 Nc:=Ç (Ex _) (fun {_}=>Ď (Á XC (Á alK (Á agE (Á agJ Æ)))) _) hmix (tab:=xt _) rfl Æ (Å fun x=>N8 x some)
def agG:Ï Tryz.prog 206 Tr:=Ç (JV _) (fun {_}=>Ď Æ _) hmix (tab:=Ba _) rfl Æ (Å fun x=>Rw x some)
def anu:Ï Tryz.prog 245 ahE:=Ç (ZC _) (fun {_}=>Ď Æ _) hmix (tab:=On _) rfl Æ (Å fun x=>acu x some)
def ajm:Ï Tryz.prog 207 YR:=Ç (Ow _) (fun {_}=>Ď (Á anu Æ) _) hmix (tab:=ED _) rfl Æ (Å fun x=>V2 x some)
def ajk:Ï Tryz.prog 246 YP:=Ç (Oq _) (fun {_}=>Ď Æ _) hmix (tab:=EA _) rfl Æ (Å fun x=>VS x some)
def agK:Ï Tryz.prog 208 Tv:=Ç (J3 _) (fun {_}=>Ď (Á ajk Æ) _) hmix (tab:=Bg _) rfl Æ (Å fun x=>RE x some)
def ajg:Ï Tryz.prog 171 YL:=Ç (NR _) (fun {_}=>Ď (Á adz (Á agG (Á ajm (Á agK Æ)))) _) hmix (tab:=Eo _) rfl Æ (Å fun x=>VC x some)
def ae9:Ï Tryz.prog 103 UX:=Ç (sg _) (fun {_}=>Ď (Á Jp (Á Ab (Á XC (Á aji (Á ajg Æ))))) _) hmix (tab:=JS _) rfl (Á Rk (Á Rl (Á Rj Æ))) (Å fun x=>Zr x some)
def Uw:Ï Tryz.prog 41 HD:=Ç (j4 _) (fun {_}=>Ď (Á qQ (Á agF (Á ajd (Á agD (Á agC (Á XD (Á MH (Á Aa (Á Ab (Á ae9 Æ)))))))))) _) hmix (tab:=Bb _) rfl (Á Lt (Á Lr (Á Ls (Á Lq Æ)))) (Å fun x=>Rx x some)
def ady:Ï Tryz.prog 43 M9:=Ç (En _) (fun {_}=>Ď (Á Ab (Á ae9 Æ)) _) hmix (tab:=xf _) rfl Æ (Å fun x=>NQ x some)
def ajj:Ï Tryz.prog 53 YO:=Ç (N0 _) (fun {_}=>Ď (Á Uw Æ) _) hmix (tab:=Es _) rfl Æ (Å fun x=>VG x some)
def agH:Ï Tryz.prog 54 Ts:=Ç (Μ _) (fun {_}=>Ď Æ _) hmix (tab:=Bc _) rfl (Á Lz (Á LA (Á Ly (Á Lv (Á Lw (Á Lu (Á Lx Æ))))))) (Å fun x=>Ry x some)
def ajc:Ï Tryz.prog 15 YH:=Ç (Ct _) (fun {_}=>Ď (Á Uw (Á ady (Á Jp (Á ajj (Á agH Æ))))) _) hmix (tab:=Ed _) rfl (Á NC Æ) (Å fun x=>Vo x some)
def Dq:Ï Tryz.prog 16 oL:=Ç (mE _) (fun {_}=>Ď Æ _) hmix (tab:=kw _) rfl Æ (Å fun x=>tS x some)
def XB:Ï Tryz.prog 17 DP:=Ç (xa _) (fun {_}=>Ď (Á Jp Æ) _) hmix (tab:=se _) rfl Æ (Å fun x=>HN x some)
def aju:Ï Tryz.prog 55 YY:=Ç (O2 _) (fun {_}=>Ď (Á Hb (Á qR Æ)) _) hmix (tab:=FF _) rfl Æ (Å fun x=>Wv x some)
def adC:Ï Tryz.prog 19 Nh:=Ç (ur _) (fun {_}=>Ď (Á jW (Á aju (Á ř (Á iX (Á ş (Á om (Á ő Æ))))))) _) hmix (tab:=xZ _) rfl (Á Iq Æ) (Å fun x=>OS x some)
def adA:Ï Tryz.prog 56 Nf:=Ç (tZ _) (fun {_}=>Ď Æ _) hmix (tab:=xH _) rfl (Á H5 Æ) (Å fun x=>Om x some)
def Qz:Ï Tryz.prog 20 wP:=Ç (sd _) (fun {_}=>Ď (Á adA Æ) _) hmix (tab:=oP _) rfl Æ (Å fun x=>Cs x some)
def c_w6_SharpReaches:Ï Tryz.prog 4 iZ:=Ç (oO _) (fun {_}=>Ď (Á alI (Á adx (Á ajc (Á Dq (Á XB (Á adC (Á Qz Æ))))))) _) hmix (tab:=mz _) rfl Æ (Å fun x=>w7 x some)
end Go.Proofs.ZzM
end
