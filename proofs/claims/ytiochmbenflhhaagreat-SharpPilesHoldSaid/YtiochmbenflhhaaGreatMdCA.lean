/- lemmas -/
import Derived.Test.YtiochmbenflhhaaGreatAmD
import Derived.Test.YtiochmbenflhhaaGreatAmE
import Derived.Ground.NamesProg
import Derived.Ground.Names2Prog
import Derived.KernelRfl
import Derived.Test.YtiochmbenflhhaaGreatMdMA
import Derived.Test.YtiochmbenflhhaaGreatMdKC
import Derived.RangeFuncBox
import Derived.Lib.SliceRun
import Derived.RangeFuncLeaves
import Derived.WalkKit
import Derived.OwnWalkIn
import Derived.TacticsInMore
import Derived.LoopNIn
import Derived.LoopIn
import Derived.Test.YtiochmbenflhhaaGreatProg
import Derived.RangeFuncFrom
import Derived.RangeFuncRecord
import Derived.Test.YtiochmbenflhhaaGreatMdKB
import Derived.Test.YtiochmbenflhhaaGreatMdKA
set_option linter.all false
set_option linter.unusedSectionVars false
set_option linter.unusedVariables false
set_option linter.unusedSimpArgs false
noncomputable section
namespace Go.Proofs
open Go.Shelf
def Tryz.laysSort_ren:Go.Shelf.Ren:=⟨fun|189=>223|125=>253|257=>252|128=>272|129=>273|294=>263|295=>264|296=>265|297=>266|298=>267|299=>268|216=>269|300=>270|301=>271|328=>277|329=>278|330=>279|331=>280|332=>281|215=>282|343=>290|n=>n,fun|28=>39|3=>3|46=>284|0=>0|51=>303|53=>279|4=>4|183=>296|182=>295|131=>61|5=>5|9=>9|218=>311|222=>315|228=>323|229=>324|n=>n,fun|n=>n⟩
def Tryz.laysSort:Go.Proofs.Lays.n189 Tryz.prog Tryz.laysSort_ren:={
 mixed:=by kernel_rfl
 f125:=Tryz.func253.trans (congrArg some (by kernel_rfl))
 f128:=Tryz.func272.trans (congrArg some (by kernel_rfl))
 f129:=Tryz.func273.trans (congrArg some (by kernel_rfl))
 f189:=Tryz.func223.trans (congrArg some (by kernel_rfl))
 f215:=Tryz.func282.trans (congrArg some (by kernel_rfl))
 f216:=Tryz.func269.trans (congrArg some (by kernel_rfl))
 f257:=Tryz.func252.trans (congrArg some (by kernel_rfl))
 f294:=Tryz.func263.trans (congrArg some (by kernel_rfl))
 f295:=Tryz.func264.trans (congrArg some (by kernel_rfl))
 f296:=Tryz.func265.trans (congrArg some (by kernel_rfl))
 f297:=Tryz.func266.trans (congrArg some (by kernel_rfl))
 f298:=Tryz.func267.trans (congrArg some (by kernel_rfl))
 f299:=Tryz.func268.trans (congrArg some (by kernel_rfl))
 f300:=Tryz.func270.trans (congrArg some (by kernel_rfl))
 f301:=Tryz.func271.trans (congrArg some (by kernel_rfl))
 f328:=Tryz.func277.trans (congrArg some (by kernel_rfl))
 f329:=Tryz.func278.trans (congrArg some (by kernel_rfl))
 f330:=Tryz.func279.trans (congrArg some (by kernel_rfl))
 f331:=Tryz.func280.trans (congrArg some (by kernel_rfl))
 f332:=Tryz.func281.trans (congrArg some (by kernel_rfl))
 f343:=Tryz.func290.trans (congrArg some (by kernel_rfl))
 t0:=Tryz.underlying0
 a0:=Tryz.isAgg0
 z0:=Tryz.sizeOf0
 v0:=Tryz.zeroValue0
 t3:=Tryz.underlying3
 a3:=Tryz.isAgg3
 z3:=Tryz.sizeOf3
 v3:=Tryz.zeroValue3
 t4:=Tryz.underlying4
 a4:=Tryz.isAgg4
 z4:=Tryz.sizeOf4
 v4:=Tryz.zeroValue4
 t5:=Tryz.underlying5
 a5:=Tryz.isAgg5
 z5:=Tryz.sizeOf5
 v5:=Tryz.zeroValue5
 t9:=Tryz.underlying9
 a9:=Tryz.isAgg9
 z9:=Tryz.sizeOf9
 v9:=Tryz.zeroValue9
 t28:=Tryz.underlying39
 a28:=Tryz.isAgg39
 z28:=Tryz.sizeOf39
 v28:=Tryz.zeroValue39
 t46:=Tryz.underlying284
 a46:=Tryz.isAgg284
 z46:=Tryz.sizeOf284
 v46:=Tryz.zeroValue284
 t51:=Tryz.underlying303
 a51:=Tryz.isAgg303
 z51:=Tryz.sizeOf303
 v51:=Tryz.zeroValue303
 t53:=Tryz.underlying279
 a53:=Tryz.isAgg279
 z53:=Tryz.sizeOf279
 v53:=Tryz.zeroValue279
 t131:=Tryz.underlying61
 a131:=Tryz.isAgg61
 z131:=Tryz.sizeOf61
 v131:=Tryz.zeroValue61
 t182:=Tryz.underlying295
 a182:=Tryz.isAgg295
 z182:=Tryz.sizeOf295
 v182:=Tryz.zeroValue295
 t183:=Tryz.underlying296
 a183:=Tryz.isAgg296
 z183:=Tryz.sizeOf296
 v183:=Tryz.zeroValue296
 t218:=Tryz.underlying311
 a218:=Tryz.isAgg311
 z218:=Tryz.sizeOf311
 v218:=Tryz.zeroValue311
 t222:=Tryz.underlying315
 a222:=Tryz.isAgg315
 z222:=Tryz.sizeOf315
 v222:=Tryz.zeroValue315
 t228:=Tryz.underlying323
 a228:=Tryz.isAgg323
 z228:=Tryz.sizeOf323
 v228:=Tryz.zeroValue323
 t229:=Tryz.underlying324
 a229:=Tryz.isAgg324
 z229:=Tryz.sizeOf324
 v229:=Tryz.zeroValue324}
def Tryz.laysCompact_ren:Go.Shelf.Ren:=⟨fun|20=>224|n=>n,fun|22=>39|3=>3|4=>4|0=>0|n=>n,fun|n=>n⟩
def Tryz.laysCompact:Go.Proofs.Lays2.n20 Tryz.prog Tryz.laysCompact_ren:={
 mixed:=by kernel_rfl
 f20:=Tryz.func224.trans (congrArg some (by kernel_rfl))
 t0:=Tryz.underlying0
 a0:=Tryz.isAgg0
 z0:=Tryz.sizeOf0
 v0:=Tryz.zeroValue0
 t3:=Tryz.underlying3
 a3:=Tryz.isAgg3
 z3:=Tryz.sizeOf3
 v3:=Tryz.zeroValue3
 t4:=Tryz.underlying4
 a4:=Tryz.isAgg4
 z4:=Tryz.sizeOf4
 v4:=Tryz.zeroValue4
 t22:=Tryz.underlying39
 a22:=Tryz.isAgg39
 z22:=Tryz.sizeOf39
 v22:=Tryz.zeroValue39
 i3:=by kernel_rfl}
end Go.Proofs
namespace Go.Proofs.ZzM
open Go Go.Am
def hmix:Tryz.prog.follows .mixedOrders=true:=by kernel_rfl
def plain_ : (Tryz.prog.funcs.toList.all fun fn => !(fn.name == "runtime.NumGoroutine")) = true := by kernel_rfl
def plain (f : Nat) (fn : Func) (h : Tryz.prog.funcs[f]? = some fn) : (fn.name == "runtime.NumGoroutine") = false := by
 have:=di.1 plain_ fn (cM (i:=f) (by simpa using h));simpa using this
def afY:Tryz.laysSort_ren.f 189=223:=by kernel_rfl
def ZQ:Tryz.laysCompact_ren.f 20=224:=by kernel_rfl
section
variable [ó] {ρ:Type}
def sortOk (f:Nat) (hf:Vk f=true) (h:List Blk) (x:AV) (K:AV→List Blk→Option ρ) (q:ρ) (e:Qj h x K=some q) (ν:Nat→Value) (w:World) (u:Value) (H:HR ν h w) (hx:VR ν h w x u):IG Tryz.prog f ν h w [u] K q:=by
 have h1:f=223:=by
  unfold Vk at hf
  split at hf
  ·rfl
  ·cases hf
 subst h1;have:=afT Tryz.laysSort e H hx ⟨_,rfl⟩
 rwa [afY] at this
def ac1 (f:Nat) (hf:xD f=true) (h:List Blk) (x:AV) (K:AV→List Blk→Option ρ) (q:ρ) (e:nF h x K=some q) (ν:Nat→Value) (w:World) (u:Value) (H:HR ν h w) (hx:VR ν h w x u):IG Tryz.prog f ν h w [u] K q:=by
 have h1:f=224:=by
  unfold xD at hf
  split at hf
  ·rfl
  ·cases hf
 subst h1;have:=aap Tryz.laysCompact e H hx ⟨_,rfl⟩
 rwa [ZQ] at this
def agy:Hk Tryz.prog Mj:=by
 intro g hg fz S nid x v S' e ν w u H hx hn hd;unfold Mj at hg
 split at hg
 ·exact yH Tryz.func154 (T:=39) (by kernel_rfl) (by kernel_rfl) e H hx hn hd
 ·exact yH Tryz.func227 (T:=24) (by kernel_rfl) (by kernel_rfl) e H hx hn hd
 ·exact yH Tryz.func228 (T:=25) (by kernel_rfl) (by kernel_rfl) e H hx hn hd
 ·exact yH Tryz.func229 (T:=26) (by kernel_rfl) (by kernel_rfl) e H hx hn hd
 ·exact yH Tryz.func230 (T:=28) (by kernel_rfl) (by kernel_rfl) e H hx hn hd
 ·exact yH Tryz.func231 (T:=27) (by kernel_rfl) (by kernel_rfl) e H hx hn hd
 ·cases hg
def Me {pt:List (Nat×â)} (h:∀e∈pt,Ò Tryz.prog e.1 e.2) (E:Env ρ) (hP:E.P=Tryz.prog) (h1:E.pure=aag pt) (h2:E.sort=Vk) (h3:E.compact=xD) (h4:E.clone=Mj) (hj:ZC E):Jv E:=by
 constructor
 ·intro f p hf;rw[h1] at hf;rw[hP];exact h (f,p) (PV hf)
 ·intro f hf;rw[h2] at hf;rw[hP];exact sortOk f hf
 ·intro f hf;rw[h3] at hf;rw[hP];exact ac1 f hf
 ·rw[hP]; exact plain
 ·rw[hP,h4]; exact agy
 ·exact hj
def ľ {pt:List (Nat×â)} (h:∀e∈pt,Ò Tryz.prog e.1 e.2) (tab:List (ä ρ)):Jv (æ pt tab):=Me h _ rfl rfl rfl rfl rfl (gS rfl)
end
end Go.Proofs.ZzM
end

noncomputable section
set_option maxRecDepth 100000
namespace Go.Proofs.ZzM
open Go Go.Am
def yJ:Ò Tryz.prog 109 rG:=Ê (Ia _) (fun {_}=>ľ Æ _) hmix (tab:=Ar _) rfl Æ (Å fun x=>Ot x some)
def kd:Ò Tryz.prog 144 i9:=Ê (H5 _) (fun {_}=>ľ Æ _) hmix (tab:=Aj _) rfl Æ (Å fun x=>Ob x some)
def M5:Ò Tryz.prog 176 Cz:=Ê (L5 _) (fun {_}=>ľ (Á kd Æ) _) hmix (tab:=Eu _) rfl Æ (Å fun x=>RM x some)
def Zn:Ò Tryz.prog 249 Qz:=Ê (Pv _) (fun {_}=>ľ Æ _) hmix (tab:=HW _) rfl Æ (Å fun x=>UJ x some)
def adi:Ò Tryz.prog 250 WQ:=Ê (LG _) (fun {_}=>ľ Æ _) hmix (tab:=LF _) rfl (Á Rv Æ) (Å fun x=>Xg x some)
def Fq:Ò Tryz.prog 218 Cv:=Ê (LK _) (fun {_}=>ľ (Á Zn (Á adi Æ)) _) hmix (tab:=D7 _) rfl Æ (Å fun x=>Rx x some)
def X2:Ò Tryz.prog 174 Kz:=Ê (Et _) (fun {_}=>ľ (Á yJ (Á kd (Á M5 (Á Fq Æ)))) _) hmix (tab:=xx _) rfl Æ (Å fun x=>L4 x some)
def M6:Ò Tryz.prog 110 wn:=Ê (lR _) (fun {_}=>ľ (Á X2 Æ) _) hmix (tab:=oS _) rfl (Á xy Æ) (Å fun x=>BP x some)
def M3:Ò Tryz.prog 111 AW:=Ê (ud _) (fun {_}=>ľ Æ _) hmix (tab:=xo _) rfl (Á Gr Æ) (Å fun x=>LW x some)
def G8:Ò Tryz.prog 116 rC:=Ê (jH _) (fun {_}=>ľ Æ _) hmix (tab:=mm _) rfl (Á tD Æ) (Å fun x=>wz x some)
def jm:Ò Tryz.prog 49 gG:=Ê (lf _) (fun {_}=>ľ (Á G8 Æ) _) hmix (tab:=j3 _) rfl Æ (Å fun x=>rK x some)
def Zq:Ò Tryz.prog 181 QC:=Ê (yp _) (fun {_}=>ľ (Á jm Æ) _) hmix (tab:=Ic _) rfl (Á Ow (Á Ov Æ)) (Å fun x=>U2 x some)
def M4:Ò Tryz.prog 113 Cy:=Ê (ug _) (fun {_}=>ľ (Á Zq Æ) _) hmix (tab:=Ee _) rfl (Á LY (Á LZ Æ)) (Å fun x=>RF x some)
def ru:Ò Tryz.prog 177 lZ:=Ê (vH _) (fun {_}=>ľ Æ _) hmix (tab:=qq _) rfl Æ (Å fun x=>Ec x some)
def X1:Ò Tryz.prog 175 WS:=Ê (Ed _) (fun {_}=>ľ (Á M5 (Á ru Æ)) _) hmix (tab:=xr _) rfl Æ (Å fun x=>LX x some)
def SI:Ò Tryz.prog 179 QD:=Ê (kG _) (fun {_}=>ľ (Á yJ (Á kd (Á ru Æ))) _) hmix (tab:=sM _) rfl (Á BO (Á BN Æ)) (Å fun x=>Gz x some)
def ś:Ò Tryz.prog 100 ŗ:=Ê (gI _) (fun {_}=>ľ Æ _) hmix (tab:=lg _) rfl (Á rM (Á rL Æ)) (Å fun x=>vQ x some)
def P1:Ò Tryz.prog 182 FM:=Ê (xw _) (fun {_}=>ľ (Á kd Æ) _) hmix (tab:=Aq _) rfl (Á Jl Æ) (Å fun x=>Oo x some)
def Fr:Ò Tryz.prog 183 yc:=Ê (yo _) (fun {_}=>ľ (Á jm Æ) _) hmix (tab:=H9 _) rfl (Á On (Á Om Æ)) (Å fun x=>UZ x some)
def ae9:Ò Tryz.prog 222 YL:=Ê (GA _) (fun {_}=>ľ (Á kd Æ) _) hmix (tab:=Ie _) rfl (Á Ox Æ) (Å fun x=>U3 x some)
def Jq:Ò Tryz.prog 180 IQ:=Ê (Ś _) (fun {_}=>ľ (Á ś (Á yJ (Á kd (Á M5 (Á ru (Á P1 (Á Fr (Á ae9 Æ)))))))) _) hmix (tab:=nk _) rfl (Á vV (Á vT (Á vU (Á vS Æ)))) (Å fun x=>zi x some)
def K4:∀e∈F4,Ò Tryz.prog e.1 e.2:=(Á ś Æ)
def W6 {ρ:Type}:∀e∈Bv ρ,e.Ok (ų ρ):=(Á Q7 (Á Q8 (Á Q6 (Á Q5 (Á Q4 (Á Q3 Æ))))))
def HG {ρ:Type}:∀e∈pW ρ,e.Ok (ė ρ):=(Á NU (Á NT (Á NS Æ)))
end Go.Proofs.ZzM
end

noncomputable section
namespace Go.Proofs
open Go.RowKit
attribute [local go_sem] Oper.semAt_some
def Nn (sel:Nat→Bool) (k:Nat):List Nat:=(List.range k).filter sel
def Cj (sel:Nat→Bool) (k:Nat):Nn sel (k+1)=if sel k then Nn sel k++[k] else Nn sel k:=by
 unfold Nn;rw[List.range_succ,List.filter_append]
 cases h:sel k<;>simp[h]
def WE (sel:Nat→Bool) (k:Nat):(Nn sel k).length≤k:=by
 unfold Nn;exact Nat.le_trans (List.length_filter_le _ _) (by simp)
def abl (sel:Nat→Bool) {j k:Nat} (h:j≤k):(Nn sel j).length≤(Nn sel k).length:=by
 obtain⟨d,rfl⟩:∃d,k=j+d:=⟨k-j,by omega⟩;unfold Nn;rw[List.range_add,List.filter_append,List.length_append];omega
def afU {sel:Nat→Bool} {k n:Nat} (h:k<n) (hs:sel k=true):(Nn sel k).length<(Nn sel n).length:=by
 have h1:=abl sel (j:=k+1) (k:=n) h;rw[Cj,hs] at h1;simp at h1;omega
set_option maxRecDepth 100000 in
set_option maxHeartbeats 1000000 in
def agh (te:TypeId) (n:Nat) (hn:1≤n) (l bb tb:Nat) (flo fhi us lo co ko:Value) (gb go len cap:Nat) (gbase:Option Addr) (hgb:0<len→gbase=some ⟨gb,go,none⟩)
 (c0 c1 c2 c3 c4 c5 c6 c7:Nat→Int) (sel:Nat→Bool) (hlen:(len:Int)<9223372036854775807) (Nd:World→Prop)
 (W:World) (hb0:W.heap[bb]?=some (.cells #[flo,fhi,.slice gbase len cap,us,lo,co,ko] te (0,0)))
 (hNc:∀W',Nd W'→∀j,j<len→W'.cell? ⟨gb,go+j*8,none⟩=some (.int .i64 (c0 j))∧W'.cell? ⟨gb,go+j*8+1,none⟩=some (.int .i64 (c1 j))∧W'.cell? ⟨gb,go+j*8+2,none⟩=some (.int .i64 (c2 j))∧W'.cell? ⟨gb,go+j*8+3,none⟩=some (.int .i64 (c3 j)) ∧
  W'.cell? ⟨gb,go+j*8+4,none⟩=some (.int .i64 (c4 j))∧W'.cell? ⟨gb,go+j*8+5,none⟩=some (.int .i64 (c5 j))∧W'.cell? ⟨gb,go+j*8+6,none⟩=some (.int .i64 (c6 j))∧W'.cell? ⟨gb,go+j*8+7,none⟩=some (.int .i64 (c7 j)))
 (hNm:∀W',Nd W'→∃mv,∀W'',W'.grownBy W'' none→W''.cell? ⟨tb,0,none⟩=some mv∧∀j,j<len→(Instr.lookup 182 mv (.int .i64 (c0 j)) false).run Tryz.prog W''=.ok (.bool (sel j)) W'')
 (hNs:∀W1 W2,Nd W1→W1.grownBy W2 none→Nd W2) (hN:Nd W)
 (J Jx:List Nat→World→Prop) (hJ:∀pre W W',J pre W→W.grownBy W' none→J pre W') (hJx:∀pre W W',Jx pre W→W.grownBy W' none→Jx pre W')
 (hY:∀pre x W,J pre W→pre.length<(Nn sel len).length→YieldAt Fence.wide (n-1) Tryz.prog l #[.agg #[.int .i64 (c0 x),.int .i64 (c1 x),.int .i64 (c2 x),.int .i64 (c3 x),.int .i64 (c4 x),.int .i64 (c5 x),.int .i64 (c6 x),.int .i64 (c7 x)]] W fun e W' =>
  (e=.returned (.bool true)∧J (pre++[x]) W'∧(Nd W→Nd W'))∨(e=.returned (.bool false)∧Jx (pre++[x]) W'))
 (h0 : J [] W) :
  CallsIn Fence.wide n Tryz.prog 212 #[.func (.yield l) #[] #[],.pointer (some ⟨bb,0,none⟩),.pointer (some ⟨tb,0,none⟩)] W fun e W'=>(∃v,e=.returned v) ∧
   ((∃xs,xs=Nn sel len∧J xs W')∨(∃pre,True∧Jx pre W')):=by
 have hb3:W.cell? ⟨bb,2,none⟩=some (.slice gbase len cap):=by simp[World.cell?,hb0]
 refine callsIn_of_wp Tryz.func212 rfl trivial ?_ rfl;simp only[Tryz.ntmps212,eM,cN,dn,Nat.reduceAdd,Nat.reduceSub,Array.replicate_succ,Array.replicate_zero,List.push_toArray,f6,fq,d8]
 gi_wp2
 gi_loopw [9] (fun i wr=>∃k:Nat,k≤len∧i=.int .i64 k∧J (Nn sel k) wr∧Nd wr)
  (fun i _=>len-(intOf i).toNat)
 case atStart=>exact⟨0,dR _,rfl,h0,hN⟩
 case round =>
  obtain⟨k,hk,rfl,hJs,hNw⟩:=hrel
  by_cases hlt:k<len
  ·have hg:=hgb (by omega);subst hg;obtain⟨q0,q1,q2,q3,q4,q5,q6,q7⟩:=hNc _ hNw k hlt;obtain⟨mv,hmv⟩:=hNm _ hNw;have hta:∀o,(wr.alloc o).cell? ⟨tb,0,none⟩=some mv:=fun o=>(hmv _ (World.grownBy_alloc _ o none)).1;have hlk:∀o,(Instr.lookup 182 mv (.int .i64 (c0 k)) false).run Tryz.prog (wr.alloc o)=.ok (.bool (sel k)) (wr.alloc o):=fun o=>(hmv _ (World.grownBy_alloc _ o none)).2 k hlt;have hNa:∀o,Nd (wr.alloc o):=fun o=>hNs _ _ hNw (World.grownBy_alloc _ o none);have hJa:∀o,J (Nn sel k) (wr.alloc o):=fun o=>hJ _ _ _ hJs (World.grownBy_alloc _ o none);clear hmv hNm hNc
   cases hsel:sel k with
   |false =>
    rw[hsel] at hlk
    iterate 52 (first|go_values|gi_guarded|gi_step|gi_upon)
    refine⟨fun f hf=>by simp[undef,go_sem] at hf,?_⟩
    gi_wp2
    go_roundw
    case rel=>exact⟨k+1,by omega,by simp,by rw[Cj,hsel]; exact hJa _,hNa _⟩
    case measure=>simp[intOf]; omega
   |true =>
    rw[hsel] at hlk
    gi_wp2
    obtain⟨fn,tmps,assign,body,hy,hR⟩:=hY (Nn sel k) k (wr.alloc (.cells #[.int .i64 (c0 k),.int .i64 (c1 k),.int .i64 (c2 k),.int .i64 (c3 k),.int .i64 (c4 k),.int .i64 (c5 k),.int .i64 (c6 k),.int .i64 (c7 k)] 108)) (hJa _) (afU hlt hsel);rw[hy];refine⟨fun h=>(by cases h),hR.mono ?_⟩;rintro e W3 (⟨rfl,hJ3,hk3⟩|⟨rfl,hJx3⟩)
    ·gi_wp2
     go_roundw
     case rel=>exact⟨k+1,by omega,by simp,by rw[Cj,hsel]; exact hJ3,hk3 (hNa _)⟩
     case measure=>simp[intOf]; omega
    ·gi_wp2
     refine bodyPost_ret (results_none rfl _ _ _) rfl ?_;exact⟨⟨_,rfl⟩,.inr ⟨_,trivial,hJx3⟩⟩
  ·obtain rfl:len=k:=by omega
   gi_wp2
   go_end0
   exact⟨⟨_,rfl⟩,.inl ⟨_,rfl,hJs⟩⟩
end Go.Proofs
end

noncomputable section
namespace Go.Proofs
open Go.RowKit
attribute [local go_sem] Oper.semAt_some
def upE (f:Nat→Int) (k:Nat):List Int:=(List.range k).map f
def pv (f:Nat→Int) (k:Nat):upE f (k+1)=upE f k++[f k]:=by simp[upE,List.range_succ]
def xZ (f:Nat→Int) (k:Nat):(upE f k).length=k:=by simp[upE]
def Jw (f:Nat→Int) {j k:Nat} (h:j≤k):upE f j <+: upE f k:=by
 have:k=j+(k-j):=by omega
 rw[this,upE,upE,List.range_add,List.map_append];exact dY _ _
set_option maxRecDepth 100000 in
set_option maxHeartbeats 1000000 in
def aef (te:TypeId) (n:Nat) (hn:1≤n) (l n₀ bb tb sb:Nat) (flo fhi ga mv:Value) (hbb:bb<n₀) (htb:tb<n₀) (hsb:sb<n₀)
 (ub uo ul uc kb ko kl kc:Nat) (ubase kbase lbase cbase:Option Addr) (ll lc cl cc:Nat) (hub:0<ul→ubase=some ⟨ub,uo,none⟩∧ub<n₀) (hkb:0<kl→kbase=some ⟨kb,ko,none⟩∧kb<n₀)
 (U K:Nat→Int×Int) (eU eL eC eK:Nat→Int)
 (hul:ul≤1000) (hll:ll≤1000) (hcl:cl≤1000) (hkl:kl≤1000)
 (W:World) (hb0:W.heap[bb]?=some (.cells #[flo,fhi,ga,.slice ubase ul uc,.slice lbase ll lc,.slice cbase cl cc,.slice kbase kl kc] te (0,0)))
 (ht:W.cell? ⟨tb,0,none⟩=some (.func (.func 175) #[] #[.pointer (some ⟨sb,0,none⟩)])) (hs:W.cell? ⟨sb,0,none⟩=some mv)
 (hU:∀j,j<ul→W.cell? ⟨ub,uo+j*2,none⟩=some (.int .i64 (U j).1)∧W.cell? ⟨ub,uo+j*2+1,none⟩=some (.int .i64 (U j).2))
 (hK:∀j,j<kl→W.cell? ⟨kb,ko+j*2,none⟩=some (.int .i64 (K j).1)∧W.cell? ⟨kb,ko+j*2+1,none⟩=some (.int .i64 (K j).2))
 (cU:∀j,j<ul→∀W',Below n₀ W W'→CallsIn Fence.wide (n-1) Tryz.prog 175 #[.int .i64 (U j).1,.int .i64 (U j).2,.pointer (some ⟨sb,0,none⟩)] W' fun e W''=>e=.returned (.int .i64 (eU j))∧W'.grownBy W'' none)
 (cK:∀j,j<kl→∀W',Below n₀ W W'→CallsIn Fence.wide (n-1) Tryz.prog 175 #[.int .i64 (K j).1,.int .i64 (K j).2,.pointer (some ⟨sb,0,none⟩)] W' fun e W''=>e=.returned (.int .i64 (eK j))∧W'.grownBy W'' none)
 (cL:∀j,j<ll→∀W',Below n₀ W W'→CallsIn Fence.wide (n-1) Tryz.prog 179 #[.agg #[flo,fhi,ga,.slice ubase ul uc,.slice lbase ll lc,.slice cbase cl cc,.slice kbase kl kc],mv,.int .i64 j] W' fun e W''=>e=.returned (.int .i64 (eL j))∧W'.grownBy W'' none)
 (cC:∀j,j<cl→∀W',Below n₀ W W'→CallsIn Fence.wide (n-1) Tryz.prog 180 #[.agg #[flo,fhi,ga,.slice ubase ul uc,.slice lbase ll lc,.slice cbase cl cc,.slice kbase kl kc],mv,.int .i64 j] W' fun e W''=>e=.returned (.int .i64 (eC j))∧W'.grownBy W'' none)
 (J Jx:List Int→World→Prop) (hJ:∀pre W W',J pre W→W.grownBy W' none→J pre W') (hJx:∀pre W W',Jx pre W→W.grownBy W' none→Jx pre W')
 (hY:∀pre x W,J pre W→pre.length<ul+(ll+(cl+kl))→YieldAt Fence.wide (n-1) Tryz.prog l #[.int .i64 x] W fun e W' =>
  (e=.returned (.bool true)∧J (pre++[x]) W'∧Below n₀ W W')∨(e=.returned (.bool false)∧Jx (pre++[x]) W'))
 (h0 : J [] W) (hn₀ : n₀ ≤ W.heap.size) :
  CallsIn Fence.wide n Tryz.prog 178 #[.func (.yield l) #[] #[],.pointer (some ⟨bb,0,none⟩),.pointer (some ⟨tb,0,none⟩),.pointer (some ⟨sb,0,none⟩)] W fun e W'=>(∃v,e=.returned v) ∧
   ((∃xs,xs=upE eU ul++(upE eL ll++(upE eC cl++upE eK kl))∧J xs W')∨(∃pre,(pre <+: upE eU ul++(upE eL ll++(upE eC cl++upE eK kl)))∧Jx pre W')):=by
 have grown_alloc:∀(X:World) (o:Obj),X.grownBy (X.alloc o) none:=fun X o=>World.grownBy_alloc X o none
 have bel:∀{X Y:World},Below n₀ W X→X.grownBy Y none→Below n₀ W Y:=fun {X Y} h g =>
  ⟨g.os.trans h.os,g.tape.trans h.tape,g.output.trans h.output,dj h.size g.size,fun k hk=>(g.block k (cZ (cZ hk hn₀) h.size) (by simp)).trans (h.block k hk)⟩
 have hc:∀{X:World},Below n₀ W X→X.heap[bb]?=some (.cells #[flo,fhi,ga,.slice ubase ul uc,.slice lbase ll lc,.slice cbase cl cc,.slice kbase kl kc] te (0,0)):=fun h=>(h.block bb hbb).trans hb0;refine callsIn_of_wp Tryz.func178 rfl trivial ?_ rfl;simp only[Tryz.ntmps178,eM,cN,dn,Nat.reduceAdd,Nat.reduceSub,Array.replicate_succ,Array.replicate_zero,List.push_toArray,f6,fq,d8]
 have hb3:W.cell? ⟨bb,3,none⟩=some (.slice ubase ul uc):=by simp[World.cell?,hb0]
 gi_wp2
 gi_loopw [14] (fun i wr=>∃k:Nat,k≤ul∧i=.int .i64 k∧J (upE eU k) wr∧Below n₀ W wr)
  (fun i _=>ul-(intOf i).toNat)
 case atStart=>exact⟨0,dR _,rfl,h0,Below.refl _ _⟩
 case round =>
  obtain⟨k,hk,rfl,hJs,hnx⟩:=hrel
  by_cases hlt:k<ul
  ·obtain⟨rfl,hlu⟩:=hub (by omega);have hu1:=(hnx.cell (p:=⟨ub,uo+k*2,none⟩) hlu).trans (hU k hlt).1;have hu2:=(hnx.cell (p:=⟨ub,uo+k*2+1,none⟩) hlu).trans (hU k hlt).2;have ht':=(hnx.cell (p:=⟨tb,0,none⟩) htb).trans ht;have hta:∀o,(wr.alloc o).cell? ⟨tb,0,none⟩=some (.func (.func 175) #[] #[.pointer (some ⟨sb,0,none⟩)]):=fun o=>Lib.cell?_alloc_some _ ht'
   gi_wp2
   refine⟨trivial,(cU k hlt _ (bel hnx (grown_alloc _ _))).mono ?_⟩;rintro e W2 ⟨rfl,hg2⟩;obtain⟨fn,tmps,assign,body,hy,hR⟩:=hY _ (eU k) W2 (hJ _ _ _ (hJ _ _ _ hJs (grown_alloc _ _)) hg2) (by rw[xZ]; omega);have hb2:=bel (bel hnx (grown_alloc _ _)) hg2
   gi_wp2
   refine hR.mono ?_;rintro e W3 (⟨rfl,hJ3,hk3⟩|⟨rfl,hJx3⟩)
   ·gi_wp2
    go_roundw
    case rel=>exact⟨k+1,by omega,by simp,by rw[pv]; exact hJ3,hb2.trans hk3⟩
    case measure=>simp[intOf]; omega
   ·gi_wp2
    refine bodyPost_ret (results_none rfl _ _ _) rfl ?_;refine⟨⟨_,rfl⟩,.inr ⟨_,?_,hJx3⟩⟩;rw[←pv];exact(Jw eU (by omega)).trans (dY _ _)
  ·obtain rfl:ul=k:=by omega
   have hb4:wr.cell? ⟨bb,4,none⟩=some (.slice lbase ll lc):=by simp[World.cell?,hc hnx]
   gi_wp2
   gi_loopw [31] (fun i wr=>∃k:Nat,k≤ll∧i=.int .i64 k∧J (upE eU ul++upE eL k) wr∧Below n₀ W wr)
    (fun i _=>ll-(intOf i).toNat)
   case atStart=>exact⟨0,dR _,rfl,by simpa[upE] using hJs,hnx⟩
   case round =>
    clear hJs hnx;obtain⟨k,hk,rfl,hJs,hnx⟩:=hrel
    by_cases hlt:k<ll
    ·have q0:wr.cell? ⟨bb,0,none⟩=some flo:=by simp[World.cell?,hc hnx]
     have q1:wr.cell? ⟨bb,1,none⟩=some fhi:=by simp[World.cell?,hc hnx]
     have q2:wr.cell? ⟨bb,2,none⟩=some ga:=by simp[World.cell?,hc hnx]
     have q3:wr.cell? ⟨bb,3,none⟩=some (.slice ubase ul uc):=by simp[World.cell?,hc hnx]
     have q4:wr.cell? ⟨bb,4,none⟩=some (.slice lbase ll lc):=by simp[World.cell?,hc hnx]
     have q5:wr.cell? ⟨bb,5,none⟩=some (.slice cbase cl cc):=by simp[World.cell?,hc hnx]
     have q6:wr.cell? ⟨bb,6,none⟩=some (.slice kbase kl kc):=by simp[World.cell?,hc hnx]
     have hs':=(hnx.cell (p:=⟨sb,0,none⟩) hsb).trans hs
     gi_wp2
     refine⟨trivial,(cL k hlt _ hnx).mono ?_⟩;rintro e W2 ⟨rfl,hg2⟩;obtain⟨fn,tmps,assign,body,hy,hR⟩:=hY _ (eL k) W2 (hJ _ _ _ hJs hg2) (by simp only[cG,xZ]; omega);have hb2:=bel hnx hg2
     gi_wp2
     refine hR.mono ?_;rintro e W3 (⟨rfl,hJ3,hk3⟩|⟨rfl,hJx3⟩)
     ·gi_wp2
      go_roundw
      case rel=>exact⟨k+1,by omega,by simp,by rw[pv,←dh]; exact hJ3,hb2.trans hk3⟩
      case measure=>simp[intOf]; omega
     ·gi_wp2
      refine bodyPost_ret (results_none rfl _ _ _) rfl ?_;refine⟨⟨_,rfl⟩,.inr ⟨_,?_,hJx3⟩⟩;rw[dh,←pv];exact(eD _).2 ((Jw eL (by omega)).trans (dY _ _))
    ·obtain rfl:ll=k:=by omega
     have hb5:wr.cell? ⟨bb,5,none⟩=some (.slice cbase cl cc):=by simp[World.cell?,hc hnx]
     gi_wp2
     gi_loopw [45] (fun i wr=>∃k:Nat,k≤cl∧i=.int .i64 k∧J (upE eU ul++upE eL ll++upE eC k) wr∧Below n₀ W wr)
      (fun i _=>cl-(intOf i).toNat)
     case atStart=>exact⟨0,dR _,rfl,by simpa[upE] using hJs,hnx⟩
     case round =>
      clear hJs hnx;obtain⟨k,hk,rfl,hJs,hnx⟩:=hrel
      by_cases hlt:k<cl
      ·have q0:wr.cell? ⟨bb,0,none⟩=some flo:=by simp[World.cell?,hc hnx]
       have q1:wr.cell? ⟨bb,1,none⟩=some fhi:=by simp[World.cell?,hc hnx]
       have q2:wr.cell? ⟨bb,2,none⟩=some ga:=by simp[World.cell?,hc hnx]
       have q3:wr.cell? ⟨bb,3,none⟩=some (.slice ubase ul uc):=by simp[World.cell?,hc hnx]
       have q4:wr.cell? ⟨bb,4,none⟩=some (.slice lbase ll lc):=by simp[World.cell?,hc hnx]
       have q5:wr.cell? ⟨bb,5,none⟩=some (.slice cbase cl cc):=by simp[World.cell?,hc hnx]
       have q6:wr.cell? ⟨bb,6,none⟩=some (.slice kbase kl kc):=by simp[World.cell?,hc hnx]
       have hs':=(hnx.cell (p:=⟨sb,0,none⟩) hsb).trans hs
       gi_wp2
       refine⟨trivial,(cC k hlt _ hnx).mono ?_⟩;rintro e W2 ⟨rfl,hg2⟩;obtain⟨fn,tmps,assign,body,hy,hR⟩:=hY _ (eC k) W2 (hJ _ _ _ hJs hg2) (by simp only[cG,xZ]; omega);have hb2:=bel hnx hg2
       gi_wp2
       refine hR.mono ?_;rintro e W3 (⟨rfl,hJ3,hk3⟩|⟨rfl,hJx3⟩)
       ·gi_wp2
        go_roundw
        case rel=>exact⟨k+1,by omega,by simp,by rw[pv,←dh]; exact hJ3,hb2.trans hk3⟩
        case measure=>simp[intOf]; omega
       ·gi_wp2
        refine bodyPost_ret (results_none rfl _ _ _) rfl ?_;refine⟨⟨_,rfl⟩,.inr ⟨_,?_,hJx3⟩⟩;rw[dh,←pv]
        exact by rw[dh]; exact(eD _).2 ((eD _).2 ((Jw eC (by omega)).trans (dY _ _)))
      ·obtain rfl:cl=k:=by omega
       have hb6:wr.cell? ⟨bb,6,none⟩=some (.slice kbase kl kc):=by simp[World.cell?,hc hnx]
       gi_wp2
       gi_loopw [59] (fun i wr=>∃k:Nat,k≤kl∧i=.int .i64 k∧J ((upE eU ul++upE eL ll++upE eC cl)++upE eK k) wr∧Below n₀ W wr)
        (fun i _=>kl-(intOf i).toNat)
       case atStart=>exact⟨0,dR _,rfl,by simpa[upE] using hJs,hnx⟩
       case round =>
        clear hJs hnx;obtain⟨k,hk,rfl,hJs,hnx⟩:=hrel
        by_cases hlt:k<kl
        ·obtain⟨rfl,hlk⟩:=hkb (by omega);have hu1:=(hnx.cell (p:=⟨kb,ko+k*2,none⟩) hlk).trans (hK k hlt).1;have hu2:=(hnx.cell (p:=⟨kb,ko+k*2+1,none⟩) hlk).trans (hK k hlt).2;have ht':=(hnx.cell (p:=⟨tb,0,none⟩) htb).trans ht;have hta:∀o,(wr.alloc o).cell? ⟨tb,0,none⟩=some (.func (.func 175) #[] #[.pointer (some ⟨sb,0,none⟩)]):=fun o=>Lib.cell?_alloc_some _ ht'
         gi_wp2
         refine⟨trivial,(cK k hlt _ (bel hnx (grown_alloc _ _))).mono ?_⟩;rintro e W2 ⟨rfl,hg2⟩;obtain⟨fn,tmps,assign,body,hy,hR⟩:=hY _ (eK k) W2 (hJ _ _ _ (hJ _ _ _ hJs (grown_alloc _ _)) hg2) (by simp only[cG,xZ]; omega);have hb2:=bel (bel hnx (grown_alloc _ _)) hg2
         gi_wp2
         refine hR.mono ?_;rintro e W3 (⟨rfl,hJ3,hk3⟩|⟨rfl,hJx3⟩)
         ·gi_wp2
          go_roundw
          case rel=>exact⟨k+1,by omega,by simp,by rw[pv,←dh]; exact hJ3,hb2.trans hk3⟩
          case measure=>simp[intOf]; omega
         ·gi_wp2
          refine bodyPost_ret (results_none rfl _ _ _) rfl ?_;refine⟨⟨_,rfl⟩,.inr ⟨_,?_,hJx3⟩⟩;rw[dh,←pv,dh,dh];exact(eD _).2 ((eD _).2 ((eD _).2 (Jw eK (by omega))))
        ·obtain rfl:kl=k:=by omega
         gi_wp2
         go_end0
         exact⟨⟨_,rfl⟩,.inl ⟨_,rfl,by simpa[dh] using hJs⟩⟩
end Go.Proofs
end

noncomputable section
set_option maxRecDepth 100000
namespace Go.Proofs.ZzM
open Go Go.Am Go.RowKit
def YB (p:String):Code:=.region 10 #[{dst:=some 5,op:=.assign (.tmp 49),type:=35,pos:=p,after:=#[],guard:=none}] false
def aft (q r:String):Code:=.block 1 (.seq (.region 11 #[{dst:=some 50,op:=.move (.tmp 5),type:=35,pos:=q,after:=#[],guard:=none},{dst:=some 51,op:=.binOp .neq 35 (.tmp 50) (.const (.int .i64 0)) 35,type:=4,pos:=q,after:=#[{on:=0,ground:=.data}],guard:=none}] false)
 (.cond (.tmp 51) (.seq (.region 12 #[{dst:=some 52,op:=.move (.tmp 5),type:=35,pos:=r,after:=#[],guard:=none},{dst:=none,op:=.store 35 (.tmp 2) (.tmp 52),type:=0,pos:=r,after:=#[{on:=0,ground:=.data},{on:=0,ground:=.phase}],guard:=none}] false) .ret) .skip))
section
variable {P:Program} {F:Fence} {n:Nat}
def CA {ops:Array Oper} {i d:Nat} {o:Oper} {u:Value} {w w':World} {a:Act} {next:Act→World→Prop} {Q:Exit→Act→World→Prop} (hF:∀f,F.fn f) (ho:ops[i]?=some o) (hg:o.guard=none) (hd:o.dst=some d) (hdf:∀c,o.op≠.defer c)
 (hrun:(execOp a.eval o).run P w=.ok (.value u) w') (k:next (a.put (some d) u) w'):wpOpIn F n P ops Q i next a w:=by
 unfold wpOpIn;rw[ho]
 have hw:Region.wanted o (yielded ops a.tmps)=true:=by simp[Region.wanted,hg]
 simp only[hw,if_true];refine⟨fun _ _=>hF _,?_⟩;rw[Oper.semAt_eq _ _ _ hdf,hrun];rw[←hd] at k;exact k
def ZV {ops:Array Oper} {i:Nat} {o:Oper} {w w':World} {a:Act} {next:Act→World→Prop} {Q:Exit→Act→World→Prop} (hF:∀f,F.fn f) (ho:ops[i]?=some o) (hg:o.guard=none) (hd:o.dst=none) (hdf:∀c,o.op≠.defer c)
 (hrun:(execOp a.eval o).run P w=.ok .skip w') (k:next a w'):wpOpIn F n P ops Q i next a w:=by
 unfold wpOpIn;rw[ho]
 have hw:Region.wanted o (yielded ops a.tmps)=true:=by simp[Region.wanted,hg]
 simp only[hw,if_true];refine⟨fun _ _=>hF _,?_⟩;rw[Oper.semAt_eq _ _ _ hdf,hrun];show next (a.put o.dst undef) w';rw[hd];exact k
end
def je (T:Array Value) (i j:Nat) (v:Value):(T.setIfInBounds i v).getD j undef=if i=j∧i<T.size then v else T.getD j undef:=by
 simp only[dA,eV]
 by_cases h:i=j
 ·subst h
  by_cases h2:i<T.size
  ·simp[h2]
  ·simp[h2]
 ·simp[h]
def YS (D:Nat):Deferred:={target:=.collected D,args:=#[]}
structure Put1 (n₀ rb:Nat) (x:Int) (w W:World):Prop where
 os:W.os=w.os
 tape:W.tape=w.tape
 output:W.output=w.output
 size:w.heap.size≤W.heap.size
 block:∀k,k<n₀→k≠rb→W.heap[k]?=w.heap[k]?
 cell:∃e,W.heap[rb]?=some (.cells #[.int .i64 x] e (0,0))
set_option maxHeartbeats 4000000 in
def afW {a:Act} {w:World} {Q:Exit→Act→World→Prop} {lb:Array Value} {L:List Int} {rb:Nat} {e0:TypeId} {v0:Value} {p q r:String}
 (hseq:SeqStopsK Fence.wide 1 Tryz.prog 178 lb (fun x:Int=>#[.int .i64 x]) (Below w.heap.size) (fun xs=>xs=L) (fun pre=>pre <+: L) L.length w)
 (hg:a.tmps.getD 48 undef=.func (.func 178) #[] lb) (h2:a.tmps.getD 2 undef=.pointer (some ⟨rb,0,none⟩)) (hsz:78≤a.tmps.size)
 (hrb:w.heap[rb]?=some (.cells #[v0] e0 (0,0)))
 (hdone:∀D W,(∀x∈L,x=0)→Below w.heap.size w W→w.heap.size≤D→W.heap[D]?=some (.deferred (some []))→Q .normal {a with defers:=YS D::a.defers} W)
 (hstop:∀D W x,L.find? (fun e=>e != 0)=some x→Put1 w.heap.size rb x w W→w.heap.size≤D→W.heap[D]?=some (.deferred (some []))→Q .ret {a with defers:=YS D::a.defers} W) :
 (Code.rangeFunc (.tmp 48) #[49] (YB p) (aft q r)).wpIn Fence.wide 2 Tryz.prog Q a w:=by
 have hT:∀f,Fence.wide.fn f:=fun _=>trivial;have hrl:=ē hrb
 refine wpIn_rangeFunc_ownF (α:=Int) (encs:=fun x=>#[.int .i64 x]) (Kp:=Below w.heap.size) (S:=fun xs=>xs=L) (Sp:=fun pre=>pre <+: L) (N:=L.length) (w0:=w) rfl (by omega) hg trivial (fun args w=>?eg) hseq
  (fun h k=>h.trans k) (fun W l o o' hl ho hc hw=>belowK_b (cE _) W l o o' hl ho hc hw) (Below.refl _ _) (fun _=>rfl)
  (fun pre W=>(∀x∈pre,x=0)∧Below w.heap.size w W)
  (fun c pre W=>c=.ret∧∃pre' x,pre=pre'++[x]∧(∀x∈pre',x=0)∧x≠0∧Put1 w.heap.size rb x w W)
  ?hI ?hIx ⟨by simp,Below.refl _ _⟩ (fun x=>{tmps:=(a.tmps.setIfInBounds 49 (.int .i64 x)).setIfInBounds 5 (.int .i64 x),defers:=[]}) ?hassign ?hbody ?hdone ?hstop
 case eg=>simp[callFunc,Sem.run_bind,run_program,Result.andThen_ok,Tryz.func178,plain 178 _ Tryz.func178,show Tryz.f178.body.isNone=false from rfl]; rfl
 case hI =>
  intro s W W' row ⟨h1,h2⟩ hgr hr;exact⟨h1,hgr.os.trans h2.os,hgr.tape.trans h2.tape,hgr.output.trans h2.output,dj h2.size hgr.size,fun k hk=>(hgr.block k (cZ hk h2.size) (fun e=>by have:=(hr k e.symm).1; omega)).trans (h2.block k hk)⟩
 case hIx =>
  intro c s W W' row ⟨h1,pre',x,h3,h4,h5,h6⟩ hgr hr;have hb:∀k,k<w.heap.size→W'.heap[k]?=W.heap[k]?:=fun k hk=>hgr.block k (cZ hk h6.size) (fun e=>by have:=(hr k e.symm).1; omega)
  exact⟨h1,pre',x,h3,h4,h5,hgr.os.trans h6.os,hgr.tape.trans h6.tape,hgr.output.trans h6.output,dj h6.size hgr.size,fun k hk hne=>(hb k hk).trans (h6.block k hk hne),by
   obtain⟨e,he⟩:=h6.cell
   exact⟨e,(hb rb hrl).trans he⟩⟩
 case hassign =>
  intro l x W K hK
  have hf:((#[49]:Array Tmp).zip #[Value.int .i64 x]).foldl (fun t (p,v)=>t.setIfInBounds p v) a.tmps=a.tmps.setIfInBounds 49 (.int .i64 x):=by simp
  rw[hf];refine wpIn_region ?_;rw[show ∀o:Oper,List.range (#[o]:Array Oper).size=[0] from fun _=>rfl,wpOpsIn_cons];refine CA (d:=5) (u:=.int .i64 x) (w':=W) hT rfl rfl rfl (by simp) ?_ hK;show Result.ok (Next.value ((a.tmps.setIfInBounds 49 (.int .i64 x)).getD 49 undef)) W=_;rw[je,if_pos ⟨rfl,by omega⟩]
 case hbody =>
  intro l pre x W ⟨h1,hbel⟩ hpre;refine wpIn_block (wpIn_seq (wpIn_region ?_));rw[show ∀o p:Oper,List.range (#[o,p]:Array Oper).size=[0,1] from fun _ _=>rfl,wpOpsIn_cons]
  refine CA (d:=50) (u:=.int .i64 x) (w':=W) hT rfl rfl rfl (by simp) (by
   show Result.ok (Next.value (((a.tmps.setIfInBounds 49 (.int .i64 x)).setIfInBounds 5 (.int .i64 x)).getD 5 undef)) W=_
   rw[je,if_pos ⟨rfl,by simp; omega⟩]) ?_
  rw[wpOpsIn_cons]
  refine CA (d:=51) (u:=.bool (x != 0)) (w':=W) hT rfl rfl rfl (by simp) (by
   show((do let u ←(do eqGuard .neq 35 (.tmp 50) (.const (.int .i64 0)) ((((a.tmps.setIfInBounds 49 (.int .i64 x)).setIfInBounds 5 (.int .i64 x)).setIfInBounds 50 (.int .i64 x)).getD 50 undef) (.int .i64 0); binOp .neq 35 ((((a.tmps.setIfInBounds 49 (.int .i64 x)).setIfInBounds 5 (.int .i64 x)).setIfInBounds 50 (.int .i64 x)).getD 50 undef) (.int .i64 0)); pure (.value u)):Sem Next).run Tryz.prog W=_;rw[je,if_pos ⟨rfl,by simp; omega⟩]
   simp[eqGuard,binOp,Op.intCmp]) ?_
  show Code.wpIn (Fence.wide.inRound l) (2-1-1) Tryz.prog (Code.cond (.tmp 51) _ .skip) _ {tmps:=((((a.tmps.setIfInBounds 49 (.int .i64 x)).setIfInBounds 5 (.int .i64 x)).setIfInBounds 50 (.int .i64 x)).setIfInBounds 51 (.bool (x != 0))),defers:=[]} W;obtain⟨T,hTd⟩:∃T,T=((((a.tmps.setIfInBounds 49 (.int .i64 x)).setIfInBounds 5 (.int .i64 x)).setIfInBounds 50 (.int .i64 x)).setIfInBounds 51 (.bool (x != 0))):=⟨_,rfl⟩;rw[←hTd]
  have t51:T.getD 51 undef=.bool (x != 0):=by rw[hTd,je,if_pos ⟨rfl,by simp; omega⟩]
  have t5:T.getD 5 undef=.int .i64 x:=by rw[hTd,je,if_neg (by simp),je,if_neg (by simp),je,if_pos ⟨rfl,by simp; omega⟩]
  have t2:T.getD 2 undef=.pointer (some ⟨rb,0,none⟩):=by rw[hTd,je,if_neg (by simp),je,if_neg (by simp),je,if_neg (by simp),je,if_neg (by simp),h2]
  have tsz:78≤T.size:=by rw[hTd]; simpa using hsz
  clear hTd
  by_cases hx:x=0
  ·have e51:Act.eval {tmps:=T,defers:=[]} (.tmp 51)=.bool false:=t51.trans (by simp[hx]);refine wpIn_cond_false e51 (wpIn_skip ?_);simp only[Exit.inBlock,ownPostK];exact⟨KeepsOthers.refl _,Below.refl _ _,fun y hy=>(cI.1 hy).elim (h1 y) (fun h=>by rw[cQ] at h; rw[h,hx]),hbel⟩
  ·have e51:Act.eval {tmps:=T,defers:=[]} (.tmp 51)=.bool true:=t51.trans (by simp[hx]);refine wpIn_cond_true e51 (wpIn_seq (wpIn_region ?_));rw[show ∀o p:Oper,List.range (#[o,p]:Array Oper).size=[0,1] from fun _ _=>rfl,wpOpsIn_cons]
   have e5:(execOp (Act.eval {tmps:=T,defers:=[]}) {dst:=some 52,op:=.move (.tmp 5),type:=35,pos:=r,after:=#[],guard:=none}).run Tryz.prog W=.ok (.value (.int .i64 x)) W:=by
    show Result.ok (Next.value (T.getD 5 undef)) W=_;rw[t5]
   refine CA (d:=52) (u:=.int .i64 x) (w':=W) hT rfl rfl rfl (by simp) e5 ?_;rw[wpOpsIn_cons];have hW:W.heap[rb]?=some (.cells #[v0] e0 (0,0)):=(hbel.block rb hrl).trans hrb
   letI:ó:=⟨fun _=>False,[],none⟩
   have hst:=pA (P:=Tryz.prog) (w:=W) (t:=35) (u:=.int .i64 x) (n:=1) (b:=rb) (o:=0) (by kernel_rfl) rfl hW (by simp) (by simp[Value.cells,Value.oneCell'])
   have hst':(storeVar 35 ⟨rb,0,none⟩ (.int .i64 x)).run Tryz.prog W=.ok () (W.setRow rb #[.int .i64 x]):=by simpa[Value.cells] using hst
   have t52:(T.setIfInBounds 52 (.int .i64 x)).getD 52 undef=.int .i64 x:=by rw[je,if_pos ⟨rfl,by omega⟩]
   have t2':(T.setIfInBounds 52 (.int .i64 x)).getD 2 undef=.pointer (some ⟨rb,0,none⟩):=by rw[je,if_neg (by simp),t2]
   have e6:(execOp (Act.eval {tmps:=T.setIfInBounds 52 (.int .i64 x),defers:=[]}) {dst:=none,op:=.store 35 (.tmp 2) (.tmp 52),type:=0,pos:=r,after:=#[{on:=0,ground:=.data},{on:=0,ground:=.phase}],guard:=none}).run Tryz.prog W=.ok .skip (W.setRow rb #[.int .i64 x]):=by
    show((do Instr.storeAt 35 ((T.setIfInBounds 52 (.int .i64 x)).getD 2 undef) ((T.setIfInBounds 52 (.int .i64 x)).getD 52 undef); pure .skip):Sem Next).run Tryz.prog W=_;rw[t52,t2'];simp[Instr.storeAt,Instr.sureAddr,hst']
   refine ZV (w':=W.setRow rb #[.int .i64 x]) hT rfl rfl rfl (by simp) e6 ?_;refine wpIn_ret ?_;simp only[Exit.inBlock,ownPostK];refine⟨⟨by simp,fun k o hk ho=>?_⟩,trivial,pre,x,rfl,h1,hx,hbel.os,hbel.tape,hbel.output,by simpa using hbel.size,fun k hk hne=>(setRow_other _ _ _ _ hne).trans (hbel.block k hk),⟨_,setRow_heap _ _ _ _ _ _ hW⟩⟩
   by_cases hk2:k=rb
   ·subst hk2; rw[hW] at hk; cases hk; simp[Obj.isCells] at ho
   ·rw[setRow_other _ _ _ _ hk2]; exact hk
 case hdone =>
  intro D xs W hD hS ⟨h1,hbel⟩ hDo;subst hS;exact hdone D W h1 hbel hD hDo
 case hstop =>
  intro D c pre W hD hS ⟨hc,pre',x,h3,h4,h5,h6⟩ hDo;subst hc;refine wpIn_ret (hstop D W x ?_ h6 hD hDo);obtain⟨t,rfl⟩:=hS;rw[h3,dh,List.find?_append]
  have:List.find? (fun e=>e != 0) pre'=none:=eP.2 fun y hy=>by simp[h4 y hy]
  rw[this];simp[h5]
end Go.Proofs.ZzM
end

noncomputable section
set_option maxRecDepth 100000
namespace Go.Proofs.ZzM
open Go Go.Am Go.RowKit
def fstC:Code→Code
 |.seq a _=>a
 |c=>c
def sndC:Code→Code
 |.seq _ b=>b
 |c=>c
def abP:Nat→Code→Code
 |0,c=>fstC c
 |n+1,c=>abP n (sndC c)
def aeO:Nat→Code→Code
 |0,c=>c
 |n+1,c=>aeO n (sndC c)
def ckB:Code:=Tryz.f43.body.getD .skip
def ckA5:Code:=fstC (aeO 5 ckB |> fstC)
def ckRF:Code:=sndC (aeO 5 ckB |> fstC)
def P0:Code:=sndC (aeO 5 ckB)
def ckPre:Code:=.seq (abP 0 ckB) (.seq (abP 1 ckB) (.seq (abP 2 ckB) (.seq (abP 3 ckB) (.seq (abP 4 ckB) ckA5))))
def afL:Tryz.f43.body=some (.seq (abP 0 ckB) (.seq (abP 1 ckB) (.seq (abP 2 ckB) (.seq (abP 3 ckB) (.seq (abP 4 ckB) (.seq (.seq ckA5 ckRF) P0)))))):=by kernel_rfl
def ck_pt:List (Nat×â):=[(113,Cy),(111,AW),(109,rG),(110,wn)]
def ckE (ρ:Type):Env ρ:=æ ck_pt []
abbrev ckR:Type:=Int ⊕ (List AV×List Blk)
def ac6 (S:St):Option Int:=match oh Tryz.prog Tryz.f43 S with
 |some v=>Ĭ [tI] S.h v
 |none=>none
def ckK (e:Exit) (S:St):Option ckR:=match e with
 |.ret=>match ac6 S with
  |some n=>some (.inl n)
  |none=>none
 |.normal=>match decide (78≤S.t.length) with
  |true=>some (.inr ([lk S.t 1,lk S.t 2,lk S.t 48],S.h))
  |false=>none
 |_=>none
def ckH (x:Val Ä) (s:Val (.map tI Ï)) (n:Int):List Blk :=
 [.cells (flat Ä x),.cells [.int .i64 n],.cells (flat Ä x),.cells [.mp tI Ï s],.cells [.fn (.func 175) [] [.box 3 0]]]
def ckM (x:Val Ä):Option ckR :=
 Â (Θ x.1 (0:Int) (1000000:Int)) fun r1=>ifb (!r1) (some (.inl 1)) (ifb (igt (Ô x.2.1) (12:Int)) (some (.inl 2)) (ifb (igt (Ô x.2.2.1) (40:Int)) (some (.inl 2)) (ifb (igt (Ô x.2.2.2.1) (12:Int)) (some (.inl 2)) (ifb (igt (Ô x.2.2.2.2.1) (40:Int)) (some (.inl 2)) (ifb (igt (Ô x.2.2.2.2.2) (10:Int)) (some (.inl 2))
  (Â (ŵ x) fun r2=>ifb (ine r2 (0:Int)) (some (.inl r2)) (Â (θ x) fun r3=>some (.inr ([.box 0 0,.box 1 0,.fn (.func 178) [] [.box 2 0,.box 4 0,.box 3 0]],ckH x r3 0)))))))))
def ck_pre (x:Val Ä):goC (ckE ckR) (jx (ckE ckR) 10) 43 [] 0 0 ckPre {t:=ĥ [Ä] x++List.replicate 77 .any,h:=[]} ckK=ckM x:=by kernel_rfl
def ae1 (ρ:Type):Env ρ:={ckE ρ with inl:=fun _=>false}
def ckS (x:Val Ä):Option Int :=
 Â (pf x) fun r5=>ifb (igt (Ô r5) (59:Int)) (some (2:Int)) (ck ((2:Int)*(Ô x.2.1)) fun n6=>ck ((Ô r5)-(Ô x.2.1)) fun n7=>ck ((2:Int)*n7) fun n8=>ck (n6+n8) fun n9=>ck ((2:Int)*(Ô x.2.2.2.2.1)) fun n10=>ck (n9+n10) fun n11=>ifb (igt n11 (300:Int)) (some (2:Int)) (some (0:Int)))
def ckK2 (e:Exit) (S:St):Option Int:=match e with
 |.ret=>match lk S.t 2 with
  |.box 1 0=>match lkB S.h 1 with
   |.cells [.int .i64 n]=>some n
   |_=>none
  |_=>none
 |_=>none
def ck_suf (x:Val Ä) (s:Val (.map tI Ï)):goC (ae1 Int) (jx (ae1 Int) 10) 43 [] 0 0 P0 {t:=[.any,.box 0 0,.box 1 0]++List.replicate 75 .any,h:=ckH x s 0} ckK2=ckS x:=by kernel_rfl
def ae0 (x:Val Ä):ñ x=match ckM x with
 |none=>none
 |some (.inl n)=>some n
 |some (.inr _)=>Â (θ x) fun s=>TE (mK x s) some (ckS x):=by
 unfold ñ Mc ckM ckS
 cases Θ x.1 (0:Int) (1000000:Int) with
 |none=>rfl
 |some r1 =>
 cases r1 with
 |false=>rfl
 |true =>
 simp only[Â,ifb,dI]
 cases igt (Ô x.2.1) (12:Int) with
 |true=>rfl
 |false =>
 cases igt (Ô x.2.2.1) (40:Int) with
 |true=>rfl
 |false =>
 cases igt (Ô x.2.2.2.1) (12:Int) with
 |true=>rfl
 |false =>
 cases igt (Ô x.2.2.2.2.1) (40:Int) with
 |true=>rfl
 |false =>
 cases igt (Ô x.2.2.2.2.2) (10:Int) with
 |true=>rfl
 |false =>
 cases ŵ x with
 |none=>rfl
 |some r2 =>
 simp only
 cases ine r2 (0:Int) with
 |true=>rfl
 |false =>
 cases θ x with
 |none=>rfl
 |some r3=>rfl
def agB {x:Val Ä} {q:List AV×List Blk} (h:ckM x=some (.inr q)):((x.2.2.1:List (Val Ã)).length≤1000∧(x.2.2.2.1:List (Val Ł)).length≤1000∧(x.2.2.2.2.1:List (Val Î)).length≤1000∧(x.2.2.2.2.2:List (Val Ã)).length≤1000) ∧
 ∃s,θ x=some s∧q=([.box 0 0,.box 1 0,.fn (.func 178) [] [.box 2 0,.box 4 0,.box 3 0]],ckH x s 0):=by
 unfold ckM at h
 cases h0:Θ x.1 (0:Int) (1000000:Int) with
 |none=>rw[h0] at h; cases h
 |some r1 =>
 rw[h0] at h
 cases r1 with
 |false=>cases h
 |true =>
 simp only[Â,ifb,dI] at h
 cases h1:igt (Ô x.2.1) (12:Int) with
 |true=>rw[h1] at h; cases h
 |false =>
 rw[h1] at h
 cases h2:igt (Ô x.2.2.1) (40:Int) with
 |true=>rw[h2] at h; cases h
 |false =>
 rw[h2] at h
 cases h3:igt (Ô x.2.2.2.1) (12:Int) with
 |true=>rw[h3] at h; cases h
 |false =>
 rw[h3] at h
 cases h4:igt (Ô x.2.2.2.2.1) (40:Int) with
 |true=>rw[h4] at h; cases h
 |false =>
 rw[h4] at h
 cases h5:igt (Ô x.2.2.2.2.2) (10:Int) with
 |true=>rw[h5] at h; cases h
 |false =>
 rw[h5] at h
 cases h6:ŵ x with
 |none=>rw[h6] at h; cases h
 |some r2 =>
 rw[h6] at h;simp only at h
 cases h7:ine r2 (0:Int) with
 |true=>rw[h7] at h; cases h
 |false =>
 rw[h7] at h
 cases h8:θ x with
 |none=>rw[h8] at h; cases h
 |some r3 =>
 rw[h8] at h
 have lt:∀{α:Type} (l:List α) (n:Nat),igt (Ô l) (n:Int)=false→l.length≤n:=by
  intro α l n h;unfold Ô at h;rw[KG] at h;simp only[igt,gt_iff_lt,decide_eq_false_iff_not] at h;omega
 simp only[Option.some.injEq,Sum.inr.injEq] at h;exact⟨⟨by have:=lt x.2.2.1 40 h2; omega,by have:=lt x.2.2.2.1 12 h3; omega,by have:=lt x.2.2.2.2.1 40 h4; omega,by have:=lt x.2.2.2.2.2 10 h5; omega⟩,r3,rfl,h.symm⟩
def CF {α β:Type} {f:α→Option β}:∀{l:List α} {m:List β},KN f l=some m→m.length=l.length∧∀(i:Nat) (a:α),l[i]?=some a→∃b,m[i]?=some b∧f a=some b
 |[],m,h=>by cases h; exact⟨rfl,fun i a ha=>by simp at ha⟩
 |a::l,m,h=>by
  unfold KN at h
  cases ha:f a with
  |none=>rw[ha] at h; cases h
  |some b =>
   rw[ha] at h
   cases hl:KN f l with
   |none=>rw[hl] at h; cases h
   |some m' =>
    rw[hl] at h;cases h;obtain⟨h1,h2⟩:=CF hl;refine⟨by simp[h1],fun i c hc=>?_⟩
    cases i with
    |zero=>simp at hc; subst hc; exact⟨b,by simp,ha⟩
    |succ i=>simpa using h2 i c (by simpa using hc)
def Jy (l:List Int):upE (fun j=>l[j]?.getD 0) l.length=l:=by
 unfold upE;refine List.ext_getElem (by simp) fun i h1 h2=>?_;simp at h1;simp[h1]
def CR.below {n₀:Nat} {w W:World} {av:Nat→Prop} (hb:Below n₀ w W) (hn:w.heap.size≤n₀) {t:Ty} {x:Val t} {vs:List Value} (h:CR w av t x vs):CR W av t x vs :=
 h.keep fun b hlt ha=>⟨hb.block b (cZ hlt hn),ha⟩
def Kb {w:World} {av:Nat→Prop} {xs:List (Int×Int)} {v:Value} (h:CR w av (.slice Ã) xs [v]):∃base cap b off,v=.slice base xs.length cap∧(0<xs.length→base=some ⟨b,off,none⟩∧b<w.heap.size) ∧
 ∀j,j<xs.length→w.cell? ⟨b,off+j*2,none⟩=some (.int .i64 (xs[j]?.getD (0,0)).1)∧w.cell? ⟨b,off+j*2+1,none⟩=some (.int .i64 (xs[j]?.getD (0,0)).2):=by
 obtain⟨base,cap,e,hc,hx⟩:=h;cases e;rcases hx with hx|⟨b,off,hb,hav,hlt,hx⟩
 ·refine⟨base,cap,0,0,rfl,fun h=>?_,fun j hj=>?_⟩
  ·rw[show xs=[] from hx] at h; simp at h
  ·rw[show xs=[] from hx] at hj; simp at hj
 ·refine⟨base,cap,b,off,rfl,fun _=>⟨hb,hlt⟩,fun j hj=>?_⟩;obtain⟨us,h1,h2⟩:=hx j xs[j] (cD hj);obtain⟨u1,u2,e1,h3,h4⟩:=h1;have e3:u1=[.int .i64 xs[j].1]:=h3;have e4:u2=[.int .i64 xs[j].2]:=h4;subst e3 e4 e1;have s:(Ã).size=2:=rfl;rw[s] at h2;have c1:=h2 0 _ rfl;have c2:=h2 1 _ rfl;rw[cD hj];exact⟨by simpa using c1,by simpa[eT] using c2⟩
end Go.Proofs.ZzM
end

noncomputable section
set_option maxRecDepth 100000
namespace Go.Proofs.ZzM
open Go Go.Am Go.RowKit
section
variable {w W W':World}
abbrev noG:Nat→Prop:=fun _=>False
def Si (w:World) (n:Int):kg w noG tI n (.int .i64 n):=⟨[.int .i64 n],rfl,rfl⟩
def age {sb:Nat} {mv:Value} {e:TypeId} {s:Val (.map tI Ï)} (h:w.heap[sb]?=some (.cells #[mv] e (0,0))) (hm:CR w noG (.map tI Ï) s [mv]):kg w noG (.ptr (.map tI Ï)) s (.pointer (some ⟨sb,0,none⟩)):=by
 letI:ó:=⟨fun _=>False,[],none⟩
 exact⟨[.pointer (some ⟨sb,0,none⟩)],⟨sb,0,[mv],rfl,id,ē h,hm,ĺ.of_cells h⟩,rfl⟩
def afX {y:Int} {u:Value} (h:RR w noG [tI] y u):u=.int .i64 y:=by
 obtain⟨us,h1,rfl⟩:=h;have:us=[.int .i64 y]:=h1;rw[this]; rfl
def aeE (h1:∀b,b<W.heap.size→W'.heap[b]?=W.heap[b]?) (h2:W.heap.size≤W'.heap.size) (h3:W'.os=W.os) (h4:W'.tape=W.tape) (h5:W'.output=W.output):W.grownBy W' none :=
 ⟨h3,h4,h5,h2,fun b hb _=>h1 b hb⟩
def SB {f:Nat} {p:â} (hp:Ò Tryz.prog f p) (hrs:p.rs=[tI]) {x:Val (tyL p.ts)} {y:Int} (hF:p.F x=some (hrs▸(show Val (tyL [tI]) from y))) {vals:List Value} (ha:AL W noG p.ts x vals) :
 CallsIn Fence.wide 0 Tryz.prog f vals.toArray W fun e W''=>e=.returned (.int .i64 y)∧W.grownBy W'' none:=by
 obtain⟨ts,rs,F⟩:=p;dsimp only at hrs hF ha x;subst hrs;refine(hp noG x y hF W vals (fun _ h=>h.elim) ha).2.mono fun e w' ⟨u,h0,h1,h2,h3,h4,h5,h6⟩=>⟨?_,aeE h2 h3 h4 h5 h6⟩;rw[h0,afX h1]
def S9 {s:Val (.map tI Ï)} {a b y:Int} (hF:ĸ a b s=some y) {sb:Nat} {mv:Value} {e:TypeId} (h:W.heap[sb]?=some (.cells #[mv] e (0,0))) (hm:CR W noG (.map tI Ï) s [mv]) :
 CallsIn Fence.wide 0 Tryz.prog 175 #[.int .i64 a,.int .i64 b,.pointer (some ⟨sb,0,none⟩)] W fun e W''=>e=.returned (.int .i64 y)∧W.grownBy W'' none :=
 SB X1 rfl (x:=(a,b,s)) (y:=y) hF (vals:=[.int .i64 a,.int .i64 b,.pointer (some ⟨sb,0,none⟩)]) ⟨_,_,rfl,Si _ _,_,_,rfl,Si _ _,_,rfl,age h hm⟩
def ab4 {mv:Value} {s:Val (.map tI Ï)} (hm:CR W noG (.map tI Ï) s [mv]):kg W noG (.map tI Ï) s mv:=⟨[mv],hm,rfl⟩
def Zt {x:Val Ä} {cs:Array Value} (hb:CR W noG Ä x cs.toList):kg W noG Ä x (.agg cs):=⟨cs.toList,hb,by show Value.agg cs=Value.agg cs.toList.toArray; rw[Array.toArray_toList]⟩
def ach {x:Val Ä} {s:Val (.map tI Ï)} {i y:Int} (hF:Τ x s i=some y) {mv:Value} {cs:Array Value} (hb:CR W noG Ä x cs.toList) (hm:CR W noG (.map tI Ï) s [mv]) :
 CallsIn Fence.wide 0 Tryz.prog 179 #[.agg cs,mv,.int .i64 i] W fun e W''=>e=.returned (.int .i64 y)∧W.grownBy W'' none :=
 SB SI rfl (x:=(x,s,i)) (y:=y) hF (vals:=[.agg cs,mv,.int .i64 i]) ⟨_,_,rfl,Zt hb,_,_,rfl,ab4 hm,_,rfl,Si _ _⟩
def VO {x:Val Ä} {s:Val (.map tI Ï)} {i y:Int} (hF:Ļ x s i=some y) {mv:Value} {cs:Array Value} (hb:CR W noG Ä x cs.toList) (hm:CR W noG (.map tI Ï) s [mv]) :
 CallsIn Fence.wide 0 Tryz.prog 180 #[.agg cs,mv,.int .i64 i] W fun e W''=>e=.returned (.int .i64 y)∧W.grownBy W'' none :=
 SB Jq rfl (x:=(x,s,i)) (y:=y) hF (vals:=[.agg cs,mv,.int .i64 i]) ⟨_,_,rfl,Zt hb,_,_,rfl,ab4 hm,_,rfl,Si _ _⟩
end
def od {w:World} {av:Nat→Prop} {t:Ty} {xs:List (Val t)} {vs:List Value} (h:CR w av (.slice t) xs vs):∃base cap,vs=[.slice base xs.length cap]:=by
 obtain⟨base,cap,e,_⟩:=h;exact⟨base,cap,e⟩
def ad5 {x:Val Ä} {s:Val (.map tI Ï)} {l1 l2 l3 l4:List Int} (h1:KN (fun u=>ĸ u.1 u.2 s) (x.2.2.1:List (Int×Int))=some l1) (h2:KN (fun i=>Τ x s i) (vY (x.2.2.2.1:List (Val Ł)).length)=some l2)
 (h3:KN (fun i=>Ļ x s i) (vY (x.2.2.2.2.1:List (Val Î)).length)=some l3) (h4:KN (fun u=>ĸ u.1 u.2 s) (x.2.2.2.2.2:List (Int×Int))=some l4)
 (hlen:(x.2.2.1:List (Val Ã)).length≤1000∧(x.2.2.2.1:List (Val Ł)).length≤1000∧(x.2.2.2.2.1:List (Val Î)).length≤1000∧(x.2.2.2.2.2:List (Val Ã)).length≤1000)
 {w:World} {bb tb sb:Nat} {te te2 te3:TypeId} {cb:Array Value} {mv:Value} (hbb:w.heap[bb]?=some (.cells cb te (0,0))) (hbk:CR w noG Ä x cb.toList) (htb:w.heap[tb]?=some (.cells #[.func (.func 175) #[] #[.pointer (some ⟨sb,0,none⟩)]] te2 (0,0)))
 (hsb:w.heap[sb]?=some (.cells #[mv] te3 (0,0))) (hmv:CR w noG (.map tI Ï) s [mv]) :
 SeqStopsK Fence.wide 1 Tryz.prog 178 #[.pointer (some ⟨bb,0,none⟩),.pointer (some ⟨tb,0,none⟩),.pointer (some ⟨sb,0,none⟩)] (fun x:Int=>#[.int .i64 x]) (Below w.heap.size) (fun xs=>xs=l1++(l2++(l3++l4))) (fun pre=>pre <+: (l1++(l2++(l3++l4)))) (l1++(l2++(l3++l4))).length w:=by
 intro l J Jx W hbel hJ hJx hY h0;obtain⟨fl,r0,e0,hfl,hr0⟩:=id hbk;obtain⟨ga,r1,e1,hga,hr1⟩:=hr0;obtain⟨us,r2,e2,hus,hr2⟩:=hr1;obtain⟨lo,r3,e3,hlo,hr3⟩:=hr2;obtain⟨co,ko,e4,hco,hko⟩:=hr3;obtain⟨f1,f2,e5,hf1,hf2⟩:=hfl;have e6:f1=[.int .i64 x.1.1]:=hf1;have e7:f2=[.int .i64 x.1.2]:=hf2;obtain⟨gab,gac,e8⟩:=od hga;obtain⟨lob,loc,e9⟩:=od hlo;obtain⟨cob,coc,e10⟩:=od hco;obtain⟨usb0,usc0,e11⟩:=od hus;obtain⟨kob0,koc0,e12⟩:=od hko;rw[e11] at hus;rw[e12] at hko;obtain⟨usb,usc,ub,uo,e13,hub,hU⟩:=Kb hus;obtain⟨kob,koc,kb,kof,e14,hkb,hK⟩:=Kb hko;rw[e13] at e11;rw[e14] at e12
 have hcb:cb=#[.int .i64 x.1.1,.int .i64 x.1.2,.slice gab (x.2.1:List (Val Ï)).length gac,.slice usb (x.2.2.1:List (Val Ã)).length usc,.slice lob (x.2.2.2.1:List (Val Ł)).length loc,.slice cob (x.2.2.2.2.1:List (Val Î)).length coc,.slice kob (x.2.2.2.2.2:List (Val Ã)).length koc]:=by
  rw[←dC,e0,e1,e2,e3,e4,e5,e6,e7,e8,e9,e10,e11,e12];rfl
 obtain⟨g1,q1⟩:=CF h1;obtain⟨g2,q2⟩:=CF h2;obtain⟨g3,q3⟩:=CF h3;obtain⟨g4,q4⟩:=CF h4
 have gl2:l2.length=(x.2.2.2.1:List (Val Ł)).length:=by rw[g2]; simp[vY]
 have gl3:l3.length=(x.2.2.2.2.1:List (Val Î)).length:=by rw[g3]; simp[vY]
 have up1:upE (fun j=>l1[j]?.getD 0) (x.2.2.1:List (Val Ã)).length=l1:=by rw[←g1]; exact Jy l1
 have up2:upE (fun j=>l2[j]?.getD 0) (x.2.2.2.1:List (Val Ł)).length=l2:=by rw[←gl2]; exact Jy l2
 have up3:upE (fun j=>l3[j]?.getD 0) (x.2.2.2.2.1:List (Val Î)).length=l3:=by rw[←gl3]; exact Jy l3
 have up4:upE (fun j=>l4[j]?.getD 0) (x.2.2.2.2.2:List (Val Ã)).length=l4:=by rw[←g4]; exact Jy l4
 have at1:∀{xs:List (Int×Int)} {ls:List Int},(∀(i:Nat) (a:Int×Int),xs[i]?=some a→∃b,ls[i]?=some b∧ĸ a.1 a.2 s=some b)→∀j,j<xs.length→ĸ (xs[j]?.getD (0,0)).1 (xs[j]?.getD (0,0)).2 s=some (ls[j]?.getD 0):=by
  intro xs ls hq j hj;obtain⟨b,hb,hf⟩:=hq j xs[j] (cD hj);rw[cD hj,hb];exact hf
 have at2:∀{n:Nat} {ls:List Int} {f:Int→Option Int},(∀(i:Nat) (a:Int),(vY n)[i]?=some a→∃b,ls[i]?=some b∧f a=some b)→∀j,j<n→f (j:Int)=some (ls[j]?.getD 0):=by
  intro n ls f hq j hj;obtain⟨b,hb,hf⟩:=hq j j (by simp[vY,hj]);rw[hb]; exact hf
 have hbel':∀{W':World},Below w.heap.size W W'→Below w.heap.size w W':=fun h=>hbel.trans h;have hcell:∀{W':World} {p:Addr} {v:Value},Below w.heap.size w W'→w.cell? p=some v→p.block<w.heap.size→W'.cell? p=some v:=fun {W'} {p} {v} h hc hp=>(h.cell (p:=p) hp).trans hc;have lb:=ē hbb;have lt:=ē htb;have ls:=ē hsb
 have:=aef te 1 (by omega) l w.heap.size bb tb sb (.int .i64 x.1.1) (.int .i64 x.1.2) (.slice gab (x.2.1:List (Val Ï)).length gac) mv lb lt ls
  ub uo (x.2.2.1:List (Val Ã)).length usc kb kof (x.2.2.2.2.2:List (Val Ã)).length koc usb kob lob cob (x.2.2.2.1:List (Val Ł)).length loc (x.2.2.2.2.1:List (Val Î)).length coc hub hkb
  (fun j=>(x.2.2.1:List (Int×Int))[j]?.getD (0,0)) (fun j=>(x.2.2.2.2.2:List (Int×Int))[j]?.getD (0,0)) (fun j=>l1[j]?.getD 0) (fun j=>l2[j]?.getD 0) (fun j=>l3[j]?.getD 0) (fun j=>l4[j]?.getD 0)
  hlen.1 hlen.2.1 hlen.2.2.1 hlen.2.2.2 W ((hbel.block bb lb).trans (by rw[hbb,hcb])) (hcell hbel (by simp[World.cell?,htb]) lt) (hcell hbel (by simp[World.cell?,hsb]) ls)
  (fun j hj=>⟨hcell hbel (hU j hj).1 (hub (by omega)).2,hcell hbel (hU j hj).2 (hub (by omega)).2⟩) (fun j hj=>⟨hcell hbel (hK j hj).1 (hkb (by omega)).2,hcell hbel (hK j hj).2 (hkb (by omega)).2⟩)
  (fun j hj W' hW=>S9 (at1 q1 j hj) (((hbel' hW).block sb ls).trans hsb) (CR.below (hbel' hW) (cE _) hmv))
  (fun j hj W' hW=>S9 (at1 q4 j hj) (((hbel' hW).block sb ls).trans hsb) (CR.below (hbel' hW) (cE _) hmv))
  (fun j hj W' hW=>ach (at2 q2 j hj) (by have:=CR.below (hbel' hW) (cE _) hbk; rwa [hcb] at this) (CR.below (hbel' hW) (cE _) hmv))
  (fun j hj W' hW=>VO (at2 q3 j hj) (by have:=CR.below (hbel' hW) (cE _) hbk; rwa [hcb] at this) (CR.below (hbel' hW) (cE _) hmv))
  J Jx (fun pre W1 W2 hj hg=>hJ pre W1 W2 none hj hg (fun r e=>by cases e)) (fun pre W1 W2 hj hg=>hJx pre W1 W2 none hj hg (fun r e=>by cases e))
  (fun pre y W1 hj hl=>hY pre y W1 hj (by simp only[cG]; omega)) h0 hbel.size
 rw[up1,up2,up3,up4] at this;exact this
end Go.Proofs.ZzM
end

noncomputable section
set_option maxRecDepth 100000
namespace Go.Proofs.ZzM
open Go Go.Am Go.RowKit
section
variable [ó] {ρ:Type} {ν:Nat→Value} {w:World}
def peel (hq:ó.Q=none) {E:Env ρ} {call:List Nat→Bool→Nat→List AV→List Blk→(AV→List Blk→Option ρ)→Option ρ} {L:Nat} (hE:kV E L call) (hD:lp E L call) (hj:E.joins=fun _ _ _ _=>none) {fid:Nat} {path:List Nat} (hp:path.length+2=L) {x y c:Code} {bid n:Nat} {S:St} {K:Exit→St→Option ρ} {r:ρ} {a:Act} {Q:Exit→Act→World→Prop}
 (hL:∀z∈í bid x,pn E path fid z.1 z.2) (e:goC E call fid path 0 bid (.seq x y) S K=some r) (H:Sim ν S a w)
 (hn:∀ν' S' a' w',Sim ν' S' a' w'→Ev 0 ν S.h w ν' S'.h w'→goC E call fid path 0 bid y S' K=some r→c.wpIn Fence.wide n E.P Q a' w')
 (hx:∀ν' S' a' w' e,e≠.normal→Sim ν' S' a' w'→Ev 0 ν S.h w ν' S'.h w'→K e S'=some r→Q e a' w'):(Code.seq x c).wpIn Fence.wide n E.P Q a w:=by
 simp only[goC,hj] at e;have hgo:=kI hE hD hp x bid S _ ν a w hL e H (dR _);rw[EY hq] at hgo;refine wpIn_seq (wpIn_wide.2 (wpIn_wide.1 (wpIn_mono hgo fun e' a' w' ha=>?_)));obtain⟨ν',S',h1,h2,h3,h4,h5⟩:=ha
 cases e' with
 |normal=>exact hn ν' S' a' w' h1 h2 h5
 |exit id=>exact hx ν' S' a' w' _ (by simp) h1 h2 h5
 |goto l=>exact hx ν' S' a' w' _ (by simp) h1 h2 h5
 |ret=>exact hx ν' S' a' w' _ (by simp) h1 h2 h5
 |panic ch=>exact hx ν' S' a' w' _ (by simp) h1 h2 h5
 |outgrown=>exact hx ν' S' a' w' _ (by simp) h1 h2 h5
end
def abw {T:Array Value} {rb:Nat} {n:Int} {e:TypeId} {W:World} (h2:T.getD 2 undef=.pointer (some ⟨rb,0,none⟩)) (hc:W.heap[rb]?=some (.cells #[.int .i64 n] e (0,0))):(results Tryz.f43 T).run Tryz.prog W=.ok (.int .i64 n) W:=by
 letI:ó:=⟨fun _=>False,[],none⟩
 have hl:(loadVar 35 ⟨rb,0,none⟩).run Tryz.prog W=.ok (.int .i64 n) W:=by
  have:=tm (P:=Tryz.prog) (w:=W) (t:=35) (agg:=false) (n:=1) (by kernel_rfl) (us:=[.int .i64 n]) rfl (fun _=>rfl) (a:=⟨rb,0,none⟩) (fun j v hj=>by
   have:=ĺ.of_cells hc j v (by simpa using hj)
   cases j with
   |zero=>simpa[Addr.add] using this
   |succ j=>simp at hj)
  exact this
 have hr:Tryz.f43.results=#[.cell 2 35]:=by kernel_rfl
 unfold results;rw[hr,Array.mapM_eq_mapM_toList];simp only[Sem.run_bind,Sem.run_map,List.mapM_cons,List.mapM_nil,h2,asAddr,Sem.run_pure,Result.andThen_ok,hl];rfl
def HR_ghost {G:Nat→Prop} {D D':List Deferred} {Q Q':Option Nat} {ν:Nat→Value} {h:List Blk} {w:World} (H:@HR ⟨G,D,Q⟩ ν h w):@HR ⟨G,D',Q'⟩ ν h w :=
 @HR.mk ⟨G,D',Q'⟩ ν h w (@HR.blk ⟨G,D,Q⟩ ν h w H) (@HR.inj ⟨G,D,Q⟩ ν h w H) (@HR.ghlt ⟨G,D,Q⟩ ν h w H) (@HR.ghne ⟨G,D,Q⟩ ν h w H)
def agI [ó] {ν:Nat→Value} {h:List Blk} {w:World} {x:Val Ä} {us:List Value} (hv:Ă (VRc ν h w) (flat Ä x) us):CR w noG Ä x us:=by
 have h1:å Ä (flat Ä x)=some x:=rfl;have h2:Ă (VRs w (Av ν h)) (flat Ä x) us:=hv.mono fun c u hu=>hu.1.data;exact CR.mono (fun _ hf=>hf.elim) (ŧ h1 h2)
def AE (G:Nat→Prop) (y:Int) (w:World) (e:Ending) (w':World):Prop :=
 ∃u,e=.returned u∧RR w' G [tI] y u∧(∀b,b<w.heap.size→w'.heap[b]?=w.heap[b]?)∧w.heap.size≤w'.heap.size∧w'.os=w.os∧w'.tape=w.tape∧w'.output=w.output
def Zj {G:Nat→Prop} {y:Int} {w0 w:World} {a:Act} {D rb:Nat} {e:TypeId} (hd:a.defers=[YS D]) (hD:w.heap[D]?=some (.deferred (some []))) (h2:a.tmps.getD 2 undef=.pointer (some ⟨rb,0,none⟩)) (hc:w.heap[rb]?=some (.cells #[.int .i64 y] e (0,0)))
 (hb:∀b,b<w0.heap.size→w.heap[b]?=w0.heap[b]?) (hDl:w0.heap.size≤D) (hsz:w0.heap.size≤w.heap.size) (h3:w.os=w0.os) (h4:w.tape=w0.tape) (h5:w.output=w0.output):LeavesInM Fence.wide 2 Tryz.prog Tryz.f43 a.tmps (AE G y w0) a.defers .returning w:=by
 rw[hd]
 have hne:rb≠D:=fun h=>by rw[h,hD] at hc; cases hc
 have ho:∀b,b≠D→(w.putObj D (.deferred none)).heap[b]?=w.heap[b]?:=fun b hb=>by
  simp only[World.putObj,eV];rw[if_neg (fun h=>hb h.symm)]
 refine⟨by simp,.inl ⟨D,_,rfl,run_takeDeferred hD,?_⟩⟩;refine⟨.int .i64 y,abw h2 ((ho rb hne).trans hc),.int .i64 y,rfl,⟨[.int .i64 y],rfl,rfl⟩,fun b hlt=>(ho b (by omega)).trans (hb b hlt),by simpa[World.putObj] using hsz,h3,h4,h5⟩
def agC (S:St):ckK .ret S=(ac6 S).map .inl:=by
 unfold ckK
 cases ac6 S<;>rfl
def aat (S:St):ckK .normal S=if decide (78≤S.t.length)=true then some (.inr ([lk S.t 1,lk S.t 2,lk S.t 48],S.h)) else none:=by
 unfold ckK
 cases decide (78≤S.t.length)<;>rfl
def ja [ó] {ρ:Type} {E:Env ρ} (h0:E.loops=qx []) {path:List Nat} {fid bid:Nat} {b:Code}:pn E path fid bid b:=fun m S K r ν a w e=>by
 rw[h0] at e;cases e
def af1:Code→String
 | .region _ ops _ => ((ops[0]?).map fun o => o.pos).getD ""
 | _ => ""
def rfA:Code→Code
 |.block _ (.rangeFunc _ _ a _)=>a
 |_=>.skip
def rfB:Code→Code
 |.block _ (.rangeFunc _ _ _ (.block _ (.seq a _)))=>a
 |_=>.skip
def rfC:Code→Code
 |.block _ (.rangeFunc _ _ _ (.block _ (.seq _ (.cond _ (.seq a _) _))))=>a
 |_=>.skip
def agA:ckRF=Code.block 0 (Code.rangeFunc (.tmp 48) #[49] (YB (af1 (rfA ckRF))) (aft (af1 (rfB ckRF)) (af1 (rfC ckRF)))):=by kernel_rfl
def afK:∀e∈ck_pt,Ò Tryz.prog e.1 e.2:=Á M4 (Á M3 (Á yJ (Á M6 Æ)))
def ac7 {e:Exit} {S:St} {n:Int} (h:ckK2 e S=some n):e=.ret∧lk S.t 2=.box 1 0∧lkB S.h 1=.cells [.int .i64 n]:=by
 unfold ckK2 at h
 split at h
 ·split at h
  ·rename_i h2
   split at h
   ·rename_i h3;cases h;exact⟨rfl,h2,h3⟩
   ·cases h
  ·cases h
 ·cases h
def Vm [ó] {ν:Nat→Value} {h:List Blk} {w:World} {n:Int} {id:Nat} (H:HR ν h w) (hl:lkB h id=.cells [.int .i64 n]):∃b e,ν id=.pointer (some ⟨b,0,none⟩)∧w.heap[b]?=some (.cells #[.int .i64 n] e (0,0)):=by
 have hB:=H.blk id;rw[hl] at hB;obtain⟨b,c,e,h1,h2,h3⟩:=hB;obtain⟨u,h4,h5⟩:=h3.one;have h6:u=.int .i64 n:=h5.1;refine⟨b,e,h1,?_⟩;rw[h2]
 have:c=#[.int .i64 n]:=by rw[←dC,h4,h6]
 rw[this]
def xU [ó] {ν:Nat→Value} {h:List Blk} {w:World} {id off:Nat} {v:Value} {b:Nat} (hv:VR ν h w (.box id off) v) (hb:ν id=.pointer (some ⟨b,0,none⟩)):v=.pointer (some ⟨b,off,none⟩):=by
 obtain⟨cs,b',h1,h2,h3⟩:=hv;rw[hb] at h2;cases h2;exact h3
def agz {G:Nat→Prop} {x:Val Ä} {s:Val (.map tI Ï)} {y:Int} (hS:ckS x=some y) {ν:Nat→Value} {w0 w6 W:World} {a:Act} {D:Nat} (H:@HR ⟨G,[],none⟩ ν (ckH x s 0) w6) (hb:Below w6.heap.size w6 W) (hD:w6.heap.size≤D) (hDo:W.heap[D]?=some (.deferred (some []))) (hd:a.defers=[YS D]) (hlen:78≤a.tmps.size)
 (t1:@VR ⟨G,[],none⟩ ν (ckH x s 0) w6 (.box 0 0) (a.tmps.getD 1 undef)) (t2:@VR ⟨G,[],none⟩ ν (ckH x s 0) w6 (.box 1 0) (a.tmps.getD 2 undef))
 (h0:∀b,b<w0.heap.size→w6.heap[b]?=w0.heap[b]?∧¬Yc ν (ckH x s 0) b) (hsz:w0.heap.size≤w6.heap.size) (h3:w6.os=w0.os) (h4:w6.tape=w0.tape) (h5:w6.output=w0.output) :
 P0.wpIn Fence.wide 2 Tryz.prog (bodyPostM Fence.wide 2 Tryz.prog Tryz.f43 (AE G y w0)) a W:=by
 have hlive:∀b,Yc ν (ckH x s 0) b→b<w6.heap.size:=fun b hl=>@HR.ltA ⟨G,[],none⟩ _ _ _ H b (.inl hl)
 have t1':∃b,ν 0=.pointer (some ⟨b,0,none⟩)∧a.tmps.getD 1 undef=.pointer (some ⟨b,0,none⟩):=by
  obtain⟨cs,b,_,h2,h3⟩:=t1;exact⟨b,h2,h3⟩
 have t2':∃b,ν 1=.pointer (some ⟨b,0,none⟩)∧a.tmps.getD 2 undef=.pointer (some ⟨b,0,none⟩):=by
  obtain⟨cs,b,_,h2,h3⟩:=t2;exact⟨b,h2,h3⟩
 letI:ó:=⟨G,[YS D],none⟩
 have H1:HR ν (ckH x s 0) w6:=HR_ghost H;have H2:HR ν (ckH x s 0) W:=(H1.grow (fun b hlt=>hb.block b hlt) hb.size hb.os hb.tape hb.output 0).2;have hlib:Jv (ae1 Int):=Me afK (ae1 Int) rfl rfl rfl rfl rfl (gS rfl);have hdraw:∀L call,kV (ae1 Int) L call→lp (ae1 Int) L call:=B7 hmix;have hl0:(ae1 Int).loops=qx []:=rfl;have hcall:=lX (.inr fun _=>rfl) hlib hdraw (fun n hn hE path f fn c _ _ _ z _=>ja hl0) 10 (cE _);have hEnv:kV (ae1 Int) 2 (jx (ae1 Int) 10):=⟨.inr (pk 9),hcall,hlib.plain,hlib.clone,hlib.joins⟩;have law:=ck_suf x s;rw[hS] at law
 have sim:Sim ν {t:=[.any,.box 0 0,.box 1 0]++List.replicate 75 .any,h:=ckH x s 0} a W:=by
  refine⟨hd,by simpa using hlen,fun i=>?_,H2⟩;simp only[Md];rcases i with _|_|_|i
  ·trivial
  ·obtain⟨b,g1,g2⟩:=t1';exact⟨_,b,rfl,g1,g2⟩
  ·obtain⟨b,g1,g2⟩:=t2';exact⟨_,b,rfl,g1,g2⟩
  ·trivial
 refine wpIn_wide.2 (wpIn_wide.1 (wpIn_mono (kI hEnv (hdraw _ _ hEnv) rfl P0 0 _ _ ν a W (fun z _=>ja hl0) law sim (dR _)) fun e a' w' ha=>?_));obtain⟨ν',S',g1,g2,_,_,g5⟩:=ha;obtain⟨rfl,k2,k3⟩:=ac7 g5;obtain⟨rb,te,r1,r2⟩:=Vm g1.heap k3;have r3:=g1.tmps 2;rw[k2] at r3;have r4:=xU r3 r1;have hDlt:=ē hDo;refine Zj (w:=w') (a:=a') (G:=G) (y:=y) (w0:=w0) (D:=D) (rb:=rb) g1.defers ((g2.keep D hDlt fun hl=>by have:=hlive D hl; omega).1.trans hDo) r4 r2 (fun b hlt=>?_) (by omega) (by have:=g2.size; have:=hb.size; omega) (g2.os.trans (hb.os.trans h3)) (g2.tape.trans (hb.tape.trans h4)) (g2.output.trans (hb.output.trans h5));have h01:=h0 b hlt
 have hlt6:b<w6.heap.size:=by omega
 have hltW:b<W.heap.size:=by have:=hb.size; omega
 exact(g2.keep b hltW h01.2).1.trans ((hb.block b hlt6).trans h01.1)
set_option maxHeartbeats 2000000 in
def aau (G:Nat→Prop) (x:Val Ä) (y:Int) (hF':ñ x=some y) (w:World) (vals:List Value) (hG:∀b,G b→b<w.heap.size) (hAL:AL w G [Ä] x vals) :
 (∃fn c,Tryz.prog.funcs[43]?=some fn∧fn.body=some c)∧CallsIn Fence.wide 0 Tryz.prog 43 vals.toArray w (AE G y w):=by
 rw[ae0] at hF'
 letI:ó:=⟨G,[],none⟩
 have hpt:=afK;have hlib:Jv (ckE ckR):=Me hpt (ckE ckR) rfl rfl rfl rfl rfl (gS rfl);have hdraw:∀L call,kV (ckE ckR) L call→lp (ckE ckR) L call:=B7 hmix;have h0:(ckE ckR).loops=qx []:=rfl;have hcall:=lX (.inl ⟨rfl,rfl⟩) hlib hdraw (fun n hn hE path f fn c _ _ _ z _=>ja h0) 10 (cE _);have hEnv:kV (ckE ckR) 2 (jx (ckE ckR) 10):=⟨.inr (pk 9),hcall,hlib.plain,hlib.clone,hlib.joins⟩;have hD:=hdraw _ _ hEnv;have H:HR (fun _=>undef) [] w:=⟨fun _=>trivial,fun _ _ _ h=>(by cases h),hG,fun _ _ h=>(by cases h)⟩;have hav:∀b,Av (fun _=>undef) [] b→G b:=fun b hb=>hb.elim (fun⟨_,h,_⟩=>by cases h) id;have hargs:Ă (VR (fun _=>undef) [] w) (ĥ [Ä] x) vals:=AL.VR (hAL.mono hav);refine⟨⟨Tryz.f43,_,Tryz.func43,afL⟩,?_⟩
 have hlen:vals.length=1:=by
  have:=hargs.length;simpa[ĥ,acK] using this.symm
 cases hM:ckM x with
 |none=>rw[hM] at hF'; cases hF'
 |some r0 =>
 rw[hM] at hF';have law:=ck_pre x;rw[hM] at law;refine callsIn_wide.2 (callsIn_wide.1 (callsIn_of_wp_marks (n:=2) Tryz.func43 afL trivial ?_ (R:=AE G y w)))
 have hS:Sim (fun _=>undef) {t:=ĥ [Ä] x++List.replicate 77 .any,h:=[]} {tmps:=vals.toArray++Array.replicate (Tryz.f43.ntmps-vals.toArray.size) undef,defers:=[]} w:=by
  refine⟨rfl,?_,fun i=>?_,H⟩
  ·have:Tryz.f43.ntmps=78:=by kernel_rfl
   have hl2:(ĥ [Ä] x).length=1:=rfl;simp[this,hlen,hl2]
  ·simp only[Md];rcases dt i (ĥ [Ä] x).length with hi|hi
   ·have:=Ă.lk (R:=VR (fun _=>undef) [] w) (fun _=>trivial) i hargs
    have hv:i<vals.length:=by rw[←hargs.length]; exact hi
    have h2:(vals.toArray++Array.replicate (Tryz.f43.ntmps-vals.toArray.size) undef).getD i undef=vals.getD i undef:=by
     simp[dA,eO,hv]
    rw[h2]; exact this
   ·rw[ack _ _ hi]; trivial
 -- the ways out ahead of the loop
 have out:∀ν' S' a' w' e,e≠.normal→Sim ν' S' a' w'→Ev 0 (fun _=>undef) [] w ν' S'.h w'→ckK e S'=some r0→bodyPostM Fence.wide 2 Tryz.prog Tryz.f43 (AE G y w) e a' w':=by
  intro ν' S' a' w' e hne hS' hE' hk
  cases e with
  |normal=>exact(hne rfl).elim
  |ret =>
   rw[agC] at hk
   cases hr:ac6 S' with
   |none=>rw[hr] at hk; cases hk
   |some n =>
    rw[hr,dH] at hk;cases hk
    have hyn:n=y:=by simpa using hF'
    subst hyn;unfold ac6 at hr
    split at hr
    ·rename_i v hv;obtain⟨u,q1,q2⟩:=FF hS' hv;show LeavesInM _ _ _ _ _ _ a'.defers _ _;rw[show a'.defers=[] from hS'.defers];exact⟨u,q1,u,rfl,Qo hS'.heap [tI] q2 hr,fun b hb=>(hE'.keep b hb fun⟨_,h,_⟩=>by cases h).1,hE'.size,hE'.os,hE'.tape,hE'.output⟩
    ·cases hr
  |exit id=>cases hk
  |goto l=>cases hk
  |panic ch=>cases hk
  |outgrown=>cases hk
 have outT:∀{ν₁:Nat→Value} {h₁:List Blk} {w₁:World},Ev 0 (fun _=>undef) [] w ν₁ h₁ w₁→∀ν' S' a' w' e,e≠.normal→Sim ν' S' a' w'→Ev 0 ν₁ h₁ w₁ ν' S'.h w'→ckK e S'=some r0→bodyPostM Fence.wide 2 Tryz.prog Tryz.f43 (AE G y w) e a' w' :=
  fun hE ν' S' a' w' e hne hS' hE' hk=>out ν' S' a' w' e hne hS' (hE.trans hE' (cE _)) hk
 refine peel rfl hEnv hD rfl rfl (fun z _=>ja h0) law hS (fun ν1 S1 a1 w1 s1 e1 k1=>?_) out;refine peel rfl hEnv hD rfl rfl (fun z _=>ja h0) k1 s1 (fun ν2 S2 a2 w2 s2 e2 k2=>?_) (outT e1);have t2:=e1.trans e2 (cE _);refine peel rfl hEnv hD rfl rfl (fun z _=>ja h0) k2 s2 (fun ν3 S3 a3 w3 s3 e3 k3=>?_) (outT t2);have t3:=t2.trans e3 (cE _);refine peel rfl hEnv hD rfl rfl (fun z _=>ja h0) k3 s3 (fun ν4 S4 a4 w4 s4 e4 k4=>?_) (outT t3);have t4:=t3.trans e4 (cE _);refine peel rfl hEnv hD rfl rfl (fun z _=>ja h0) k4 s4 (fun ν5 S5 a5 w5 s5 e5 k5=>?_) (outT t4);have t5:=t4.trans e5 (cE _);refine wpIn_seq (wpIn_seq (wpIn_wide.2 (wpIn_wide.1 (wpIn_mono (kI hEnv hD rfl ckA5 0 S5 _ ν5 a5 w5 (fun z _=>ja h0) k5 s5 (dR _)) fun e' a6 w6 ha=>?_))));obtain⟨ν,S,s6,e6,_,_,k6⟩:=ha;have t6:=t5.trans e6 (cE _)
 have other:∀e,e≠.normal→ckK e S=some r0→Exit.then (Code.wpIn Fence.wide 2 Tryz.prog P0 (bodyPostM Fence.wide 2 Tryz.prog Tryz.f43 (AE G y w))) (bodyPostM Fence.wide 2 Tryz.prog Tryz.f43 (AE G y w)) e a6 w6:=by
  intro e hne hk;have:=out ν S a6 w6 e hne s6 t6 hk
  cases e<;>first|exact(hne rfl).elim|exact this
 cases e' with
 |exit id=>exact other _ (by simp) k6
 |goto l=>exact other _ (by simp) k6
 |ret=>exact other _ (by simp) k6
 |panic ch=>exact other _ (by simp) k6
 |outgrown=>exact other _ (by simp) k6
 |normal =>
 clear other;rw[aat] at k6
 split at k6<;>try (cases k6; done)
 rename_i h78
 have h78':78≤S.t.length:=by simpa using h78
 cases k6;obtain⟨hlens,s,hs,hq⟩:=agB hM;simp only[Prod.mk.injEq,List.cons.injEq,and_true] at hq;obtain⟨⟨q1,q2,q48⟩,qh⟩:=hq
 have hF2:TE (mK x s) some (ckS x)=some y:=by
  simp only at hF';rw[hs] at hF';exact hF'
 -- what the errors are
 obtain⟨L,hL,hLy⟩:∃L,mK x s=some L∧(match L.find? (fun e=>e != 0) with|some e=>some e|none=>ckS x)=some y:=by
  unfold TE at hF2
  cases hl:mK x s with
  |none=>rw[hl] at hF2; cases hF2
  |some L=>rw[hl] at hF2; exact⟨L,rfl,hF2⟩
 obtain⟨l1,l2,l3,l4,m1,m2,m3,m4,rfl⟩:∃l1 l2 l3 l4,KN (fun u=>ĸ u.1 u.2 s) (x.2.2.1:List (Int×Int))=some l1∧KN (fun i=>Τ x s i) (vY (x.2.2.2.1:List (Val Ł)).length)=some l2 ∧
  KN (fun i=>Ļ x s i) (vY (x.2.2.2.2.1:List (Val Î)).length)=some l3∧KN (fun u=>ĸ u.1 u.2 s) (x.2.2.2.2.2:List (Int×Int))=some l4∧L=l1++(l2++(l3++l4)):=by
  unfold mK at hL
  cases m1:KN (fun u=>ĸ u.1 u.2 s) (x.2.2.1:List (Int×Int)) with
  |none=>rw[m1] at hL; cases hL
  |some l1 =>
  rw[m1] at hL
  cases m2:KN (fun i=>Τ x s i) (vY (x.2.2.2.1:List (Val Ł)).length) with
  |none=>simp only[Â,m2] at hL; cases hL
  |some l2 =>
  cases m3:KN (fun i=>Ļ x s i) (vY (x.2.2.2.2.1:List (Val Î)).length) with
  |none=>simp only[Â,m2,m3] at hL; cases hL
  |some l3 =>
  cases m4:KN (fun u=>ĸ u.1 u.2 s) (x.2.2.2.2.2:List (Int×Int)) with
  |none=>simp only[Â,m2,m3,m4] at hL; cases hL
  |some l4 =>
  simp only[Â,m2,m3,m4] at hL;cases hL;exact⟨l1,l2,l3,l4,rfl,rfl,rfl,rfl,rfl⟩
 -- the blocks
 obtain⟨T,Hh⟩:=S;dsimp only at q1 q2 q48 qh h78';subst qh;have p1:=s6.tmps 1;have p2:=s6.tmps 2;have p48:=s6.tmps 48;dsimp only at p1 p2 p48;rw[q1] at p1;rw[q2] at p2;rw[q48] at p48;obtain⟨rb,te1,n1,hrb⟩:=Vm (id:=1) (n:=0) s6.heap rfl;have hB2:BR ν (ckH x s 0) w6 2 (.cells (flat Ä x)):=s6.heap.blk 2;have hB3:BR ν (ckH x s 0) w6 3 (.cells [.mp tI Ï s]):=s6.heap.blk 3;have hB4:BR ν (ckH x s 0) w6 4 (.cells [.fn (.func 175) [] [.box 3 0]]):=s6.heap.blk 4;obtain⟨bb,cb,te,n2,hbb,hb2⟩:=hB2;obtain⟨sb,cs3,te3,n3,hsb,hb3⟩:=hB3;obtain⟨tb,cs4,te2,n4,htb,hb4⟩:=hB4;obtain⟨mv,z3,hm3⟩:=hb3.one;obtain⟨fv,z4,hm4⟩:=hb4.one;have hmv:CR w6 noG (.map tI Ï) s [mv]:=CR.mono (fun _ hf=>hf.elim) (show CR w6 (Av ν (ckH x s 0)) (.map tI Ï) s [mv] from hm3.1)
 have hc3:cs3=#[mv]:=by rw[←dC,z3]
 have hfv:fv=.func (.func 175) #[] #[.pointer (some ⟨sb,0,none⟩)]:=by
  obtain⟨fs,cs,h1,h2,h3⟩:=hm4.1
  have e1:fs=#[]:=by rw[←dC]; exact h2.nil_left
  obtain⟨u,e2,h4⟩:=h3.one;have e3:u=.pointer (some ⟨sb,0,none⟩):=xU (w:=w6) (id:=3) (off:=0) h4 n3
  have e4:cs=#[.pointer (some ⟨sb,0,none⟩)]:=by rw[←dC,e2,e3]
  rw[h1,e1,e4]
 have hc4:cs4=#[fv]:=by rw[←dC,z4]
 rw[hc3] at hsb;rw[hc4,hfv] at htb
 have hg:a6.tmps.getD 48 undef=.func (.func 178) #[] #[.pointer (some ⟨bb,0,none⟩),.pointer (some ⟨tb,0,none⟩),.pointer (some ⟨sb,0,none⟩)]:=by
  obtain⟨fs,cs,h1,h2,h3⟩:=p48
  have e1:fs=#[]:=by rw[←dC]; exact h2.nil_left
  have hl:=h3.length
  obtain⟨u1,u2,u3,e2⟩:∃u1 u2 u3,cs.toList=[u1,u2,u3]:=by
   rcases hcs:cs.toList with _|⟨u1,_|⟨u2,_|⟨u3,_|⟨u4,t⟩⟩⟩⟩<;>rw[hcs] at hl<;>simp at hl
   exact⟨u1,u2,u3,rfl⟩
  rw[e2] at h3;have e3:u1=.pointer (some ⟨bb,0,none⟩):=xU (w:=w6) (id:=2) (off:=0) h3.1 n2;have e4:u2=.pointer (some ⟨tb,0,none⟩):=xU (w:=w6) (id:=4) (off:=0) h3.2.1 n4;have e5:u3=.pointer (some ⟨sb,0,none⟩):=xU (w:=w6) (id:=3) (off:=0) h3.2.2.1 n3;rw[h1,e1];congr 1;rw[←dC,e2,e3,e4,e5]
 have hseq:=ad5 m1 m2 m3 m4 hlens hbb (agI hb2) htb hsb hmv;have h2:=xU p2 n1;have hsz:78≤a6.tmps.size:=dj h78' s6.len
 have hkeep:∀b,b<w.heap.size→w6.heap[b]?=w.heap[b]?∧¬Yc ν (ckH x s 0) b:=fun b hb=>t6.keep b hb fun⟨_,h,_⟩=>by cases h
 have hdef:a6.defers=[]:=s6.defers;show ckRF.wpIn Fence.wide 2 Tryz.prog (Exit.then (P0.wpIn Fence.wide 2 Tryz.prog (bodyPostM Fence.wide 2 Tryz.prog Tryz.f43 (AE G y w))) (bodyPostM Fence.wide 2 Tryz.prog Tryz.f43 (AE G y w))) a6 w6;rw[agA];refine wpIn_block (afW hseq hg h2 hsz hrb (fun D W hall hbel hDl hDo=>?_) (fun D W z hz hput hDl hDo=>?_))
 ·have hck:ckS x=some y:=by
   have:(l1++(l2++(l3++l4))).find? (fun e=>e != 0)=none:=eP.2 fun z hz=>by rw[hall z hz]; simp
   rw[this] at hLy;exact hLy
  exact agz (s:=s) hck s6.heap hbel hDl hDo (by show YS D::a6.defers=_; rw[hdef]) hsz p1 p2 hkeep t6.size t6.os t6.tape t6.output
 ·have hzy:z=y:=by
   rw[hz] at hLy;simpa using hLy
  subst hzy;obtain⟨te5,hcell⟩:=hput.cell;have hlb:=ē hrb;have hlive:Yc ν (ckH x s 0) rb:=⟨1,rfl,by rw[n1]; rfl⟩
  exact Zj (a:={a6 with defers:=YS D::a6.defers}) (w:=W) (by show YS D::a6.defers=_; rw[hdef]) hDo h2 hcell
   (fun b hb=>(hput.block b (by have:=t6.size; omega) (fun e=>(hkeep b hb).2 (e▸hlive))).trans (hkeep b hb).1) (by have:=t6.size; omega) (by have:=t6.size; have:=hput.size; omega) (hput.os.trans t6.os) (hput.tape.trans t6.tape) (hput.output.trans t6.output)
def Ņ:Ò Tryz.prog 43 ł:=fun G x y hF w vals hG hAL=>aau G x y hF w vals hG hAL
end Go.Proofs.ZzM
end

noncomputable section
set_option maxRecDepth 100000
namespace Go.Proofs.ZzM
open Go Go.Am Go.RowKit
abbrev cP:Type:=Val (tyL iE)
abbrev cV:Type:=Val (tyL lO)
abbrev cS (p:cP) (v:cV):St:=iP sd iE lO p v
abbrev cU (p:cP) (v:cV) (x:Val Ï):St:=iP K5 iE yh p (Bw v x)
def aeU (im:List (Int×Bool)) (n:Int):m7 Tryz.prog [.map tI .bool im] 182 (.omp 0) (.int .i64 n) false some=(match (rI (k:=tI) (v:=.bool) n im:Option Bool) with|some y=>some (.bool y)|none=>some (.bool false)):=by kernel_rfl
noncomputable def MapAt (W:World) (mb:Nat) (im:List (Int×Bool)):Prop:=∃(entries:Array MapEntry) (clock:Nat),W.heap[mb]?=some (.map entries clock)∧entries.size=im.length∧∀(i:Nat) (e:Int×Bool),im[i]?=some e→∃m,entries[i]?=some m∧m.key=.int .i64 e.1∧m.val=.bool e.2
noncomputable def IJ (im:List (Int×Bool)) (n:Int):Bool:=((rI (k:=tI) (v:=.bool) n im:Option Bool)).getD false
def aev {W:World} {mb:Nat} {im:List (Int×Bool)} (h:MapAt W mb im) (n:Int):(Instr.lookup 182 (.map (some mb)) (.int .i64 n) false).run Tryz.prog W=.ok (.bool (IJ im n)) W:=by
 letI:ó:=⟨fun _=>False,[],none⟩
 obtain⟨entries,clock,h1,h2,h3⟩:=h
 have H:HR (fun _=>.map (some mb)) [.map tI .bool im] W:=by
  refine⟨fun id=>?_,fun i j b hi hj _ _=>?_,fun b hb=>hb.elim,fun id b _ _ hb=>hb.elim⟩
  ·rcases id with _|id
   ·refine⟨mb,entries,clock,rfl,h1,h2,fun i e he=>?_⟩;obtain⟨m,q1,q2,q3⟩:=h3 i e he;exact⟨m,[.bool e.2],q1,by rw[q2]; rfl,rfl,by rw[q3]; rfl⟩
   ·rw[PC _ _ (by simp)]; trivial
  ·have one:∀i,(lkB [Blk.map tI .bool im] i).live=true→i=0:=fun i hi=>by
    rcases i with _|i
    ·rfl
    ·rw[PC _ _ (by simp)] at hi; cases hi
   rw[one i hi,one j hj]
 have hom:VR (fun _=>.map (some mb)) [.map tI .bool im] W (.omp 0) (.map (some mb)):=⟨rfl,_,_,_,rfl,rfl⟩
 have hk:m7 Tryz.prog [.map tI .bool im] 182 (.omp 0) (.int .i64 n) false some=some (.bool (IJ im n)):=by
  rw[aeU];unfold IJ
  cases(rI (k:=tI) (v:=.bool) n im:Option Bool)<;>rfl
 obtain⟨u,q1,q2⟩:=Vc H hk hom (ui:=.int .i64 n) rfl;rw[q1];have:u=.bool (IJ im n):=q2;rw[this]
noncomputable def gz (l:List (Val Ï)) (j:Nat):Val Ï:=l[j]?.getD (0,0,0,(0,0),(0,0),0)
def XH {w:World} {av:Nat→Prop} {g:Val Ï} {us:List Value} (h:CR w av Ï g us) :
 us=[.int .i64 g.1,.int .i64 g.2.1,.int .i64 g.2.2.1,.int .i64 g.2.2.2.1.1,.int .i64 g.2.2.2.1.2,.int .i64 g.2.2.2.2.1.1,.int .i64 g.2.2.2.2.1.2,.int .i64 g.2.2.2.2.2]:=by
 obtain⟨a1,r1,rfl,h1,a2,r2,rfl,h2,a3,r3,rfl,h3,a4,r4,rfl,⟨b1,b2,rfl,h4,h5⟩,⟨b3,r5,rfl,⟨b5,b6,rfl,h6,h7⟩,h8⟩⟩:=h;have e1:a1=[.int .i64 g.1]:=h1;have e2:a2=[.int .i64 g.2.1]:=h2;have e3:a3=[.int .i64 g.2.2.1]:=h3;have e4:b1=[.int .i64 g.2.2.2.1.1]:=h4;have e5:b2=[.int .i64 g.2.2.2.1.2]:=h5;have e6:b5=[.int .i64 g.2.2.2.2.1.1]:=h6;have e7:b6=[.int .i64 g.2.2.2.2.1.2]:=h7;have e8:r5=[.int .i64 g.2.2.2.2.2]:=h8;subst e1 e2 e3 e4 e5 e6 e7 e8;rfl
noncomputable def KNd (w1:World) (R:Nat→Prop) (tb:Nat) (im:List (Int×Bool)) (W:World):Prop:=w1.heap.size≤W.heap.size∧(∀b,R b→W.heap[b]?=w1.heap[b]?)∧tb<w1.heap.size∧∃mb,mb<w1.heap.size∧W.cell? ⟨tb,0,none⟩=some (.map (some mb))∧MapAt W mb im
def KNd.below {w1 W W':World} {R:Nat→Prop} {tb:Nat} {im:List (Int×Bool)} (hR:∀b,R b→b<w1.heap.size) (h:KNd w1 R tb im W) (hz:W.heap.size≤W'.heap.size) (hb:∀b,b<w1.heap.size→W'.heap[b]?=W.heap[b]?):KNd w1 R tb im W':=by
 obtain⟨h1,h2,h3,mb,h4,h5,en,cl,h6,h7,h8⟩:=h;exact⟨dj h1 hz,fun b hr=>(hb b (hR b hr)).trans (h2 b hr),h3,mb,h4,by rw[World.cell?_of_block (w:=W) (hb tb h3)]; exact h5,en,cl,(hb mb h4).trans h6,h7,h8⟩
def KNd.grown {w1 W W':World} {R:Nat→Prop} {tb:Nat} {im:List (Int×Bool)} (hR:∀b,R b→b<w1.heap.size) (h:KNd w1 R tb im W) (hg:W.grownBy W' none):KNd w1 R tb im W' :=
 h.below hR hg.size fun b hb=>hg.block b (cZ hb h.1) (by simp)
def Ve {f:AV→Bool} (h0:f .any=true):∀(l:List AV),l.all f=true→∀i,f (lk l i)=true
 |[],_,i=>by cases i<;>exact h0
 |x::l,h,0=>by simp only[fE,cF] at h; exact h.1
 |x::l,h,i+1=>by simp only[fE,cF] at h; exact Ve h0 l h.2 i
def Sd {f:Blk→Bool} (h0:f .dead=true):∀(l:List Blk),l.all f=true→∀i,f (lkB l i)=true
 |[],_,i=>by cases i<;>exact h0
 |x::l,h,0=>by simp only[fE,cF] at h; exact h.1
 |x::l,h,i+1=>by simp only[fE,cF] at h; exact Sd h0 l h.2 i
def cS_mf (p:cP) (v:cV):(cS p v).h.all mfB=true:=by kernel_rfl
def cU_mf (p:cP) (v:cV) (x:Val Ï):(cU p v x).h.all mfB=true:=by kernel_rfl
def cU_mft (p:cP) (v:cV) (x:Val Ï):(cU p v x).t.all mfV3=true:=by kernel_rfl
def cR_mf (y:Val Ä):(iP oO [] jc () (j4 y)).h.all mfB=true:=by kernel_rfl
def cR_mft (y:Val Ä):(iP oO [] jc () (j4 y)).t.all mfV3=true:=by kernel_rfl
noncomputable def pin0 (m:Nat):AV→Bool
 |.any=>true
 |.box id _=>Nat.blt id m
 |_=>false
noncomputable def pin3 (m:Nat):AV→Bool
 |.fn _ a b=>a.all (pin0 m)&&b.all (pin0 m)
 |a=>pin0 m a
section
variable [ó] {ν ν':Nat→Value} {h h':List Blk} {w w':World} {m:Nat}
def VR0.pin (e:Ev m ν h w ν' h' w') {a:AV} {v:Value} (hp:pin0 m a=true) (hv:VR0 ν h w a v):VR0 ν' h' w' a v:=by
 cases a with
 |any=>trivial
 |box id off =>
  obtain⟨cs,b,hl,h1,h2⟩:=hv;have hlt:id<m:=fD hp;have hb:=e.blk id hlt;rw[hl] at hb;obtain⟨⟨cs',hl'⟩,he⟩:=hb;exact⟨cs',b,hl',by rw[he]; exact h1,h2⟩
 |_=>cases hp
def VR.pin (e:Ev m ν h w ν' h' w') {a:AV} {v:Value} (hp:pin3 m a=true) (hv:VR ν h w a v):VR ν' h' w' a v:=by
 cases a with
 |fn f fa fb =>
  obtain⟨fs,cs,h1,h2,h3⟩:=hv;simp only[pin3,cF,di] at hp;exact⟨fs,cs,h1,h2.mem fun a ha _=>VR0.pin e (hp.1 a ha),h3.mem fun a ha _=>VR0.pin e (hp.2 a ha)⟩
 |any=>trivial
 |box id off=>exact VR0.pin (a:=.box id off) e (show pin0 m (.box id off)=true from hp) hv
 |_=>cases hp
end
def afM (p:cP) (v:cV):(cS p v).t.all (pin3 9)=true:=by kernel_rfl
def cS_len (p:cP) (v:cV):(cS p v).h.length=10:=by kernel_rfl
def cU_len (p:cP) (v:cV) (x:Val Ï):(cU p v x).h.length=11:=by kernel_rfl
def cS_t (p:cP) (v:cV) (z:List (Val Ï)):(cS p (ě v z)).t=(cS p v).t:=by kernel_rfl
def cS_5 (p:cP) (v:cV):∃a b us lo co ko,lkB (cS p v).h 5=.cells [.int .i64 a,.int .i64 b,.slc Ï (ï v),.slc Ã us,.slc Ł lo,.slc Î co,.slc Ã ko]:=⟨_,_,_,_,_,_,rfl⟩
def cS_6 (p:cP) (v:cV):lkB (cS p v).h 6=.cells [.omp 7]:=by kernel_rfl
def cS_7 (p:cP) (v:cV):lkB (cS p v).h 7=.map tI .bool (ř v):=by kernel_rfl
def cS_59 (p:cP) (v:cV):lk (cS p v).t 59=.fn (.func 212) [] [.box 5 0,.box 6 0]:=by kernel_rfl
noncomputable def Vl:Blk→Bool
 |.map _ _ _=>true
 |_=>false
def X4 (p:cP) (v:cV):(cS p v).h.map Vl=[false,false,false,false,false,false,false,true,true,false]:=by kernel_rfl
def agE (p:cP) (v:cV) (x:Val Ï):(cU p v x).h.map Vl=[false,false,false,false,false,false,false,true,true,false,false]:=by kernel_rfl
def GH:∀(l:List Blk) (i:Nat),Vl (lkB l i)=true→(l.map Vl)[i]?=some true
 |[],i,h=>by cases i<;>cases h
 |x::l,0,h=>by have:Vl x=true:=h; simp[this]
 |x::l,i+1,h=>by simpa using GH l i h
def YT {l:List Blk} {t:List Bool} (hl:l.map Vl=[false,false,false,false,false,false,false,true,true]++t) (ht:∀b∈t,b=false) {id:Nat} {k u:Ty} {es:List (Val k×Val u)} (h:lkB l id=.map k u es):id=7∨id=8:=by
 have:=GH l id (by rw[h]; rfl);rw[hl] at this
 rcases id with _|_|_|_|_|_|_|_|_|id<;>simp at this ⊢
 have:=ht _ (cM this);cases this
noncomputable def afH {ρ:Type}:List (Val Ï)→Option ρ→Option ρ
 |[],x=>x
 |_::_,_=>none
def XP {ρ:Type} {l:List (Val Ï)} {x:Option ρ} {r:ρ} (h:afH l x=some r):l=[]∧x=some r:=by
 cases l with
 |nil=>exact⟨rfl,h⟩
 |cons=>cases h
noncomputable def cutK (p:cP) (v:cV):Option (Val Ä):=afH (tO v) (Â (yr (ï v) (ř v)) fun z=>mw p (ě v z) some)
def acr {l:List (Val Ï)} {im:List (Int×Bool)} {z:List (Val Ï)} (h:yr l im=some z):è l.length=true∧z=(Nn (fun j=>IJ im (gz l j).1) l.length).map (gz l):=by
 unfold yr at h;simp only[ç] at h
 split at h
 ·rename_i ho;cases h;refine⟨ho,?_⟩
  have key:∀(n:Nat),n≤l.length→(l.take n).filter (fun g=>((rI (k:=tI) (v:=.bool) g.1 im:Option Bool)).getD false)=(Nn (fun j=>IJ im (gz l j).1) n).map (gz l):=by
   intro n
   induction n with
   |zero=>intro _; rfl
   |succ n ih =>
    intro hn
    have hg:l[n]?=some (gz l n):=by simp[gz,cD (show n<l.length from hn)]
    rw[List.take_succ,List.filter_append,ih (by omega),Cj,hg];have:((rI (k:=tI) (v:=.bool) (gz l n).1 im:Option Bool)).getD false=IJ im (gz l n).1:=rfl;simp only[Option.toList_some,dN,dU,this]
    split<;>simp
  have:=key l.length (cE _)
  rwa [List.take_length] at this
 ·cases h
def aei {n m:Nat} (h:è n=true) (hm:m≤n):è m=true:=by
 unfold è at h ⊢;simp only[Bool.and_eq_true,decide_eq_true_eq] at h ⊢
 first|omega|(constructor<;>omega)
def ZA {G:Nat→Prop} {D D':List Deferred} {Q Q':Option Nat} {ν:Nat→Value} {h:List Blk} {w:World} {a:AV} {v:Value} (hv:@VR ⟨G,D,Q⟩ ν h w a v):@VR ⟨G,D',Q'⟩ ν h w a v:=hv
def yf [ó] {ν2 ν':Nat→Value} {h1 h':List Blk} {w1 W:World} (H1:HR ν2 h1 w1) (ev:Ev 9 ν2 h1 w1 ν' h' W) (hl1:∀id,id=7∨id=8→∃k u es,lkB h1 id=.map k u es)
 {t:List Bool} (hl:h'.map Vl=[false,false,false,false,false,false,false,true,true]++t) (ht:∀b∈t,b=false):adE w1.heap.size ν' h':=by
 intro id k u es b hm hν
 have h9:id<9:=by rcases YT hl ht hm with rfl|rfl<;>omega
 obtain⟨k1,u1,es1,h7⟩:=hl1 id (YT hl ht hm);have hb:=ev.blk id h9;rw[h7] at hb;obtain⟨_,he⟩:=hb;have hB:=H1.blk id;rw[h7] at hB;obtain⟨b0,_,_,q1,q2,_⟩:=hB;rw[he,q1] at hν;cases hν;exact ē q2
def afc (p:cP) (v:cV):∀id,id=7∨id=8→∃k u es,lkB (cS p v).h id=.map k u es:=by
 rintro id (rfl|rfl)
 ·exact⟨_,_,_,rfl⟩
 ·exact⟨_,_,_,rfl⟩
noncomputable def CI (G:Nat→Prop) (p:cP) (v:cV) (ν2:Nat→Value) (w1:World) (pre:List Nat) (W:World):Prop :=
 ∃ν',@HR ⟨G,[],none⟩ ν' (cS p (ě v (pre.map (gz (ï v))))).h W∧Ev 9 ν2 (cS p v).h w1 ν' (cS p (ě v (pre.map (gz (ï v))))).h W
def CI.own {G:Nat→Prop} {p:cP} {v:cV} {ν2:Nat→Value} {w1:World} (H1:@HR ⟨G,[],none⟩ ν2 (cS p v).h w1):OwnFrom w1.heap.size (CI G p v ν2 w1):=by
 intro pre W W' row hI hg hr
 letI:ó:=⟨G,[],none⟩
 obtain⟨ν',H,ev⟩:=hI;have hml:=yf H1 ev (afc p v) (X4 _ _) (t:=[false]) (by simp);refine⟨ν',H.ckeep (MR hg hr) (fun id k u es b hl hν=>?_) (Sd rfl _ (cS_mf _ _)),ev.own hg fun r e=>(hr r e).1⟩;have hb:=hml id k u es b hl hν
 exact hg.block b (cZ hb ev.size) fun e=>by have:=(hr b e.symm).1; omega
def CI.nd {G:Nat→Prop} {p:cP} {v:cV} {ν2:Nat→Value} {w1 W:World} {pre:List Nat} {R:Nat→Prop} {tb:Nat} (H1:@HR ⟨G,[],none⟩ ν2 (cS p v).h w1) (hR:∀b,R b→b<w1.heap.size∧¬Yc ν2 (cS p v).h b) (htb:ν2 6=.pointer (some ⟨tb,0,none⟩)) (hI:CI G p v ν2 w1 pre W):KNd w1 R tb (ř v) W:=by
 letI:ó:=⟨G,[],none⟩
 obtain⟨ν',H,ev⟩:=hI;have h6:=H1.blk 6;rw[cS_6] at h6;obtain⟨b6,_,_,q1,q2,_⟩:=h6;rw[htb] at q1;cases q1;have h7:=H1.blk 7;rw[cS_7] at h7;obtain⟨mb,_,_,r1,r2,_⟩:=h7;have e6:=ev.blk 6 (by omega);rw[cS_6] at e6;have e7:=ev.blk 7 (by omega);rw[cS_7] at e7;have k6:=H.blk 6;rw[show lkB (cS p (ě v (pre.map (gz (ï v))))).h 6=.cells [.omp 7] from cS_6 _ _] at k6;obtain⟨b,c,e,s1,s2,s3⟩:=k6;rw[e6.2,htb] at s1;cases s1;obtain⟨mv,s4,s5⟩:=s3.one;obtain⟨_,k,u,es,_,s6⟩:=s5.1;have k7:=H.blk 7;rw[show lkB (cS p (ě v (pre.map (gz (ï v))))).h 7=.map tI .bool (ř v) from cS_7 _ _] at k7;obtain⟨mb',en,cl,t1,t2,t3,t4⟩:=k7;have e1:mv=.map (some mb'):=s6.trans t1
 have e2:mb'=mb:=by rw[e7.2,r1] at t1; cases t1; rfl
 subst e2;refine⟨ev.size,fun b hb=>(ev.keep b (hR b hb).1 (hR b hb).2).1,ē q2,mb',ē r2,?_,en,cl,t2,t3,fun i x hx=>?_⟩
 ·have hc:c=#[mv]:=by rw[←dC,s4]
  rw[hc,e1] at s2;simp[World.cell?,s2]
 ·obtain⟨m,us,u1,u2,u3,u4⟩:=t4 i x hx;have v1:[m.key]=[.int .i64 x.1]:=u2;have v2:us=[.bool x.2]:=u3;refine⟨m,u1,by simpa using v1,?_⟩;rw[u4,v2];rfl
def aao:drawn (Am.rfA (Am.rfC 7 Ĝ))=false:=by kernel_rfl
def aan:drawn (Am.rfB (Am.rfC 7 Ĝ))=false:=by kernel_rfl
def aam:í 4 (Am.rfA (Am.rfC 7 Ĝ))=[]:=by kernel_rfl
def aal:í 4 (Am.rfB (Am.rfC 7 Ĝ))=[]:=by kernel_rfl
def Sz [ó] (ρ:Type):kV (ė ρ) 2 (jx (ė ρ) 10):=by
 have hlib:Jv (ė ρ):=Me K4 (ė ρ) rfl rfl rfl rfl rfl (gS rfl);have hdraw:∀L call,kV (ė ρ) L call→lp (ė ρ) L call:=B7 hmix;have hcall:=lX (.inr fun _=>rfl) hlib hdraw (fun n hn hE path f fn c hp hf hc=>EL (tab:=pW ρ) rfl HG hn hE (hdraw _ _ hE) hp hf hc) 10 (cE _);exact⟨.inr (pk 9),hcall,hlib.plain,hlib.clone,hlib.joins⟩
def ac0 {G:Nat→Prop} {p:cP} {v:cV} {ν2:Nat→Value} {a:Act} {w1:World} (H1:@Sim ⟨G,[],none⟩ ν2 (cS p v) a w1) (l:Nat) (pre:List Nat) (x:Nat) (W:World) (hl:w1.heap.size≤l) (hI:CI G p v ν2 w1 pre W) (hok:è (pre.length+1)=true) {u:Value} (hu:∀[ó] (ν:Nat→Value) (h:List Blk) (w:World),VR ν h w (.agg (flat Ï (gz (ï v) x))) u) :
 (Am.rfA (Am.rfC 7 Ĝ)).wpIn (Fence.wide.inRound l) 0 Tryz.prog (Exit.then (fun a' Wa=>KeepsFrom w1.heap.size W Wa∧∀r',(∃r,Wa.heap[l]?=some (.loop r)) →
  (Am.rfB (Am.rfC 7 Ĝ)).wpIn (Fence.wide.inRound l) 0 Tryz.prog (Exit.then (fun _ W3=>KeepsFrom w1.heap.size (Wa.putObj l (.loop r')) W3∧CI G p v ν2 w1 (pre++[x]) W3) (fun _ _ _=>False)) a' (Wa.putObj l (.loop r'))) (fun _ _ _=>False)) {tmps:=a.tmps.setIfInBounds 60 u,defers:=[]} W:=by
 letI:ó:=⟨G,[],some l⟩
 have H1h:HR ν2 (cS p v).h w1:=HR_ghost (@Sim.heap ⟨G,[],none⟩ _ _ _ _ H1);obtain⟨ν',H0,ev⟩:=hI;have H:HR ν' (cS p (ě v (pre.map (gz (ï v))))).h W:=HR_ghost H0;obtain⟨v',hv'⟩:∃v',v'=ě v (pre.map (gz (ï v))):=⟨_,rfl⟩;rw[←hv'] at H ev
 have ht:(cS p v').t=(cS p v).t:=by rw[hv']; exact cS_t _ _ _
 have hml:=yf H1h ev (afc p v) (X4 _ _) (t:=[false]) (by simp)
 have simA:Sim ν' (cS p v') {tmps:=a.tmps,defers:=[]} W:=by
  refine⟨rfl,?_,fun i=>?_,H⟩
  ·rw[ht]; show _≤a.tmps.size; exact @Sim.len ⟨G,[],none⟩ _ _ _ _ H1
  ·rw[ht]; exact VR.pin ev (Ve rfl _ (afM p v) i) (ZA (@Sim.tmps ⟨G,[],none⟩ _ _ _ _ H1 i))
 have sim0:=simA.put (Ev.refl _ _ _ _) H (some 60) (hu ν' _ W);have hEnv:=Sz (cP×Val (tyL yh));have hgo:=GR hEnv (path:=[]) rfl (Am.rfA (Am.rfC 7 Ĝ)) 4 _ _ ν' _ W (fun h=>by rw[aao] at h; cases h) (fun z hz=>by rw[aam] at hz; cases hz) (Z3 p v' (gz (ï v) x) fun p u=>some (p,u)) sim0 (dj (show 9≤10 by decide) (Nat.le_of_eq (cS_len p v').symm));refine wpIn_mono hgo fun e a' Wa ha=>?_;obtain⟨νa,Sa,sA,evA,lenA,ddA,kA⟩:=ha;obtain⟨rfl,p',u',hm',hk'⟩:=CD kA;cases hk';obtain⟨νb,sB,evB,lB,dB⟩:=match_ok _ _ _ _ _ _ _ νa a' Wa hm' sA;have evAB:Ev 9 ν' (cS p v').h W νb (cU p v' (gz (ï v) x)).h Wa:=evA.trans evB (cE _);have evT:=ev.trans evAB (cE _);have hmu:=yf H1h evT (afc p v) (agE _ _ _) (t:=[false,false]) (by simp);refine⟨Io H hml evAB,fun r' ⟨r,hr⟩=>?_⟩;have hlt:l<Wa.heap.size:=ē hr
 have K:Χ Wa (Wa.putObj l (.loop r')):=⟨by simp[World.putObj],fun b c e q hb=>by
  rw[World.putObj_heap_other (fun e'=>by subst e'; rw[hr] at hb; cases hb)]; exact hb⟩
 have sC:Sim νb (cU p v' (gz (ï v) x)) a' (Wa.putObj l (.loop r')):=sB.ckeep K (fun id k q es b hb hν=>World.putObj_heap_other (by have:=hmu id k q es b hb hν; omega)) (Sd rfl _ (cU_mf _ _ _)) (Ve rfl _ (cU_mft _ _ _))
 have evO:Ev 9 ν2 (cS p v).h w1 νb (cU p v' (gz (ï v) x)).h (Wa.putObj l (.loop r')):=evT.own (grownBy_putObj' Wa l _) fun q e=>by cases e; exact hl
 have hEnv2:=Sz (cP×cV);have law:=Z2 p v' (gz (ï v) x) fun p v=>some (p,v)
 have hrow:tO v'=pre.map (gz (ï v)):=by rw[hv']; rfl
 rw[hrow] at law;simp only[eE,cN,dn,dk,hok,ç] at law;have hgo2:=GR hEnv2 (path:=[]) rfl (Am.rfB (Am.rfC 7 Ĝ)) 4 _ _ νb _ _ (fun h=>by rw[aan] at h; cases h) (fun z hz=>by rw[aal] at hz; cases hz) law sC (dj (show 9≤11 by decide) (Nat.le_of_eq (cU_len p v' (gz (ï v) x)).symm));refine wpIn_mono hgo2 fun e a3 W3 hb=>?_;obtain⟨νc,Sc,sD,evC,lenC,ddC,kC⟩:=hb;obtain⟨rfl,p',u',hm',hk'⟩:=CD kC;cases hk';obtain⟨νd,sE,evD,lD,dD⟩:=match_ok _ _ _ _ _ _ _ νc a3 W3 hm' sD;have evCD:=evC.trans evD (cE _);refine⟨Io sC.heap hmu evCD,νd,?_⟩
 have hput:ě v' (pre.map (gz (ï v))++[gz (ï v) x])=ě v ((pre++[x]).map (gz (ï v))):=by
  rw[hv',List.map_append]; rfl
 rw[←hput];exact⟨HR_ghost sE.heap,evO.trans evCD (cE _)⟩
noncomputable def Yd (G:Nat→Prop) (y:Val Ä) (w:World) (e:Ending) (w':World):Prop :=
 ∃u,e=.returned u∧RR w' G [Ä] y u∧(∀b,b<w.heap.size→w'.heap[b]?=w.heap[b]?)∧w.heap.size≤w'.heap.size∧w'.os=w.os∧w'.tape=w.tape∧w'.output=w.output
noncomputable def XQ (u:Val (tyL jc)):Val Ä:=((u.1,u.2.1),u.2.2.1,u.2.2.2.1,u.2.2.2.2.1,u.2.2.2.2.2.1,u.2.2.2.2.2.2)
def aeW (p:cP) (v:cV):mw p v (fun y=>(fun u=>some (XQ u)) (j4 y))=mw p v some:=by kernel_rfl
def acZ (u:Val (tyL jc)):j4 (XQ u)=u:=by kernel_rfl
def agF (y:Val Ä):(iP oO [] jc () (j4 y)).h.map Vl=[false]:=by kernel_rfl
def aeT {G:Nat→Prop} {p:cP} {v:cV} {y:Val Ä} {ν:Nat→Value} {a:Act} {w0 W:World} {D:Nat} (H:@Sim ⟨G,[],none⟩ ν (cS p v) a W) (hB:mw p v some=some y) (hD:W.heap[D]?=some (.deferred (some []))) (hnl:¬Yc ν (cS p v).h D)
 (hev:Ev 0 (fun _=>undef) [] w0 ν (cS p v).h W) (hDl:w0.heap.size≤D) :
 (Am.postC 7 Ĝ).wpIn Fence.wide 2 Tryz.prog (bodyPostM Fence.wide 2 Tryz.prog Tryz.f79 (Yd G y w0)) {a with defers:=YS D::a.defers} W:=by
 have hdf:a.defers=[]:=@Sim.defers ⟨G,[],none⟩ _ _ _ _ H
 letI:ó:=⟨G,[YS D],none⟩
 have sim:Sim ν (cS p v) {a with defers:=YS D::a.defers} W:=⟨by show YS D::a.defers=[YS D]; rw[hdf],(show _≤a.tmps.size from @Sim.len ⟨G,[],none⟩ _ _ _ _ H),fun i=>ZA (@Sim.tmps ⟨G,[],none⟩ _ _ _ _ H i),HR_ghost (@Sim.heap ⟨G,[],none⟩ _ _ _ _ H)⟩;have hEnv:=Sz (Val Ä);have hdraw:∀L call,kV (ė (Val Ä)) L call→lp (ė (Val Ä)) L call:=B7 hmix;have law:=Uo p v fun u=>some (XQ u);rw[aeW,hB] at law
 have hL:∀z∈í 0 (Am.postC 7 Ĝ),pn (ė (Val Ä)) [] 79 z.1 z.2:=fun z hz =>
  EL (E:=ė (Val Ä)) (tab:=pW _) rfl HG (n:=10) (cE _) hEnv (hdraw _ _ hEnv) rfl Tryz.func79 pX z (YU 7 Ĝ 0 Du hz)
 have hgo:=kI hEnv (hdraw _ _ hEnv) rfl (Am.postC 7 Ĝ) 0 _ _ ν _ W hL law sim (dR _);rw[EY rfl] at hgo;refine wpIn_wide.2 (wpIn_wide.1 (wpIn_mono hgo fun e a' W' ha=>?_));obtain⟨νa,Sa,sA,evA,_,_,kA⟩:=ha;obtain⟨rfl,u,hm,hk⟩:=ab2 kA;cases hk;obtain⟨νb,sB,evB,_,_⟩:=match_ok _ _ _ _ _ _ _ νa a' W' hm sA
 have hu:iP oO [] jc () u=iP oO [] jc () (j4 (XQ u)):=by rw[acZ]
 rw[hu] at sB evB;have evT:=(evA.trans evB (cE _));have hD':W'.heap[D]?=some (.deferred (some [])):=(evT.keep D (ē hD) hnl).1.trans hD;have hd':a'.defers=[YS D]:=sB.defers;show LeavesInM _ _ _ _ _ _ a'.defers _ _;rw[hd'];refine⟨by simp,.inl ⟨D,_,rfl,run_takeDeferred hD',?_⟩⟩;have hlt:=ē hD'
 have K:Χ W' (W'.putObj D (.deferred none)):=⟨by simp[World.putObj],fun b c e q hb=>by
  rw[World.putObj_heap_other (fun e'=>by subst e'; rw[hD'] at hb; cases hb)]; exact hb⟩
 have sC:=sB.ckeep K (fun id k q es b hb hν=>by
  have:=GH _ id (by rw[hb]; rfl);rw[agF] at this
  rcases id with _|id<;>simp at this) (Sd rfl _ (cR_mf _)) (Ve rfl _ (cR_mft _))
 obtain⟨uu,q1,q2⟩:=FF sC (W4 (XQ u));have hall:=hev.trans evT (cE _);refine⟨uu,q1,uu,rfl,Qo sC.heap [Ä] q2 (show Ĭ [Ä] _ (enc Ä (XQ u))=some (XQ u) from rfl),fun b hb=>?_,?_,hall.os,hall.tape,hall.output⟩
 ·rw[World.putObj_heap_other (by omega)];exact(hall.keep b hb fun⟨_,h,_⟩=>by cases h).1
 ·have:=hall.size;simpa[World.putObj] using this
def aeX (x:Val (.pair Ä (.pair (.slice Ã) (.slice Ã)))):Dv x.1 x.2.1 x.2.2 cutK=oi.F x:=by kernel_rfl
noncomputable def encG (g:Val Ï):Value:=.agg #[.int .i64 g.1,.int .i64 g.2.1,.int .i64 g.2.2.1,.int .i64 g.2.2.2.1.1,.int .i64 g.2.2.2.1.2,.int .i64 g.2.2.2.2.1.1,.int .i64 g.2.2.2.2.1.2,.int .i64 g.2.2.2.2.2]
def ags [ó] (g:Val Ï) (ν:Nat→Value) (h:List Blk) (w:World):VR ν h w (.agg (flat Ï g)) (encG g) :=
 ⟨_,rfl,⟨rfl,rfl⟩,⟨rfl,rfl⟩,⟨rfl,rfl⟩,⟨rfl,rfl⟩,⟨rfl,rfl⟩,⟨rfl,rfl⟩,⟨rfl,rfl⟩,⟨rfl,rfl⟩,trivial⟩
def aeV (G:Nat→Prop) (x:Val (tyL oi.ts)) (y:Val Ä) (hF:oi.F x=some y) (w:World) (vals:List Value) (hG:∀b,G b→b<w.heap.size) (hAL:AL w G oi.ts x vals) :
 (∃fn c,Tryz.prog.funcs[79]?=some fn∧fn.body=some c)∧CallsIn Fence.wide 0 Tryz.prog 79 vals.toArray w (Yd G y w):=by
 letI:ó:=⟨G,[],none⟩
 have hlib:Jv (ų (Val Ä)):=Me K4 _ rfl rfl rfl rfl rfl (gS rfl);have hdraw:∀L call,kV (ų (Val Ä)) L call→lp (ų (Val Ä)) L call:=B7 hmix;have hloops:Ya (ų (Val Ä)):=fun n hn hE hD path f fn c hp hf hc=>EL (tab:=Bv _) rfl W6 hn hE hD hp hf hc;have hcall:=lX (.inl ⟨rfl,rfl⟩) hlib hdraw (fun n hn hE=>hloops n hn hE (hdraw _ _ hE)) 10 (cE _);have hEnv:kV (ų (Val Ä)) 2 (jx (ų (Val Ä)) 10):=⟨.inr (pk 9),hcall,hlib.plain,hlib.clone,hlib.joins⟩;have H:HR (fun _=>undef) [] w:=⟨fun _=>trivial,fun _ _ _ h=>(by cases h),hG,fun _ _ h=>(by cases h)⟩;have hav:∀b,Av (fun _=>undef) [] b→G b:=fun b hb=>hb.elim (fun⟨_,h,_⟩=>by cases h) id;have hargs:Ă (VR (fun _=>undef) [] w) (ĥ oi.ts x) vals:=AL.VR (hAL.mono hav);refine⟨⟨Tryz.f79,_,Tryz.func79,pX⟩,?_⟩;have hlen:vals.length=3:=hargs.length.symm;refine callsIn_wide.2 (callsIn_wide.1 (callsIn_of_wp_marks (n:=2) Tryz.func79 pX trivial ?_ (R:=Yd G y w)))
 have hS:Sim (fun _=>undef) {t:=ĥ oi.ts x++List.replicate 127 .any,h:=[]} {tmps:=vals.toArray++Array.replicate (Tryz.f79.ntmps-vals.toArray.size) undef,defers:=[]} w:=by
  refine⟨rfl,?_,fun i=>?_,H⟩
  ·have:Tryz.f79.ntmps=130:=by kernel_rfl
   have hl2:(ĥ oi.ts x).length=3:=rfl;simp[this,hlen,hl2]
  ·simp only[Md];rcases dt i (ĥ oi.ts x).length with hi|hi
   ·have:=Ă.lk (R:=VR (fun _=>undef) [] w) (fun _=>trivial) i hargs
    have hv:i<vals.length:=by rw[←hargs.length]; exact hi
    have h2:(vals.toArray++Array.replicate (Tryz.f79.ntmps-vals.toArray.size) undef).getD i undef=vals.getD i undef:=by
     simp[dA,eO,hv]
    rw[h2]; exact this
   ·rw[ack _ _ hi]; trivial
 have law:=(W5 x cutK).trans ((aeX x).trans hF);refine peelN rfl hEnv (hdraw _ _ hEnv) rfl (path:=[]) rfl (fun e S hne h=>hne (CD h).1) 7 Ĝ _ _ _ _ Du (fun z hz=>hloops 10 (cE _) hEnv (hdraw _ _ hEnv) [] 79 Tryz.f79 Ĝ rfl Tryz.func79 pX z hz) law hS (fun ν1 S1 a1 w1 s1 e1 k1=>?_);obtain⟨_,p,v,hm,hk⟩:=CD k1;obtain⟨hrow,hk⟩:=XP hk
 cases hz:yr (ï v) (ř v) with
 |none=>rw[hz] at hk; cases hk
 |some z =>
 rw[hz] at hk;have hB:mw p (ě v z) some=some y:=hk;obtain⟨hzl,hzs⟩:=acr hz;obtain⟨ν2,s2,e2,_,_⟩:=match_ok _ _ _ _ _ _ _ ν1 a1 w1 hm s1;have evw:=e1.trans e2 (cE _)
 have hv0:ě v []=v:=by rw[←hrow]; rfl
 have s2':Sim ν2 (cS p v) a1 w1:=s2
 -- the blocks
 obtain⟨fa,fb,us,lo,co,ko,h5⟩:=cS_5 p v;have hB5:=s2'.heap.blk 5;rw[h5] at hB5;obtain⟨bb,cb,te,n5,hbb,hc5⟩:=hB5;have hB6:=s2'.heap.blk 6;rw[cS_6] at hB6;obtain⟨tb,ct,tt,n6,htb,hc6⟩:=hB6;have hl5:=hc5.length
 obtain⟨u1,u2,u3,u4,u5,u6,u7,hcb⟩:∃u1 u2 u3 u4 u5 u6 u7,cb.toList=[u1,u2,u3,u4,u5,u6,u7]:=by
  rcases hcs:cb.toList with _|⟨u1,_|⟨u2,_|⟨u3,_|⟨u4,_|⟨u5,_|⟨u6,_|⟨u7,_|⟨u8,t⟩⟩⟩⟩⟩⟩⟩⟩<;>rw[hcs] at hl5<;>simp at hl5
  exact⟨u1,u2,u3,u4,u5,u6,u7,rfl⟩
 rw[hcb] at hc5;obtain⟨_,_,hc3,_⟩:=hc5;have hg3:CR w1 (Av ν2 (cS p v).h) (.slice Ï) (ï v) [u3]:=hc3.1;obtain⟨base,cap,eu3,hcap,hgl⟩:=hg3
 have eu3:u3=.slice base (ï v).length cap:=by simpa using eu3
 obtain⟨gb,go,hgb⟩:∃gb go,0<(ï v).length→base=some ⟨gb,go,none⟩∧¬Av ν2 (cS p v).h gb∧gb<w1.heap.size∧∀(i:Nat) (g:Val Ï),(ï v)[i]?=some g→∃us,CR w1 (Av ν2 (cS p v).h) Ï g us∧ĺ w1 gb (go+i*8) us:=by
  rcases hgl with hgl|⟨gb,go,q1,q2,q3,q4⟩
  ·exact⟨0,0,fun h=>by rw[show(ï v)=[] from hgl] at h; simp at h⟩
  ·exact⟨gb,go,fun _=>⟨q1,q2,q3,q4⟩⟩
 obtain⟨gl,hgle⟩:∃gl,gl=ï v:=⟨_,rfl⟩;rw[←hgle] at hgb eu3
 have hR:∀b,(0<gl.length∧b=gb)→b<w1.heap.size∧¬Yc ν2 (cS p v).h b:=fun b ⟨h,e⟩=>by subst e; obtain⟨_,q2,q3,_⟩:=hgb h; exact⟨q3,fun hl=>q2 (.inl hl)⟩
 have hnd:∀pre W,CI G p v ν2 w1 pre W→KNd w1 (fun b=>0<gl.length∧b=gb) tb (ř v) W:=fun pre W hI=>hI.nd s2'.heap hR n6
 have hI0:CI G p v ν2 w1 [] w1:=by
  refine⟨ν2,?_,?_⟩
  ·rw[show ě v (([]:List Nat).map (gz (ï v)))=v from hv0]; exact s2'.heap
  ·rw[show ě v (([]:List Nat).map (gz (ï v)))=v from hv0]; exact Ev.refl _ _ _ _
 have hp59:=s2'.tmps 59;rw[cS_59] at hp59
 have hg:a1.tmps.getD 59 undef=.func (.func 212) #[] #[.pointer (some ⟨bb,0,none⟩),.pointer (some ⟨tb,0,none⟩)]:=by
  obtain⟨fs,cs,h1,h2,h3⟩:=hp59
  have e1:fs=#[]:=by rw[←dC]; exact h2.nil_left
  have hl:=h3.length
  obtain⟨v1,v2,e2⟩:∃v1 v2,cs.toList=[v1,v2]:=by
   rcases hcs:cs.toList with _|⟨v1,_|⟨v2,_|⟨v3,t⟩⟩⟩<;>rw[hcs] at hl<;>simp at hl
   exact⟨v1,v2,rfl⟩
  rw[e2] at h3;have e3:v1=.pointer (some ⟨bb,0,none⟩):=xU (w:=w1) (id:=5) (off:=0) h3.1 n5;have e4:v2=.pointer (some ⟨tb,0,none⟩):=xU (w:=w1) (id:=6) (off:=0) h3.2.1 n6;rw[h1,e1];congr 1;rw[←dC,e2,e3,e4]
 have hcbe:cb=#[u1,u2,.slice base gl.length cap,u4,u5,u6,u7]:=by rw[←dC,hcb,eu3]
 have hseq:SeqStopsK Fence.wide 1 Tryz.prog 212 #[.pointer (some ⟨bb,0,none⟩),.pointer (some ⟨tb,0,none⟩)] (fun j:Nat=>#[encG (gz gl j)]) (fun A B=>KNd w1 (fun b=>0<gl.length∧b=gb) tb (ř v) A→KNd w1 (fun b=>0<gl.length∧b=gb) tb (ř v) B)
  (fun xs=>xs=Nn (fun j=>IJ (ř v) (gz gl j).1) gl.length) (fun _=>True) (Nn (fun j=>IJ (ř v) (gz gl j).1) gl.length).length w1:=by
  intro l J Jx W hbel hJ hJx hY h0
  refine agh te 1 (by omega) l bb tb u1 u2 u4 u5 u6 u7 gb go gl.length cap base (fun h=>(hgb h).1) (fun j=>(gz gl j).1) (fun j=>(gz gl j).2.1) (fun j=>(gz gl j).2.2.1) (fun j=>(gz gl j).2.2.2.1.1) (fun j=>(gz gl j).2.2.2.1.2) (fun j=>(gz gl j).2.2.2.2.1.1) (fun j=>(gz gl j).2.2.2.2.1.2) (fun j=>(gz gl j).2.2.2.2.2)
   (fun j=>IJ (ř v) (gz gl j).1) ?len (KNd w1 (fun b=>0<gl.length∧b=gb) tb (ř v)) W ((hbel.block bb (ē hbb)).trans (by rw[hbb,hcbe])) ?cells ?maps (fun W1 W2 h hg=>h.grown (fun b hb=>(hR b hb).1) hg) ((hnd [] w1 hI0).below (fun b hb=>(hR b hb).1) hbel.size hbel.block)
   J Jx (fun pre W1 W2 hj hg=>hJ pre W1 W2 none hj hg (fun r e=>by cases e)) (fun pre W1 W2 hj hg=>hJx pre W1 W2 none hj hg (fun r e=>by cases e)) (fun pre j W1 hj hl=>hY pre j W1 hj hl) h0
  case len =>
   have:=hzl;rw[←hgle] at this;simp only[è,decide_eq_true_eq] at this;omega
  case cells =>
   intro W' hW j hj;obtain⟨q1,q2,q3,q4⟩:=hgb (by omega);obtain⟨vs,r1,r2⟩:=q4 j (gz gl j) (by simp[gz,cD hj]);have r2:=r2.keep (w':=W') (hW.2.1 gb ⟨by omega,rfl⟩);rw[XH r1] at r2;refine⟨?_,?_,?_,?_,?_,?_,?_,?_⟩
   ·simpa using r2 0 _ rfl
   ·simpa[eT] using r2 1 _ rfl
   ·simpa[eT] using r2 2 _ rfl
   ·simpa[eT] using r2 3 _ rfl
   ·simpa[eT] using r2 4 _ rfl
   ·simpa[eT] using r2 5 _ rfl
   ·simpa[eT] using r2 6 _ rfl
   ·simpa[eT] using r2 7 _ rfl
  case maps =>
   intro W' hW;obtain⟨_,_,h3,mb,h4,h5,h6⟩:=id hW;refine⟨.map (some mb),fun W'' hg=>?_⟩;obtain⟨k1,_,k3,mb',k4,k5,k6⟩:=hW.grown (fun b hb=>(hR b hb).1) hg
   have:mb'=mb:=by
    have e:=World.cell?_of_block (a:=⟨tb,0,none⟩) (hg.block tb (cZ h3 hW.1) (by simp));rw[e,h5] at k5;cases k5; rfl
   subst this;exact⟨k5,fun j _=>aev k6 _⟩
 rw[Z1];refine wpIn_block (Nq (n:=2) rfl (by omega) hg trivial (fun args w=>?eg) hseq (fun h k=>fun q=>k (h q)) (fun W l o o' hl ho _ _ hW=>?kb) (Below.refl _ _) (fun _=>rfl) (CI G p v ν2 w1) (CI.own s2'.heap) hI0 (fun l pre j W hl _ hI hlt=>?round) (fun D xs W hD hxs hI hDo=>?done))
 case eg=>simp[callFunc,Sem.run_bind,run_program,Result.andThen_ok,Tryz.func212,plain 212 _ Tryz.func212,show Tryz.f212.body.isNone=false from rfl]; rfl
 case kb=>exact hW.below (fun b hb=>(hR b hb).1) (by simp[World.putObj]) fun b hb=>World.putObj_heap_other (by omega)
 case round =>
  have hf:∀u:Value,((#[60]:Array Tmp).zip #[u]).foldl (fun t (p,v)=>t.setIfInBounds p v) a1.tmps=a1.tmps.setIfInBounds 60 u:=fun u=>by simp
  show Code.wpIn (Fence.wide.inRound l) 0 Tryz.prog _ _ ⟨((#[60]:Array Tmp).zip #[encG (gz gl j)]).foldl (fun t (p,v)=>t.setIfInBounds p v) a1.tmps,[]⟩ W;rw[hf];refine wpIn_mono (ac0 s2' l pre j W hl hI ?_ (u:=encG (gz gl j)) (by rw[hgle]; exact fun ν h w=>ags _ ν h w)) fun e a' Wa ha=>?_
  ·refine aei hzl ?_;have:=WE (fun j=>IJ (ř v) (gz gl j).1) gl.length;rw[←hgle];omega
  ·cases e with
   |normal =>
    refine⟨ha.1,fun r' hr=>wpIn_mono (ha.2 r' hr) fun e a3 W3 hb=>?_⟩
    cases e with
    |normal=>exact⟨hb.1,fun _=>hnd _ _ hb.2,hb.2⟩
    |_=>exact hb
   |_=>exact ha
 case done =>
  subst hxs;obtain⟨ν',Hd,evd⟩:=hI
  have hzz:(Nn (fun j=>IJ (ř v) (gz gl j).1) gl.length).map (gz (ï v))=z:=by rw[hzs,hgle]
  rw[hzz] at Hd evd;have hml:=yf s2'.heap evd (afc p v) (X4 _ _) (t:=[false]) (by simp);have ht:(cS p (ě v z)).t=(cS p v).t:=cS_t _ _ _
  have simD:Sim ν' (cS p (ě v z)) a1 W:=by
   refine⟨s2'.defers,?_,fun i=>?_,Hd⟩
   ·rw[ht]; exact s2'.len
   ·rw[ht]; exact VR.pin evd (Ve rfl _ (afM p v) i) (s2'.tmps i)
  exact aeT simD hB hDo (PD Hd hml hD hDo rfl) (evw.trans (evd.mono (dR _)) (cE _)) (dj evw.size hD)
def ada:Ò Tryz.prog 79 oi:=fun G x y hF w vals hG hAL=>aeV G x y hF w vals hG hAL
end Go.Proofs.ZzM
end

noncomputable section
set_option maxRecDepth 100000
namespace Go.Proofs.ZzM
open Go Go.Am
def aaB:Ò Tryz.prog 33 O6:=Ê (HC _) (fun {_}=>ľ Æ _) hmix (tab:=zD _) rfl Æ (Å fun x=>NA x some)
def ae5:Ò Tryz.prog 7 YH:=Ê (FS _) (fun {_}=>ľ (Á aaB Æ) _) hmix (tab:=HB _) rfl (Á Nz Æ) (Å fun x=>Uj x some)
def i5:Ò Tryz.prog 119 Ů:=Ê (ŝ _) (fun {_}=>ľ Æ _) hmix (tab:=gN _) rfl (Á kr Æ) (Å fun x=>lF x some)
def gU:Ò Tryz.prog 53 gM:=Ê (Ma _) (fun {_}=>ľ (Á Ņ (Á M4 (Á i5 Æ))) _) hmix (tab:=EK _) rfl Æ (Å fun x=>RY x some)
def jS:Ò Tryz.prog 50 iT:=Ê (C5 _) (fun {_}=>ľ (Á gU Æ) _) hmix (tab:=wG _) rfl Æ (Å fun x=>KU x some)
def SE:Ò Tryz.prog 173 JF:=Ê (Pm _) (fun {_}=>ľ Æ _) hmix (tab:=HN _) rfl Æ (Å fun x=>UA x some)
def ta:Ò Tryz.prog 146 oj:=Ê (BF _) (fun {_}=>ľ (Á SE Æ) _) hmix (tab:=DZ _) rfl (Á Lt Æ) (Å fun x=>Rq x some)
def xS:Ò Tryz.prog 147 pB:=Ê (δ _) (fun {_}=>ľ Æ _) hmix (tab:=vA _) rfl (Á DP (Á DN (Á DL (Á DM (Á DK Æ))))) (Å fun x=>Ja x some)
def adf:Ò Tryz.prog 184 TT:=Ê (BD _) (fun {_}=>ľ (Á ta (Á xS (Á SE Æ))) _) hmix (tab:=DS _) rfl (Á Lj Æ) (Å fun x=>Rl x some)
def aaF:Ò Tryz.prog 185 Pa:=Ê (iW _) (fun {_}=>ľ Æ _) hmix (tab:=zQ _) rfl (Á Jg (Á Jf (Á Je (Á Jc (Á Jd Æ))))) (Å fun x=>N3 x some)
def MY:Ò Tryz.prog 118 Cu:=Ê (Lz _) (fun {_}=>ľ (Á adf (Á aaF Æ)) _) hmix (tab:=D3 _) rfl Æ (Å fun x=>Rs x some)
def jy:Ò Tryz.prog 52 iD:=Ê (vn _) (fun {_}=>ľ (Á MY Æ) _) hmix (tab:=pT _) rfl Æ (Å fun x=>C4 x some)
def AC:Ò Tryz.prog 96 qJ:=Ê (vm _) (fun {_}=>ľ (Á jS (Á jy Æ)) _) hmix (tab:=pS _) rfl Æ (Å fun x=>C3 x some)
def s9:Ò Tryz.prog 97 lu:=Ê (oK _) (fun {_}=>ľ (Á jS (Á jy Æ)) _) hmix (tab:=mu _) rfl Æ (Å fun x=>wF x some)
def lY:Ò Tryz.prog 42 i8:=Ê (jK _) (fun {_}=>Me (Á AC (Á s9 Æ)) (jK _) rfl rfl rfl rfl rfl (gS rfl)) hmix (tab:=mr _) rfl Æ (Å fun x=>wE x some)
def mh:Ò Tryz.prog 54 l5:=Ê (GD _) (fun {_}=>ľ (Á Ņ Æ) _) hmix (tab:=Ii _) rfl (Á OB Æ) (Å fun x=>U6 x some)
def IB:Ò Tryz.prog 205 wm:=Ê (Ap _) (fun {_}=>ľ (Á i5 Æ) _) hmix (tab:=vJ _) rfl Æ (Å fun x=>Jk x some)
def ae8:Ò Tryz.prog 207 YK:=Ê (yn _) (fun {_}=>ľ (Á kd Æ) _) hmix (tab:=H8 _) rfl (Á Ol (Á Oj Æ)) (Å fun x=>UY x some)
def Jp:Ò Tryz.prog 258 uX:=Ê (qp _) (fun {_}=>ľ Æ _) hmix (tab:=ni _) rfl Æ (Å fun x=>ze x some)
def xT:Ò Tryz.prog 261 rD:=Ê (BG _) (fun {_}=>ľ (Á Fq Æ) _) hmix (tab:=D4 _) rfl (Á LB Æ) (Å fun x=>Rt x some)
def MZ:Ò Tryz.prog 285 AU:=Ê (D5 _) (fun {_}=>ľ (Á Zn (Á adi Æ)) _) hmix (tab:=xn _) rfl Æ (Å fun x=>LD x some)
def agD:Ò Tryz.prog 275 abB:=Ê (UO _) (fun {_}=>ľ (Á xT (Á MZ Æ)) _) hmix (tab:=LM _) rfl Æ (Å fun x=>Xk x some)
def SG:Ò Tryz.prog 259 Cx:=Ê (xq _) (fun {_}=>ľ (Á agD Æ) _) hmix (tab:=sK _) rfl Æ (Å fun x=>Gu x some)
def X0:Ò Tryz.prog 291 WR:=Ê (UM _) (fun {_}=>ľ Æ _) hmix (tab:=LJ _) rfl Æ (Å fun x=>Xi x some)
def AD:Ò Tryz.prog 286 zu:=Ê (vF _) (fun {_}=>ľ (Á xT (Á X0 Æ)) _) hmix (tab:=qo _) rfl Æ (Å fun x=>D8 x some)
def adk:Ò Tryz.prog 289 abC:=Ê (UQ _) (fun {_}=>ľ (Á xT (Á MZ Æ)) _) hmix (tab:=LO _) rfl Æ (Å fun x=>Xm x some)
def adj:Ò Tryz.prog 276 TW:=TF (BI _) (UP _) (fun {_}=>Me (Á Fq (Á AD (Á adk (Á X0 Æ)))) (BI _) rfl rfl rfl rfl rfl (gS rfl)) (fun {_}=>ľ (Á Fq (Á AD (Á adk (Á X0 Æ)))) _) rfl hmix (tab:=t8 _) rfl Æ (us:=HY) rfl (Á (by kernel_rfl) Æ) (Å fun x=>Ry x some)
def SF:Ò Tryz.prog 260 Cw:=Ê (xp _) (fun {_}=>ľ (Á adj Æ) _) hmix (tab:=sJ _) rfl Æ (Å fun x=>Gt x some)
def P2:Ò Tryz.prog 243 FN:=Ê (Ib _) (fun {_}=>ľ (Á M3 (Á Fr (Á Jp (Á SG (Á SF Æ))))) _) hmix (tab:=As _) rfl Æ (Å fun x=>Ou x some)
def V2:Ò Tryz.prog 244 KA:=Ê (L7 _) (fun {_}=>ľ Æ _) hmix (tab:=Ew _) rfl Æ (Å fun x=>RP x some)
def V0:Ò Tryz.prog 262 Kx:=Ê (LH _) (fun {_}=>ľ Æ _) hmix (tab:=D6 _) rfl Æ (Å fun x=>Rw x some)
def V1:Ò Tryz.prog 245 Ky:=Ê (LP _) (fun {_}=>ľ (Á xT (Á V0 Æ)) _) hmix (tab:=D9 _) rfl Æ (Å fun x=>Rz x some)
def Zo:Ò Tryz.prog 246 QA:=Ê (Pw _) (fun {_}=>ľ (Á xT (Á V0 Æ)) _) hmix (tab:=H4 _) rfl Æ (Å fun x=>US x some)
def Zp:Ò Tryz.prog 208 QB:=Ê (Px _) (fun {_}=>ľ (Á P2 (Á V2 (Á V1 (Á Zo Æ)))) _) hmix (tab:=H6 _) rfl Æ (Å fun x=>UV x some)
def SH:Ò Tryz.prog 74 JG:=Ê (sL _) (fun {_}=>ľ (Á M4 (Á Zq (Á Fr (Á IB (Á ae8 (Á Zp Æ)))))) _) hmix (tab:=H7 _) rfl (Á Oh (Á Oi (Á Og Æ))) (Å fun x=>UX x some)
def Ŝ:Ò Tryz.prog 77 Ř:=Ê (Ig _) (fun {_}=>ľ (Á Ņ (Á SH Æ)) _) hmix (tab:=Au _) rfl Æ (Å fun x=>Oz x some)
def ŏ:Ò Tryz.prog 108 Ō:=Ê (vC _) (fun {_}=>ľ (Á ta (Á xS Æ)) _) hmix (tab:=qg _) rfl Æ (Å fun x=>DX x some)
def VY:Ò Tryz.prog 9 Hx:=Ê (qT _) (fun {_}=>ľ (Á lY (Á Ņ (Á gU (Á mh (Á Ŝ (Á ŏ Æ)))))) _) hmix (tab:=vr _) rfl (Á DG Æ) (Å fun x=>I3 x some)
def P3:Ò Tryz.prog 114 FO:=Ê (Ik _) (fun {_}=>ľ (Á P1 (Á Fr Æ)) _) hmix (tab:=Aw _) rfl Æ (Å fun x=>OC x some)
def Zk:Ò Tryz.prog 44 Qw:=Ê (Pl _) (fun {_}=>ľ (Á P3 Æ) _) hmix (tab:=HD _) rfl Æ (Å fun x=>Uk x some)
def VX:Ò Tryz.prog 45 Ks:=Ê (KZ _) (fun {_}=>ľ Æ _) hmix (tab:=Dt _) rfl Æ (Å fun x=>Q1 x some)
def VU:Ò Tryz.prog 46 Kr:=Ê (Bu _) (fun {_}=>ľ (Á ś Æ) _) hmix (tab:=Ds _) rfl (Á KV Æ) (Å fun x=>QZ x some)
def Zl:Ò Tryz.prog 10 Qx:=Ê (yj _) (fun {_}=>ľ (Á lY (Á Ņ (Á Zk (Á VX (Á VU (Á gU (Á mh (Á Ŝ (Á ŏ Æ))))))))) _) hmix (tab:=HL _) rfl (Á NX (Á NW Æ)) (Å fun x=>Uw x some)
def XZ:Ò Tryz.prog 12 Kv:=Ê (tU _) (fun {_}=>ľ (Á Ņ (Á jS (Á jy (Á gU (Á mh (Á Ŝ (Á ŏ Æ))))))) _) hmix (tab:=w9 _) rfl (Á Gf Æ) (Å fun x=>Lf x some)
def VZ:Ò Tryz.prog 148 Kw:=Ê (Gj _) (fun {_}=>ľ Æ _) hmix (tab:=UB _) rfl (Á Xd (Á Xb (Á Xa (Á Xc Æ)))) (Å fun x=>ab6 x some)
def adg:Ò Tryz.prog 78 TU:=Ê (jM _) (fun {_}=>ľ (Á ta (Á xS (Á VZ Æ))) _) hmix (tab:=DY _) rfl (Á Lr (Á Lm (Á Ln (Á Lp (Á Lq Æ))))) (Å fun x=>Rp x some)
def MW:Ò Tryz.prog 80 AQ:=Ê (tG _) (fun {_}=>ľ (Á Ŝ Æ) _) hmix (tab:=wD _) rfl (Á FW Æ) (Å fun x=>KT x some)
def ade:Ò Tryz.prog 24 TS:=Ê (Lc _) (fun {_}=>ľ (Á Ŝ (Á adg (Á ada (Á MW Æ)))) _) hmix (tab:=DH _) rfl Æ (Å fun x=>Rf x some)
def VT:Ò Tryz.prog 34 Hu:=Ê (zC _) (fun {_}=>ľ Æ _) hmix (tab:=uY _) rfl Æ (Å fun x=>IU x some)
def B9:Ò Tryz.prog 93 AP:=Ê (CQ _) (fun {_}=>ľ Æ _) hmix (tab:=wC _) rfl Æ (Å fun x=>KS x some)
def adc:Ò Tryz.prog 35 TR:=Ê (Bz _) (fun {_}=>ľ (Á lY (Á Ņ (Á gU (Á mh (Á Ŝ (Á B9 (Á ŏ Æ))))))) _) hmix (tab:=DF _) rfl (Á K9 Æ) (Å fun x=>Rc x some)
def adh:Ò Tryz.prog 95 TV:=Ê (oR _) (fun {_}=>ľ (Á MY (Á VZ Æ)) _) hmix (tab:=D2 _) rfl (Á Lx (Á Lv (Á Lw Æ))) (Å fun x=>Rr x some)
def SD:Ò Tryz.prog 94 Ct:=Ê (w8 _) (fun {_}=>ľ (Á jS (Á adh Æ)) _) hmix (tab:=sn _) rfl Æ (Å fun x=>Ge x some)
def XY:Ò Tryz.prog 36 Ku:=Ê (kF _) (fun {_}=>Me (Á Ņ (Á gU (Á mh (Á Ŝ (Á ada (Á MW (Á SD (Á AC (Á s9 (Á ŏ Æ)))))))))) (kF _) rfl rfl rfl rfl rfl (gS rfl)) hmix (tab:=w7 _) rfl (Á Gd (Á Gc Æ)) (Å fun x=>Le x some)
def Zr:Ò Tryz.prog 167 QE:=Ê (GB _) (fun {_}=>ľ (Á Ņ Æ) _) hmix (tab:=If _) rfl (Á Oy Æ) (Å fun x=>U4 x some)
def adm:Ò Tryz.prog 215 TY:=Ê (LU _) (fun {_}=>ľ (Á P2 (Á V2 (Á V1 (Á Zo Æ)))) _) hmix (tab:=Eb _) rfl Æ (Å fun x=>RD x some)
def X3:Ò Tryz.prog 166 KB:=Ê (EH _) (fun {_}=>ľ (Á SH (Á MY (Á Zr (Á Fr (Á IB (Á adm Æ)))))) _) hmix (tab:=xz _) rfl Æ (Å fun x=>L9 x some)
def adl:Ò Tryz.prog 217 TX:=Ê (LR _) (fun {_}=>ľ (Á Ņ Æ) _) hmix (tab:=Ea _) rfl Æ (Å fun x=>RC x some)
def afa:Ò Tryz.prog 168 YM:=Ê (Py _) (fun {_}=>ľ (Á Zp (Á adl Æ)) _) hmix (tab:=Ih _) rfl Æ (Å fun x=>U5 x some)
def VW:Ò Tryz.prog 169 Hw:=Ê (zH _) (fun {_}=>ľ (Á jS Æ) _) hmix (tab:=vq _) rfl Æ (Å fun x=>IZ x some)
def VV:Ò Tryz.prog 170 Hv:=Ê (zG _) (fun {_}=>ľ (Á jy Æ) _) hmix (tab:=vp _) rfl Æ (Å fun x=>IY x some)
def G9:Ò Tryz.prog 98 FL:=Ê (pV _) (fun {_}=>Me (Á jS (Á Ŝ (Á P3 (Á X3 (Á Zr (Á afa (Á VW (Á VV Æ)))))))) (pV _) rfl rfl rfl rfl rfl (gS rfl)) hmix (tab:=zF _) rfl (Á IX Æ) (Å fun x=>NQ x some)
def uR:Ò Tryz.prog 101 tq:=Ê (wL _) (fun {_}=>ľ Æ _) hmix (tab:=sa _) rfl Æ (Å fun x=>F1 x some)
def aaC:Ò Tryz.prog 172 O7:=Ê (HF _) (fun {_}=>ľ Æ _) hmix (tab:=zI _) rfl Æ (Å fun x=>NR x some)
def rr:Ò Tryz.prog 105 qH:=Ê (uZ _) (fun {_}=>ľ (Á aaC Æ) _) hmix (tab:=pG _) rfl Æ (Å fun x=>CO x some)
def rt:Ò Tryz.prog 106 qI:=Ê (jz _) (fun {_}=>ľ Æ _) hmix (tab:=pH _) rfl (Á yP (Á yQ Æ)) (Å fun x=>CP x some)
def MV:Ò Tryz.prog 99 wj:=Ê (lI _) (fun {_}=>ľ (Á ś (Á uR (Á rr (Á rt Æ)))) _) hmix (tab:=oq _) rfl (Á wB Æ) (Å fun x=>A3 x some)
def adb:Ò Tryz.prog 37 TQ:=Ê (Bx _) (fun {_}=>ľ (Á Ņ (Á gU (Á mh (Á Ŝ (Á G9 (Á MV (Á ŏ Æ))))))) _) hmix (tab:=Dw _) rfl (Á K6 Æ) (Å fun x=>Q9 x some)
def Fo:Ò Tryz.prog 102 Cs:=Ê (wO _) (fun {_}=>ľ Æ _) hmix (tab:=sj _) rfl Æ (Å fun x=>F8 x some)
def Fm:Ò Tryz.prog 103 Cr:=Ê (wM _) (fun {_}=>ľ Æ _) hmix (tab:=sc _) rfl Æ (Å fun x=>F2 x some)
def XX:Ò Tryz.prog 38 Kt:=TF (tP _) (č _) (fun {_}=>Me (Á Ņ (Á gU (Á mh (Á Ŝ (Á B9 (Á G9 (Á ś (Á uR (Á Fo (Á Fm (Á rr (Á rt (Á ŏ Æ))))))))))))) (tP _) rfl rfl rfl rfl rfl (gS rfl)) (fun {_}=>Me (Á Ņ (Á gU (Á mh (Á Ŝ (Á B9 (Á G9 (Á ś (Á uR (Á Fo (Á Fm (Á rr (Á rt (Á ŏ Æ))))))))))))) (č _) rfl rfl rfl rfl rfl (gS rfl)) rfl hmix (tab:=oP _) rfl (Á F7 (Á F6 Æ)) (us:=qR) rfl (Á (by kernel_rfl) Æ) (Å fun x=>K8 x some)
def MX:Ò Tryz.prog 155 AR:=Ê (tW _) (fun {_}=>ľ Æ _) hmix (tab:=xb _) rfl (Á Gi Æ) (Å fun x=>Lh x some)
def Zm:Ò Tryz.prog 156 Qy:=Ê (Gg _) (fun {_}=>ľ Æ _) hmix (tab:=HM _) rfl (Á N1 Æ) (Å fun x=>Uz x some)
def OH:Ò Tryz.prog 81 zr:=Ê (vD _) (fun {_}=>ľ (Á ta (Á MX (Á Zm Æ))) _) hmix (tab:=qj _) rfl Æ (Å fun x=>D0 x some)
def OG:Ò Tryz.prog 25 zq:=Ê (vt _) (fun {_}=>ľ (Á Ņ (Á Ŝ (Á OH Æ))) _) hmix (tab:=qe _) rfl Æ (Å fun x=>DI x some)
def OI:Ò Tryz.prog 107 zt:=Ê (vE _) (fun {_}=>ľ (Á ta (Á MX (Á Zm (Á SE Æ)))) _) hmix (tab:=qk _) rfl Æ (Å fun x=>D1 x some)
def Fp:Ò Tryz.prog 40 tr:=Ê (wZ _) (fun {_}=>ľ (Á Ņ (Á gU (Á Ŝ (Á OI Æ)))) _) hmix (tab:=sm _) rfl Æ (Å fun x=>Gb x some)
def nf:Ò Tryz.prog 233 iy:=Ê (ņ _) (fun {_}=>ľ Æ _) hmix (tab:=Ξ _) rfl (Á jI Æ) (Å fun x=>ku x some)
def kZ:Ò Tryz.prog 190 ξ:=Ê (ž _) (fun {_}=>ľ (Á nf Æ) _) hmix (tab:=Ũ _) rfl Æ (Å fun x=>jr x some)
def rq:Ò Tryz.prog 235 jo:=Ê (Ű _) (fun {_}=>ľ Æ _) hmix (tab:=iz _) rfl (Á lE Æ) (Å fun x=>mU x some)
def nI:Ò Tryz.prog 193 iK:=Ê (gZ _) (fun {_}=>ľ (Á rq Æ) _) hmix (tab:=υ _) rfl Æ (Å fun x=>kY x some)
def pl:Ò Tryz.prog 237 iS:=Ê (Ş _) (fun {_}=>ľ Æ _) hmix (tab:=gO _) rfl (Á ks Æ) (Å fun x=>lG x some)
def mQ:Ò Tryz.prog 196 gX:=Ê (χ _) (fun {_}=>ľ (Á pl Æ) _) hmix (tab:=Ž _) rfl Æ (Å fun x=>kh x some)
def ae6:Ò Tryz.prog 55 YI:=Ê (Δ _) (fun {_}=>ľ (Á kZ (Á nI (Á mQ Æ))) _) hmix (tab:=HE _) rfl (Á NN (Á NK (Á NJ (Á NL (Á NM (Á NI (Á NH (Á NG (Á NF (Á NE Æ)))))))))) (Å fun x=>Ul x some)
def aaD:Ò Tryz.prog 39 O8:=Ê (HK _) (fun {_}=>ľ (Á OG (Á Fp (Á Ņ (Á ae6 Æ)))) _) hmix (tab:=zL _) rfl Æ (Å fun x=>NV x some)
def XV:Ò Tryz.prog 8 Ko:=Ê (CJ _) (fun {_}=>ľ (Á VY (Á Zl (Á XZ (Á ade (Á VT (Á adc (Á XY (Á adb (Á XX (Á aaD (Á Fp Æ))))))))))) _) hmix (tab:=ww _) rfl Æ (Å fun x=>KP x some)
def SC:Ò Tryz.prog 51 Cq:=Ê (Ú _) (fun {_}=>ľ (Á jy Æ) _) hmix (tab:=rN _) rfl (Á Bs (Á Bh (Á Bc (Á Bb (Á A9 (Á A8 (Á A6 (Á A7 (Á Ba (Á zb (Á y0 (Á za (Á Be (Á yZ (Á yX (Á yW (Á yU (Á yV (Á yY (Á yT (Á yR (Á yS Æ)))))))))))))))))))))) (Å fun x=>FX x some)
def aaE:Ò Tryz.prog 11 O9:=Ê (j5 _) (fun {_}=>ľ (Á Ņ (Á Zk (Á VX (Á VU (Á jm (Á jS (Á SC (Á gU (Á mh (Á Ŝ (Á ŏ Æ))))))))))) _) hmix (tab:=zP _) rfl (Á I7 (Á I6 (Á I5 (Á I4 Æ)))) (Å fun x=>NY x some)
def ac9:Ò Tryz.prog 13 TP:=Ê (A0 _) (fun {_}=>ľ (Á gU (Á mh Æ)) _) hmix (tab:=CG _) rfl (Á KO Æ) (Å fun x=>QR x some)
def aaA:Ò Tryz.prog 73 O5:=Ê (HA _) (fun {_}=>ľ (Á gU Æ) _) hmix (tab:=zB _) rfl Æ (Å fun x=>Nx x some)
def aaz:Ò Tryz.prog 21 O4:=Ê (wu _) (fun {_}=>ľ (Á aaA Æ) _) hmix (tab:=zA _) rfl (Á IT Æ) (Å fun x=>Nv x some)
def Ha:Ò Tryz.prog 75 rE:=Ê (jN _) (fun {_}=>ľ (Á kd Æ) _) hmix (tab:=mz _) rfl (Á uh Æ) (Å fun x=>xt x some)
def ae7:Ò Tryz.prog 145 YJ:=Ê (yl _) (fun {_}=>ľ (Á ta Æ) _) hmix (tab:=HO _) rfl (Á N6 (Á N5 Æ)) (Å fun x=>UD x some)
def OJ:Ò Tryz.prog 76 zw:=Ê (vI _) (fun {_}=>ľ (Á ae7 Æ) _) hmix (tab:=qu _) rfl Æ (Å fun x=>Ef x some)
def afb:Ò Tryz.prog 22 YN:=Ê (Pz _) (fun {_}=>ľ (Á Ņ (Á SH (Á Ha (Á OJ Æ)))) _) hmix (tab:=Ij _) rfl Æ (Å fun x=>U8 x some)
def XW:Ò Tryz.prog 23 Kq:=Ê (CL _) (fun {_}=>ľ Æ _) hmix (tab:=wx _) rfl Æ (Å fun x=>KQ x some)
def c_w6_SharpPilesHold:Ò Tryz.prog 5 hZ:=Ê (Ν _) (fun {_}=>ľ (Á ae5 (Á XV (Á Zl (Á aaE (Á ac9 (Á aaz (Á afb (Á XW Æ)))))))) _) hmix (tab:=kq _) rfl (Á qM (Á qL Æ)) (Å fun x=>tC x some)
end Go.Proofs.ZzM
end
