/- lemmas -/
import Derived.Test.YthhhehllmdfhiaaGreatAmC
import Derived.Test.YthhhehllmdfhiaaGreatAmD
import Derived.Ground.NamesProg
import Derived.Ground.Names2Prog
import Derived.KernelRfl
import Derived.Test.YthhhehllmdfhiaaGreatMdMA
import Derived.Test.YthhhehllmdfhiaaGreatMdKA
import Derived.RangeFuncBox
import Derived.Lib.SliceRun
import Derived.RangeFuncLeaves
import Derived.WalkKit
import Derived.OwnWalkIn
import Derived.TacticsInMore
import Derived.LoopNIn
import Derived.LoopIn
import Derived.Test.YthhhehllmdfhiaaGreatProg
import Derived.RangeFuncFrom
import Derived.RangeFuncRecord
set_option linter.all false
set_option linter.unusedSectionVars false
set_option linter.unusedVariables false
set_option linter.unusedSimpArgs false
noncomputable section
namespace Go.Proofs
open Go.Shelf
def Tryz.laysSort_ren:Go.Shelf.Ren:=⟨fun|189=>127|125=>197|257=>196|128=>251|129=>252|294=>242|295=>243|296=>244|297=>245|298=>246|299=>247|216=>248|300=>249|301=>250|328=>269|329=>270|330=>271|331=>272|332=>273|215=>274|343=>286|n=>n,fun|28=>43|3=>3|46=>248|0=>0|51=>288|53=>290|4=>4|183=>281|182=>280|131=>57|5=>5|9=>9|218=>312|222=>316|228=>326|229=>327|n=>n,fun|n=>n⟩
theorem Tryz.laysSort:Go.Proofs.Lays.n189 Tryz.prog Tryz.laysSort_ren:={
 mixed:=by kernel_rfl
 f125:=Tryz.func197.trans (congrArg some (by kernel_rfl))
 f128:=Tryz.func251.trans (congrArg some (by kernel_rfl))
 f129:=Tryz.func252.trans (congrArg some (by kernel_rfl))
 f189:=Tryz.func127.trans (congrArg some (by kernel_rfl))
 f215:=Tryz.func274.trans (congrArg some (by kernel_rfl))
 f216:=Tryz.func248.trans (congrArg some (by kernel_rfl))
 f257:=Tryz.func196.trans (congrArg some (by kernel_rfl))
 f294:=Tryz.func242.trans (congrArg some (by kernel_rfl))
 f295:=Tryz.func243.trans (congrArg some (by kernel_rfl))
 f296:=Tryz.func244.trans (congrArg some (by kernel_rfl))
 f297:=Tryz.func245.trans (congrArg some (by kernel_rfl))
 f298:=Tryz.func246.trans (congrArg some (by kernel_rfl))
 f299:=Tryz.func247.trans (congrArg some (by kernel_rfl))
 f300:=Tryz.func249.trans (congrArg some (by kernel_rfl))
 f301:=Tryz.func250.trans (congrArg some (by kernel_rfl))
 f328:=Tryz.func269.trans (congrArg some (by kernel_rfl))
 f329:=Tryz.func270.trans (congrArg some (by kernel_rfl))
 f330:=Tryz.func271.trans (congrArg some (by kernel_rfl))
 f331:=Tryz.func272.trans (congrArg some (by kernel_rfl))
 f332:=Tryz.func273.trans (congrArg some (by kernel_rfl))
 f343:=Tryz.func286.trans (congrArg some (by kernel_rfl))
 t0:=Tryz.underlying0
 a0:=Tryz.isAgg0
 z0:=Tryz.sizeOf0
 v0:=Tryz.zeroValue0
 t3:=Tryz.underlying3
 a3:=Tryz.isAgg3
 z3:=Tryz.sizeOf3
 v3:=Tryz.zeroValue3
 t4:=Tryz.underlying4
 a4:=Tryz.isAgg4
 z4:=Tryz.sizeOf4
 v4:=Tryz.zeroValue4
 t5:=Tryz.underlying5
 a5:=Tryz.isAgg5
 z5:=Tryz.sizeOf5
 v5:=Tryz.zeroValue5
 t9:=Tryz.underlying9
 a9:=Tryz.isAgg9
 z9:=Tryz.sizeOf9
 v9:=Tryz.zeroValue9
 t28:=Tryz.underlying43
 a28:=Tryz.isAgg43
 z28:=Tryz.sizeOf43
 v28:=Tryz.zeroValue43
 t46:=Tryz.underlying248
 a46:=Tryz.isAgg248
 z46:=Tryz.sizeOf248
 v46:=Tryz.zeroValue248
 t51:=Tryz.underlying288
 a51:=Tryz.isAgg288
 z51:=Tryz.sizeOf288
 v51:=Tryz.zeroValue288
 t53:=Tryz.underlying290
 a53:=Tryz.isAgg290
 z53:=Tryz.sizeOf290
 v53:=Tryz.zeroValue290
 t131:=Tryz.underlying57
 a131:=Tryz.isAgg57
 z131:=Tryz.sizeOf57
 v131:=Tryz.zeroValue57
 t182:=Tryz.underlying280
 a182:=Tryz.isAgg280
 z182:=Tryz.sizeOf280
 v182:=Tryz.zeroValue280
 t183:=Tryz.underlying281
 a183:=Tryz.isAgg281
 z183:=Tryz.sizeOf281
 v183:=Tryz.zeroValue281
 t218:=Tryz.underlying312
 a218:=Tryz.isAgg312
 z218:=Tryz.sizeOf312
 v218:=Tryz.zeroValue312
 t222:=Tryz.underlying316
 a222:=Tryz.isAgg316
 z222:=Tryz.sizeOf316
 v222:=Tryz.zeroValue316
 t228:=Tryz.underlying326
 a228:=Tryz.isAgg326
 z228:=Tryz.sizeOf326
 v228:=Tryz.zeroValue326
 t229:=Tryz.underlying327
 a229:=Tryz.isAgg327
 z229:=Tryz.sizeOf327
 v229:=Tryz.zeroValue327}
def Tryz.laysCompact_ren:Go.Shelf.Ren:=⟨fun|20=>128|n=>n,fun|22=>43|3=>3|4=>4|0=>0|n=>n,fun|n=>n⟩
theorem Tryz.laysCompact:Go.Proofs.Lays2.n20 Tryz.prog Tryz.laysCompact_ren:={
 mixed:=by kernel_rfl
 f20:=Tryz.func128.trans (congrArg some (by kernel_rfl))
 t0:=Tryz.underlying0
 a0:=Tryz.isAgg0
 z0:=Tryz.sizeOf0
 v0:=Tryz.zeroValue0
 t3:=Tryz.underlying3
 a3:=Tryz.isAgg3
 z3:=Tryz.sizeOf3
 v3:=Tryz.zeroValue3
 t4:=Tryz.underlying4
 a4:=Tryz.isAgg4
 z4:=Tryz.sizeOf4
 v4:=Tryz.zeroValue4
 t22:=Tryz.underlying43
 a22:=Tryz.isAgg43
 z22:=Tryz.sizeOf43
 v22:=Tryz.zeroValue43
 i3:=by kernel_rfl}
end Go.Proofs
namespace Go.Proofs.ZzM
open Go Go.Am
theorem hmix:Tryz.prog.follows .mixedOrders=true:=by kernel_rfl
theorem plain_ : (Tryz.prog.funcs.toList.all fun fn => !(fn.name == "runtime.NumGoroutine")) = true := by kernel_rfl
theorem plain (f : Nat) (fn : Func) (h : Tryz.prog.funcs[f]? = some fn) : (fn.name == "runtime.NumGoroutine") = false := by
 have:=List.all_eq_true.1 plain_ fn (List.mem_of_getElem? (i:=f) (by simpa using h))
 simpa using this
theorem a07:Tryz.laysSort_ren.f 189=127:=by kernel_rfl
theorem aUF:Tryz.laysCompact_ren.f 20=128:=by kernel_rfl
section
variable [ò] {ρ:Type}
theorem sortOk (f:Nat) (hf:aPR f=true) (h:List Blk) (x:AV) (K:AV→List Blk→Option ρ) (q:ρ) (e:aJM h x K=some q) (ν:Nat→Value) (w:World) (u:Value) (H:HR ν h w) (hx:VR ν h w x u):aAe Tryz.prog f ν h w [u] K q:=by
 have h1:f=127:=by
  unfold aPR at hf
  split at hf
  ·rfl
  ·cases hf
 subst h1
 have:=a00 Tryz.laysSort e H hx ⟨_,rfl⟩
 rwa [a07] at this
theorem aXO (f:Nat) (hf:ao1 f=true) (h:List Blk) (x:AV) (K:AV→List Blk→Option ρ) (q:ρ) (e:ahH h x K=some q) (ν:Nat→Value) (w:World) (u:Value) (H:HR ν h w) (hx:VR ν h w x u):aAe Tryz.prog f ν h w [u] K q:=by
 have h1:f=128:=by
  unfold ao1 at hf
  split at hf
  ·rfl
  ·cases hf
 subst h1
 have:=aVl Tryz.laysCompact e H hx ⟨_,rfl⟩
 rwa [aUF] at this
theorem a1C:ayT Tryz.prog aEV:=by
 intro g hg fz S nid x v S' e ν w u H hx hn hd
 unfold aEV at hg
 split at hg
 ·exact amH Tryz.func91 (T:=43) (by kernel_rfl) (by kernel_rfl) e H hx hn hd
 ·exact amH Tryz.func140 (T:=47) (by kernel_rfl) (by kernel_rfl) e H hx hn hd
 ·exact amH Tryz.func229 (T:=24) (by kernel_rfl) (by kernel_rfl) e H hx hn hd
 ·exact amH Tryz.func230 (T:=25) (by kernel_rfl) (by kernel_rfl) e H hx hn hd
 ·exact amH Tryz.func231 (T:=26) (by kernel_rfl) (by kernel_rfl) e H hx hn hd
 ·exact amH Tryz.func232 (T:=28) (by kernel_rfl) (by kernel_rfl) e H hx hn hd
 ·exact amH Tryz.func233 (T:=27) (by kernel_rfl) (by kernel_rfl) e H hx hn hd
 ·cases hg
theorem aA8 {pt:List (Nat×Ö)} (h:∀e∈pt,Î Tryz.prog e.1 e.2) (E:Env ρ) (hP:E.P=Tryz.prog) (h1:E.pure=aVc pt) (h2:E.sort=aPR) (h3:E.compact=ao1) (h4:E.clone=aEV) (hj:aUp E):aBg E:=by
 constructor
 ·intro f p hf
  rw[h1] at hf
  rw[hP]
  exact h (f,p) (aJm hf)
 ·intro f hf
  rw[h2] at hf
  rw[hP]
  exact sortOk f hf
 ·intro f hf
  rw[h3] at hf
  rw[hP]
  exact aXO f hf
 ·rw[hP]; exact plain
 ·rw[hP,h4]; exact a1C
 ·exact hj
theorem Ċ {pt:List (Nat×Ö)} (h:∀e∈pt,Î Tryz.prog e.1 e.2) (tab:List (Þ ρ)):aBg (Ø pt tab):=aA8 h _ rfl rfl rfl rfl rfl (ż rfl)
end
end Go.Proofs.ZzM
end
noncomputable section
set_option maxRecDepth 100000
namespace Go.Proofs.ZzM
open Go Go.Am
theorem aFH:Î Tryz.prog 53 asf:=Ç (al4 _) (fun {_}=>Ċ Æ _) hmix (tab:=aoI _) rfl (Á ax5 Æ) (Å fun x=>aEz x some)
theorem aqg:Î Tryz.prog 82 akx:=Ç (azT _) (fun {_}=>Ċ Æ _) hmix (tab:=arM _) rfl Æ (Å fun x=>aHK x some)
theorem agk:Î Tryz.prog 126 ae2:=Ç (azO _) (fun {_}=>Ċ Æ _) hmix (tab:=arF _) rfl Æ (Å fun x=>aHw x some)
theorem aFJ:Î Tryz.prog 125 atT:=Ç (aEH _) (fun {_}=>Ċ (Á agk Æ) _) hmix (tab:=avP _) rfl Æ (Å fun x=>aL9 x some)
theorem aT8:Î Tryz.prog 259 aJ2:=Ç (aIY _) (fun {_}=>Ċ Æ _) hmix (tab:=azJ _) rfl Æ (Å fun x=>aPl x some)
theorem aYe:Î Tryz.prog 260 aRg:=Ç (aEl _) (fun {_}=>Ċ Æ _) hmix (tab:=aEk _) rfl (Á aLN Æ) (Å fun x=>aRT x some)
theorem awC:Î Tryz.prog 219 atN:=Ç (aEo _) (fun {_}=>Ċ (Á aT8 (Á aYe Æ)) _) hmix (tab:=avz _) rfl Æ (Å fun x=>aLP x some)
theorem aSI:Î Tryz.prog 162 aCm:=Ç (avO _) (fun {_}=>Ċ (Á aqg (Á aFJ (Á agk (Á awC Æ)))) _) hmix (tab:=aoP _) rfl Æ (Å fun x=>aEG x some)
theorem aFK:Î Tryz.prog 83 anK:=Ç (af9 _) (fun {_}=>Ċ (Á aSI Æ) _) hmix (tab:=aim _) rfl (Á aoQ Æ) (Å fun x=>as4 x some)
theorem ayI:Î Tryz.prog 73 aks:=Ç (aeS _) (fun {_}=>Ċ Æ _) hmix (tab:=agB _) rfl (Á alz Æ) (Å fun x=>anP x some)
theorem ahh:Î Tryz.prog 65 aep:=Ç (afQ _) (fun {_}=>Ċ (Á ayI Æ) _) hmix (tab:=ae4 _) rfl Æ (Å fun x=>akC x some)
theorem aUc:Î Tryz.prog 168 aJ6:=Ç (apO _) (fun {_}=>Ċ (Á ahh Æ) _) hmix (tab:=azV _) rfl (Á aHN (Á aHM Æ)) (Å fun x=>aPE x some)
theorem aFI:Î Tryz.prog 85 atS:=Ç (al7 _) (fun {_}=>Ċ (Á aUc Æ) _) hmix (tab:=avG _) rfl (Á aEB (Á aEC Æ)) (Å fun x=>aLX x some)
theorem akk:Î Tryz.prog 164 agm:=Ç (ang _) (fun {_}=>Ċ Æ _) hmix (tab:=ajB _) rfl Æ (Å fun x=>avE x some)
theorem aSH:Î Tryz.prog 163 aRi:=Ç (avF _) (fun {_}=>Ċ (Á aFJ (Á akk Æ)) _) hmix (tab:=aoL _) rfl Æ (Å fun x=>aEA x some)
theorem aMX:Î Tryz.prog 166 aJ7:=Ç (afv _) (fun {_}=>Ċ (Á aqg (Á agk (Á akk Æ))) _) hmix (tab:=ak4 _) rfl (Á as3 (Á as2 Æ)) (Å fun x=>ayc x some)
theorem awD:Î Tryz.prog 88 apD:=Ç (apN _) (fun {_}=>Ċ (Á ahh Æ) _) hmix (tab:=azS _) rfl (Á aHH (Á aHG Æ)) (Å fun x=>aPB x some)
theorem Œ:Î Tryz.prog 94 Ŏ:=Ç (δ _) (fun {_}=>Ċ Æ _) hmix (tab:=afR _) rfl (Á akE (Á akD Æ)) (Å fun x=>ann x some)
theorem aJu:Î Tryz.prog 198 aw2:=Ç (aoO _) (fun {_}=>Ċ (Á agk Æ) _) hmix (tab:=arL _) rfl (Á aA6 Æ) (Å fun x=>aHI x some)
theorem a0f:Î Tryz.prog 223 aTw:=Ç (ayd _) (fun {_}=>Ċ (Á agk Æ) _) hmix (tab:=azW _) rfl (Á aHO Æ) (Å fun x=>aPF x some)
theorem aBc:Î Tryz.prog 167 aAj:=Ç (Ő _) (fun {_}=>Ċ (Á aqg (Á awD (Á Œ (Á aFJ (Á agk (Á akk (Á aJu (Á a0f Æ)))))))) _) hmix (tab:=ahe _) rfl (Á anr (Á anp (Á anq (Á ano Æ)))) (Å fun x=>aqv x some)
theorem aDF:∀e∈axE,Î Tryz.prog e.1 e.2:=(Á Œ Æ)
theorem aRJ {ρ:Type}:∀e∈asL ρ,e.Ok (ŭ ρ):=(Á aLr (Á aLs (Á aLq (Á aLp (Á aLo (Á aLn Æ))))))
theorem azv {ρ:Type}:∀e∈ajl ρ,e.Ok (Ę ρ):=(Á aG9 (Á aG8 (Á aG7 Æ)))
end Go.Proofs.ZzM
end
noncomputable section
namespace Go.Proofs
open Go.RowKit
attribute [local go_sem] Oper.semAt_some
def aF3 (sel:Nat→Bool) (k:Nat):List Nat:=(List.range k).filter sel
theorem atu (sel:Nat→Bool) (k:Nat):aF3 sel (k+1)=if sel k then aF3 sel k++[k] else aF3 sel k:=by
 unfold aF3
 rw[List.range_succ,List.filter_append]
 cases h:sel k<;>simp[h]
theorem aQ5 (sel:Nat→Bool) (k:Nat):(aF3 sel k).length≤k:=by
 unfold aF3
 exact Nat.le_trans (List.length_filter_le _ _) (by simp)
theorem aWh (sel:Nat→Bool) {j k:Nat} (h:j≤k):(aF3 sel j).length≤(aF3 sel k).length:=by
 obtain⟨d,rfl⟩:∃d,k=j+d:=⟨k-j,by omega⟩
 unfold aF3
 rw[List.range_add,List.filter_append,List.length_append]
 omega
theorem a01 {sel:Nat→Bool} {k n:Nat} (h:k<n) (hs:sel k=true):(aF3 sel k).length<(aF3 sel n).length:=by
 have h1:=aWh sel (j:=k+1) (k:=n) h
 rw[atu,hs] at h1
 simp at h1
 omega
set_option maxRecDepth 100000 in
set_option maxHeartbeats 1000000 in
theorem a1n (te:TypeId) (n:Nat) (hn:1≤n) (l bb tb:Nat) (flo fhi us lo co ko:Value) (gb go len cap:Nat) (gbase:Option Addr) (hgb:0<len→gbase=some ⟨gb,go,none⟩)
 (c0 c1 c2 c3 c4 c5 c6 c7:Nat→Int) (sel:Nat→Bool) (hlen:(len:Int)<9223372036854775807) (Nd:World→Prop)
 (W:World) (hb0:W.heap[bb]?=some (.cells #[flo,fhi,.slice gbase len cap,us,lo,co,ko] te (0,0)))
 (hNc:∀W',Nd W'→∀j,j<len→W'.cell? ⟨gb,go+j*8,none⟩=some (.int .i64 (c0 j))∧W'.cell? ⟨gb,go+j*8+1,none⟩=some (.int .i64 (c1 j))∧W'.cell? ⟨gb,go+j*8+2,none⟩=some (.int .i64 (c2 j))∧W'.cell? ⟨gb,go+j*8+3,none⟩=some (.int .i64 (c3 j)) ∧
  W'.cell? ⟨gb,go+j*8+4,none⟩=some (.int .i64 (c4 j))∧W'.cell? ⟨gb,go+j*8+5,none⟩=some (.int .i64 (c5 j))∧W'.cell? ⟨gb,go+j*8+6,none⟩=some (.int .i64 (c6 j))∧W'.cell? ⟨gb,go+j*8+7,none⟩=some (.int .i64 (c7 j)))
 (hNm:∀W',Nd W'→∃mv,∀W'',W'.grownBy W'' none→W''.cell? ⟨tb,0,none⟩=some mv∧∀j,j<len→(Instr.lookup 197 mv (.int .i64 (c0 j)) false).run Tryz.prog W''=.ok (.bool (sel j)) W'')
 (hNs:∀W1 W2,Nd W1→W1.grownBy W2 none→Nd W2) (hN:Nd W)
 (J Jx:List Nat→World→Prop) (hJ:∀pre W W',J pre W→W.grownBy W' none→J pre W') (hJx:∀pre W W',Jx pre W→W.grownBy W' none→Jx pre W')
 (hY:∀pre x W,J pre W→pre.length<(aF3 sel len).length→YieldAt Fence.wide (n-1) Tryz.prog l #[.agg #[.int .i64 (c0 x),.int .i64 (c1 x),.int .i64 (c2 x),.int .i64 (c3 x),.int .i64 (c4 x),.int .i64 (c5 x),.int .i64 (c6 x),.int .i64 (c7 x)]] W fun e W' =>
  (e=.returned (.bool true)∧J (pre++[x]) W'∧(Nd W→Nd W'))∨(e=.returned (.bool false)∧Jx (pre++[x]) W'))
 (h0 : J [] W) :
  CallsIn Fence.wide n Tryz.prog 218 #[.func (.yield l) #[] #[],.pointer (some ⟨bb,0,none⟩),.pointer (some ⟨tb,0,none⟩)] W fun e W'=>(∃v,e=.returned v) ∧
   ((∃xs,xs=aF3 sel len∧J xs W')∨(∃pre,True∧Jx pre W')):=by
 have hb3:W.cell? ⟨bb,2,none⟩=some (.slice gbase len cap):=by simp[World.cell?,hb0]
 refine callsIn_of_wp Tryz.func218 rfl trivial ?_ rfl
 simp only[Tryz.ntmps218,List.size_toArray,List.length_cons,List.length_nil,Nat.reduceAdd,Nat.reduceSub,Array.replicate_succ,Array.replicate_zero,List.push_toArray,List.append_toArray,List.nil_append,List.cons_append]
 gi_wp2
 gi_loopw [9] (fun i wr=>∃k:Nat,k≤len∧i=.int .i64 k∧J (aF3 sel k) wr∧Nd wr)
  (fun i _=>len-(intOf i).toNat)
 case atStart=>exact⟨0,Nat.zero_le _,rfl,h0,hN⟩
 case round =>
  obtain⟨k,hk,rfl,hJs,hNw⟩:=hrel
  by_cases hlt:k<len
  ·have hg:=hgb (by omega)
   subst hg
   obtain⟨q0,q1,q2,q3,q4,q5,q6,q7⟩:=hNc _ hNw k hlt
   obtain⟨mv,hmv⟩:=hNm _ hNw
   have hta:∀o,(wr.alloc o).cell? ⟨tb,0,none⟩=some mv:=fun o=>(hmv _ (World.grownBy_alloc _ o none)).1
   have hlk:∀o,(Instr.lookup 197 mv (.int .i64 (c0 k)) false).run Tryz.prog (wr.alloc o)=.ok (.bool (sel k)) (wr.alloc o):=fun o=>(hmv _ (World.grownBy_alloc _ o none)).2 k hlt
   have hNa:∀o,Nd (wr.alloc o):=fun o=>hNs _ _ hNw (World.grownBy_alloc _ o none)
   have hJa:∀o,J (aF3 sel k) (wr.alloc o):=fun o=>hJ _ _ _ hJs (World.grownBy_alloc _ o none)
   clear hmv hNm hNc
   cases hsel:sel k with
   | false =>
     rw[hsel] at hlk
     iterate 52 (first|go_values|gi_guarded|gi_step|gi_upon)
     refine⟨fun f hf=>by simp[undef,go_sem] at hf,?_⟩
     gi_wp2
     go_roundw
     case rel=>exact⟨k+1,by omega,by simp,by rw[atu,hsel]; exact hJa _,hNa _⟩
     case measure=>simp[intOf]; omega
   | true =>
     rw[hsel] at hlk
     gi_wp2
     obtain⟨fn,tmps,assign,body,hy,hR⟩:=hY (aF3 sel k) k (wr.alloc (.cells #[.int .i64 (c0 k),.int .i64 (c1 k),.int .i64 (c2 k),.int .i64 (c3 k),.int .i64 (c4 k),.int .i64 (c5 k),.int .i64 (c6 k),.int .i64 (c7 k)] 104)) (hJa _) (a01 hlt hsel)
     rw[hy]
     refine⟨fun h=>(by cases h),hR.mono ?_⟩
     rintro e W3 (⟨rfl,hJ3,hk3⟩|⟨rfl,hJx3⟩)
     ·gi_wp2
      go_roundw
      case rel=>exact⟨k+1,by omega,by simp,by rw[atu,hsel]; exact hJ3,hk3 (hNa _)⟩
      case measure=>simp[intOf]; omega
     ·gi_wp2
      refine bodyPost_ret (results_none rfl _ _ _) rfl ?_
      exact⟨⟨_,rfl⟩,.inr ⟨_,trivial,hJx3⟩⟩
  ·obtain rfl:len=k:=by omega
   gi_wp2
   go_end0
   exact⟨⟨_,rfl⟩,.inl ⟨_,rfl,hJs⟩⟩
end Go.Proofs
end
noncomputable section
namespace Go.Proofs
open Go.RowKit
attribute [local go_sem] Oper.semAt_some
def upE (f:Nat→Int) (k:Nat):List Int:=(List.range k).map f
theorem aiN (f:Nat→Int) (k:Nat):upE f (k+1)=upE f k++[f k]:=by simp[upE,List.range_succ]
theorem apw (f:Nat→Int) (k:Nat):(upE f k).length=k:=by simp[upE]
theorem aBh (f:Nat→Int) {j k:Nat} (h:j≤k):upE f j <+: upE f k:=by
 have:k=j+(k-j):=by omega
 rw[this,upE,upE,List.range_add,List.map_append]
 exact List.prefix_append _ _
set_option maxRecDepth 100000 in
set_option maxHeartbeats 1000000 in
theorem aZj (te:TypeId) (n:Nat) (hn:1≤n) (l n₀ bb tb sb:Nat) (flo fhi ga mv:Value) (hbb:bb<n₀) (htb:tb<n₀) (hsb:sb<n₀)
 (ub uo ul uc kb ko kl kc:Nat) (ubase kbase lbase cbase:Option Addr) (ll lc cl cc:Nat) (hub:0<ul→ubase=some ⟨ub,uo,none⟩∧ub<n₀) (hkb:0<kl→kbase=some ⟨kb,ko,none⟩∧kb<n₀)
 (U K:Nat→Int×Int) (eU eL eC eK:Nat→Int)
 (hul:ul≤1000) (hll:ll≤1000) (hcl:cl≤1000) (hkl:kl≤1000)
 (W:World) (hb0:W.heap[bb]?=some (.cells #[flo,fhi,ga,.slice ubase ul uc,.slice lbase ll lc,.slice cbase cl cc,.slice kbase kl kc] te (0,0)))
 (ht:W.cell? ⟨tb,0,none⟩=some (.func (.func 163) #[] #[.pointer (some ⟨sb,0,none⟩)])) (hs:W.cell? ⟨sb,0,none⟩=some mv)
 (hU:∀j,j<ul→W.cell? ⟨ub,uo+j*2,none⟩=some (.int .i64 (U j).1)∧W.cell? ⟨ub,uo+j*2+1,none⟩=some (.int .i64 (U j).2))
 (hK:∀j,j<kl→W.cell? ⟨kb,ko+j*2,none⟩=some (.int .i64 (K j).1)∧W.cell? ⟨kb,ko+j*2+1,none⟩=some (.int .i64 (K j).2))
 (cU:∀j,j<ul→∀W',Below n₀ W W'→CallsIn Fence.wide (n-1) Tryz.prog 163 #[.int .i64 (U j).1,.int .i64 (U j).2,.pointer (some ⟨sb,0,none⟩)] W' fun e W''=>e=.returned (.int .i64 (eU j))∧W'.grownBy W'' none)
 (cK:∀j,j<kl→∀W',Below n₀ W W'→CallsIn Fence.wide (n-1) Tryz.prog 163 #[.int .i64 (K j).1,.int .i64 (K j).2,.pointer (some ⟨sb,0,none⟩)] W' fun e W''=>e=.returned (.int .i64 (eK j))∧W'.grownBy W'' none)
 (cL:∀j,j<ll→∀W',Below n₀ W W'→CallsIn Fence.wide (n-1) Tryz.prog 166 #[.agg #[flo,fhi,ga,.slice ubase ul uc,.slice lbase ll lc,.slice cbase cl cc,.slice kbase kl kc],mv,.int .i64 j] W' fun e W''=>e=.returned (.int .i64 (eL j))∧W'.grownBy W'' none)
 (cC:∀j,j<cl→∀W',Below n₀ W W'→CallsIn Fence.wide (n-1) Tryz.prog 167 #[.agg #[flo,fhi,ga,.slice ubase ul uc,.slice lbase ll lc,.slice cbase cl cc,.slice kbase kl kc],mv,.int .i64 j] W' fun e W''=>e=.returned (.int .i64 (eC j))∧W'.grownBy W'' none)
 (J Jx:List Int→World→Prop) (hJ:∀pre W W',J pre W→W.grownBy W' none→J pre W') (hJx:∀pre W W',Jx pre W→W.grownBy W' none→Jx pre W')
 (hY:∀pre x W,J pre W→pre.length<ul+(ll+(cl+kl))→YieldAt Fence.wide (n-1) Tryz.prog l #[.int .i64 x] W fun e W' =>
  (e=.returned (.bool true)∧J (pre++[x]) W'∧Below n₀ W W')∨(e=.returned (.bool false)∧Jx (pre++[x]) W'))
 (h0 : J [] W) (hn₀ : n₀ ≤ W.heap.size) :
  CallsIn Fence.wide n Tryz.prog 165 #[.func (.yield l) #[] #[],.pointer (some ⟨bb,0,none⟩),.pointer (some ⟨tb,0,none⟩),.pointer (some ⟨sb,0,none⟩)] W fun e W'=>(∃v,e=.returned v) ∧
   ((∃xs,xs=upE eU ul++(upE eL ll++(upE eC cl++upE eK kl))∧J xs W')∨(∃pre,(pre <+: upE eU ul++(upE eL ll++(upE eC cl++upE eK kl)))∧Jx pre W')):=by
 have grown_alloc:∀(X:World) (o:Obj),X.grownBy (X.alloc o) none:=fun X o=>World.grownBy_alloc X o none
 have bel:∀{X Y:World},Below n₀ W X→X.grownBy Y none→Below n₀ W Y:=fun {X Y} h g =>
  ⟨g.os.trans h.os,g.tape.trans h.tape,g.output.trans h.output,Nat.le_trans h.size g.size,fun k hk=>(g.block k (Nat.lt_of_lt_of_le (Nat.lt_of_lt_of_le hk hn₀) h.size) (by simp)).trans (h.block k hk)⟩
 have hc:∀{X:World},Below n₀ W X→X.heap[bb]?=some (.cells #[flo,fhi,ga,.slice ubase ul uc,.slice lbase ll lc,.slice cbase cl cc,.slice kbase kl kc] te (0,0)):=fun h=>(h.block bb hbb).trans hb0
 refine callsIn_of_wp Tryz.func165 rfl trivial ?_ rfl
 simp only[Tryz.ntmps165,List.size_toArray,List.length_cons,List.length_nil,Nat.reduceAdd,Nat.reduceSub,Array.replicate_succ,Array.replicate_zero,List.push_toArray,List.append_toArray,List.nil_append,List.cons_append]
 have hb3:W.cell? ⟨bb,3,none⟩=some (.slice ubase ul uc):=by simp[World.cell?,hb0]
 gi_wp2
 gi_loopw [14] (fun i wr=>∃k:Nat,k≤ul∧i=.int .i64 k∧J (upE eU k) wr∧Below n₀ W wr)
  (fun i _=>ul-(intOf i).toNat)
 case atStart=>exact⟨0,Nat.zero_le _,rfl,h0,Below.refl _ _⟩
 case round =>
  obtain⟨k,hk,rfl,hJs,hnx⟩:=hrel
  by_cases hlt:k<ul
  ·obtain⟨rfl,hlu⟩:=hub (by omega)
   have hu1:=(hnx.cell (p:=⟨ub,uo+k*2,none⟩) hlu).trans (hU k hlt).1
   have hu2:=(hnx.cell (p:=⟨ub,uo+k*2+1,none⟩) hlu).trans (hU k hlt).2
   have ht':=(hnx.cell (p:=⟨tb,0,none⟩) htb).trans ht
   have hta:∀o,(wr.alloc o).cell? ⟨tb,0,none⟩=some (.func (.func 163) #[] #[.pointer (some ⟨sb,0,none⟩)]):=fun o=>Lib.cell?_alloc_some _ ht'
   gi_wp2
   refine⟨trivial,(cU k hlt _ (bel hnx (grown_alloc _ _))).mono ?_⟩
   rintro e W2 ⟨rfl,hg2⟩
   obtain⟨fn,tmps,assign,body,hy,hR⟩:=hY _ (eU k) W2 (hJ _ _ _ (hJ _ _ _ hJs (grown_alloc _ _)) hg2) (by rw[apw]; omega)
   have hb2:=bel (bel hnx (grown_alloc _ _)) hg2
   gi_wp2
   refine hR.mono ?_
   rintro e W3 (⟨rfl,hJ3,hk3⟩|⟨rfl,hJx3⟩)
   ·gi_wp2
    go_roundw
    case rel=>exact⟨k+1,by omega,by simp,by rw[aiN]; exact hJ3,hb2.trans hk3⟩
    case measure=>simp[intOf]; omega
   ·gi_wp2
    refine bodyPost_ret (results_none rfl _ _ _) rfl ?_
    refine⟨⟨_,rfl⟩,.inr ⟨_,?_,hJx3⟩⟩
    rw[←aiN]
    exact(aBh eU (by omega)).trans (List.prefix_append _ _)
  ·obtain rfl:ul=k:=by omega
   have hb4:wr.cell? ⟨bb,4,none⟩=some (.slice lbase ll lc):=by simp[World.cell?,hc hnx]
   gi_wp2
   gi_loopw [31] (fun i wr=>∃k:Nat,k≤ll∧i=.int .i64 k∧J (upE eU ul++upE eL k) wr∧Below n₀ W wr)
    (fun i _=>ll-(intOf i).toNat)
   case atStart=>exact⟨0,Nat.zero_le _,rfl,by simpa[upE] using hJs,hnx⟩
   case round =>
    clear hJs hnx
    obtain⟨k,hk,rfl,hJs,hnx⟩:=hrel
    by_cases hlt:k<ll
    ·have q0:wr.cell? ⟨bb,0,none⟩=some flo:=by simp[World.cell?,hc hnx]
     have q1:wr.cell? ⟨bb,1,none⟩=some fhi:=by simp[World.cell?,hc hnx]
     have q2:wr.cell? ⟨bb,2,none⟩=some ga:=by simp[World.cell?,hc hnx]
     have q3:wr.cell? ⟨bb,3,none⟩=some (.slice ubase ul uc):=by simp[World.cell?,hc hnx]
     have q4:wr.cell? ⟨bb,4,none⟩=some (.slice lbase ll lc):=by simp[World.cell?,hc hnx]
     have q5:wr.cell? ⟨bb,5,none⟩=some (.slice cbase cl cc):=by simp[World.cell?,hc hnx]
     have q6:wr.cell? ⟨bb,6,none⟩=some (.slice kbase kl kc):=by simp[World.cell?,hc hnx]
     have hs':=(hnx.cell (p:=⟨sb,0,none⟩) hsb).trans hs
     gi_wp2
     refine⟨trivial,(cL k hlt _ hnx).mono ?_⟩
     rintro e W2 ⟨rfl,hg2⟩
     obtain⟨fn,tmps,assign,body,hy,hR⟩:=hY _ (eL k) W2 (hJ _ _ _ hJs hg2) (by simp only[List.length_append,apw]; omega)
     have hb2:=bel hnx hg2
     gi_wp2
     refine hR.mono ?_
     rintro e W3 (⟨rfl,hJ3,hk3⟩|⟨rfl,hJx3⟩)
     ·gi_wp2
      go_roundw
      case rel=>exact⟨k+1,by omega,by simp,by rw[aiN,←List.append_assoc]; exact hJ3,hb2.trans hk3⟩
      case measure=>simp[intOf]; omega
     ·gi_wp2
      refine bodyPost_ret (results_none rfl _ _ _) rfl ?_
      refine⟨⟨_,rfl⟩,.inr ⟨_,?_,hJx3⟩⟩
      rw[List.append_assoc,←aiN]
      exact(List.prefix_append_right_inj _).2 ((aBh eL (by omega)).trans (List.prefix_append _ _))
    ·obtain rfl:ll=k:=by omega
     have hb5:wr.cell? ⟨bb,5,none⟩=some (.slice cbase cl cc):=by simp[World.cell?,hc hnx]
     gi_wp2
     gi_loopw [45] (fun i wr=>∃k:Nat,k≤cl∧i=.int .i64 k∧J (upE eU ul++upE eL ll++upE eC k) wr∧Below n₀ W wr)
      (fun i _=>cl-(intOf i).toNat)
     case atStart=>exact⟨0,Nat.zero_le _,rfl,by simpa[upE] using hJs,hnx⟩
     case round =>
      clear hJs hnx
      obtain⟨k,hk,rfl,hJs,hnx⟩:=hrel
      by_cases hlt:k<cl
      ·have q0:wr.cell? ⟨bb,0,none⟩=some flo:=by simp[World.cell?,hc hnx]
       have q1:wr.cell? ⟨bb,1,none⟩=some fhi:=by simp[World.cell?,hc hnx]
       have q2:wr.cell? ⟨bb,2,none⟩=some ga:=by simp[World.cell?,hc hnx]
       have q3:wr.cell? ⟨bb,3,none⟩=some (.slice ubase ul uc):=by simp[World.cell?,hc hnx]
       have q4:wr.cell? ⟨bb,4,none⟩=some (.slice lbase ll lc):=by simp[World.cell?,hc hnx]
       have q5:wr.cell? ⟨bb,5,none⟩=some (.slice cbase cl cc):=by simp[World.cell?,hc hnx]
       have q6:wr.cell? ⟨bb,6,none⟩=some (.slice kbase kl kc):=by simp[World.cell?,hc hnx]
       have hs':=(hnx.cell (p:=⟨sb,0,none⟩) hsb).trans hs
       gi_wp2
       refine⟨trivial,(cC k hlt _ hnx).mono ?_⟩
       rintro e W2 ⟨rfl,hg2⟩
       obtain⟨fn,tmps,assign,body,hy,hR⟩:=hY _ (eC k) W2 (hJ _ _ _ hJs hg2) (by simp only[List.length_append,apw]; omega)
       have hb2:=bel hnx hg2
       gi_wp2
       refine hR.mono ?_
       rintro e W3 (⟨rfl,hJ3,hk3⟩|⟨rfl,hJx3⟩)
       ·gi_wp2
        go_roundw
        case rel=>exact⟨k+1,by omega,by simp,by rw[aiN,←List.append_assoc]; exact hJ3,hb2.trans hk3⟩
        case measure=>simp[intOf]; omega
       ·gi_wp2
        refine bodyPost_ret (results_none rfl _ _ _) rfl ?_
        refine⟨⟨_,rfl⟩,.inr ⟨_,?_,hJx3⟩⟩
        rw[List.append_assoc,←aiN]
        exact by rw[List.append_assoc]; exact(List.prefix_append_right_inj _).2 ((List.prefix_append_right_inj _).2 ((aBh eC (by omega)).trans (List.prefix_append _ _)))
      ·obtain rfl:cl=k:=by omega
       have hb6:wr.cell? ⟨bb,6,none⟩=some (.slice kbase kl kc):=by simp[World.cell?,hc hnx]
       gi_wp2
       gi_loopw [59] (fun i wr=>∃k:Nat,k≤kl∧i=.int .i64 k∧J ((upE eU ul++upE eL ll++upE eC cl)++upE eK k) wr∧Below n₀ W wr)
        (fun i _=>kl-(intOf i).toNat)
       case atStart=>exact⟨0,Nat.zero_le _,rfl,by simpa[upE] using hJs,hnx⟩
       case round =>
        clear hJs hnx
        obtain⟨k,hk,rfl,hJs,hnx⟩:=hrel
        by_cases hlt:k<kl
        ·obtain⟨rfl,hlk⟩:=hkb (by omega)
         have hu1:=(hnx.cell (p:=⟨kb,ko+k*2,none⟩) hlk).trans (hK k hlt).1
         have hu2:=(hnx.cell (p:=⟨kb,ko+k*2+1,none⟩) hlk).trans (hK k hlt).2
         have ht':=(hnx.cell (p:=⟨tb,0,none⟩) htb).trans ht
         have hta:∀o,(wr.alloc o).cell? ⟨tb,0,none⟩=some (.func (.func 163) #[] #[.pointer (some ⟨sb,0,none⟩)]):=fun o=>Lib.cell?_alloc_some _ ht'
         gi_wp2
         refine⟨trivial,(cK k hlt _ (bel hnx (grown_alloc _ _))).mono ?_⟩
         rintro e W2 ⟨rfl,hg2⟩
         obtain⟨fn,tmps,assign,body,hy,hR⟩:=hY _ (eK k) W2 (hJ _ _ _ (hJ _ _ _ hJs (grown_alloc _ _)) hg2) (by simp only[List.length_append,apw]; omega)
         have hb2:=bel (bel hnx (grown_alloc _ _)) hg2
         gi_wp2
         refine hR.mono ?_
         rintro e W3 (⟨rfl,hJ3,hk3⟩|⟨rfl,hJx3⟩)
         ·gi_wp2
          go_roundw
          case rel=>exact⟨k+1,by omega,by simp,by rw[aiN,←List.append_assoc]; exact hJ3,hb2.trans hk3⟩
          case measure=>simp[intOf]; omega
         ·gi_wp2
          refine bodyPost_ret (results_none rfl _ _ _) rfl ?_
          refine⟨⟨_,rfl⟩,.inr ⟨_,?_,hJx3⟩⟩
          rw[List.append_assoc,←aiN,List.append_assoc,List.append_assoc]
          exact(List.prefix_append_right_inj _).2 ((List.prefix_append_right_inj _).2 ((List.prefix_append_right_inj _).2 (aBh eK (by omega))))
        ·obtain rfl:kl=k:=by omega
         gi_wp2
         go_end0
         exact⟨⟨_,rfl⟩,.inl ⟨_,rfl,by simpa[List.append_assoc] using hJs⟩⟩
end Go.Proofs
end
noncomputable section
set_option maxRecDepth 100000
namespace Go.Proofs.ZzM
open Go Go.Am Go.RowKit
def aTi (p:String):Code:=.region 10 #[{dst:=some 5,op:=.assign (.tmp 49),type:=34,pos:=p,after:=#[],guard:=none}] false
def a0z (q r:String):Code:=.block 1 (.seq (.region 11 #[{dst:=some 50,op:=.move (.tmp 5),type:=34,pos:=q,after:=#[],guard:=none},{dst:=some 51,op:=.binOp .neq 34 (.tmp 50) (.const (.int .i64 0)) 34,type:=4,pos:=q,after:=#[{on:=0,ground:=.data}],guard:=none}] false)
 (.cond (.tmp 51) (.seq (.region 12 #[{dst:=some 52,op:=.move (.tmp 5),type:=34,pos:=r,after:=#[],guard:=none},{dst:=none,op:=.store 34 (.tmp 2) (.tmp 52),type:=0,pos:=r,after:=#[{on:=0,ground:=.data},{on:=0,ground:=.phase}],guard:=none}] false) .ret) .skip))
section
variable {P:Program} {F:Fence} {n:Nat}
theorem atU {ops:Array Oper} {i d:Nat} {o:Oper} {u:Value} {w w':World} {a:Act} {next:Act→World→Prop} {Q:Exit→Act→World→Prop} (hF:∀f,F.fn f) (ho:ops[i]?=some o) (hg:o.guard=none) (hd:o.dst=some d) (hdf:∀c,o.op≠.defer c)
 (hrun:(execOp a.eval o).run P w=.ok (.value u) w') (k:next (a.put (some d) u) w'):wpOpIn F n P ops Q i next a w:=by
 unfold wpOpIn
 rw[ho]
 have hw:Region.wanted o (yielded ops a.tmps)=true:=by simp[Region.wanted,hg]
 simp only[hw,if_true]
 refine⟨fun _ _=>hF _,?_⟩
 rw[Oper.semAt_eq _ _ _ hdf,hrun]
 rw[←hd] at k
 exact k
theorem aUK {ops:Array Oper} {i:Nat} {o:Oper} {w w':World} {a:Act} {next:Act→World→Prop} {Q:Exit→Act→World→Prop} (hF:∀f,F.fn f) (ho:ops[i]?=some o) (hg:o.guard=none) (hd:o.dst=none) (hdf:∀c,o.op≠.defer c)
 (hrun:(execOp a.eval o).run P w=.ok .skip w') (k:next a w'):wpOpIn F n P ops Q i next a w:=by
 unfold wpOpIn
 rw[ho]
 have hw:Region.wanted o (yielded ops a.tmps)=true:=by simp[Region.wanted,hg]
 simp only[hw,if_true]
 refine⟨fun _ _=>hF _,?_⟩
 rw[Oper.semAt_eq _ _ _ hdf,hrun]
 show next (a.put o.dst undef) w'
 rw[hd]
 exact k
end
theorem aef (T:Array Value) (i j:Nat) (v:Value):(T.setIfInBounds i v).getD j undef=if i=j∧i<T.size then v else T.getD j undef:=by
 simp only[Array.getD_eq_getD_getElem?,Array.getElem?_setIfInBounds]
 by_cases h:i=j
 ·subst h
  by_cases h2:i<T.size
  ·simp[h2]
  ·simp[h2]
 ·simp[h]
def aTD (D:Nat):Deferred:={target:=.collected D,args:=#[]}
structure Put1 (n₀ rb:Nat) (x:Int) (w W:World):Prop where
 os:W.os=w.os
 tape:W.tape=w.tape
 output:W.output=w.output
 size:w.heap.size≤W.heap.size
 block:∀k,k<n₀→k≠rb→W.heap[k]?=w.heap[k]?
 cell:∃e,W.heap[rb]?=some (.cells #[.int .i64 x] e (0,0))
set_option maxHeartbeats 4000000 in
theorem a05 {a:Act} {w:World} {Q:Exit→Act→World→Prop} {lb:Array Value} {L:List Int} {rb:Nat} {e0:TypeId} {v0:Value} {p q r:String}
 (hseq:SeqStopsK Fence.wide 1 Tryz.prog 165 lb (fun x:Int=>#[.int .i64 x]) (Below w.heap.size) (fun xs=>xs=L) (fun pre=>pre <+: L) L.length w)
 (hg:a.tmps.getD 48 undef=.func (.func 165) #[] lb) (h2:a.tmps.getD 2 undef=.pointer (some ⟨rb,0,none⟩)) (hsz:78≤a.tmps.size)
 (hrb:w.heap[rb]?=some (.cells #[v0] e0 (0,0)))
 (hdone:∀D W,(∀x∈L,x=0)→Below w.heap.size w W→w.heap.size≤D→W.heap[D]?=some (.deferred (some []))→Q .normal {a with defers:=aTD D::a.defers} W)
 (hstop:∀D W x,L.find? (fun e=>e != 0)=some x→Put1 w.heap.size rb x w W→w.heap.size≤D→W.heap[D]?=some (.deferred (some []))→Q .ret {a with defers:=aTD D::a.defers} W) :
 (Code.rangeFunc (.tmp 48) #[49] (aTi p) (a0z q r)).wpIn Fence.wide 2 Tryz.prog Q a w:=by
 have hT:∀f,Fence.wide.fn f:=fun _=>trivial
 have hrl:=Ķ hrb
 refine wpIn_rangeFunc_ownF (α:=Int) (encs:=fun x=>#[.int .i64 x]) (Kp:=Below w.heap.size) (S:=fun xs=>xs=L) (Sp:=fun pre=>pre <+: L) (N:=L.length) (w0:=w) rfl (by omega) hg trivial (fun args w=>?eg) hseq
  (fun h k=>h.trans k) (fun W l o o' hl ho hc hw=>belowK_b (Nat.le_refl _) W l o o' hl ho hc hw) (Below.refl _ _) (fun _=>rfl)
  (fun pre W=>(∀x∈pre,x=0)∧Below w.heap.size w W)
  (fun c pre W=>c=.ret∧∃pre' x,pre=pre'++[x]∧(∀x∈pre',x=0)∧x≠0∧Put1 w.heap.size rb x w W)
  ?hI ?hIx ⟨by simp,Below.refl _ _⟩ (fun x=>{tmps:=(a.tmps.setIfInBounds 49 (.int .i64 x)).setIfInBounds 5 (.int .i64 x),defers:=[]}) ?hassign ?hbody ?hdone ?hstop
 case eg=>simp[callFunc,Sem.run_bind,run_program,Result.andThen_ok,Tryz.func165,plain 165 _ Tryz.func165,show Tryz.f165.body.isNone=false from rfl]; rfl
 case hI =>
  intro s W W' row ⟨h1,h2⟩ hgr hr
  exact⟨h1,hgr.os.trans h2.os,hgr.tape.trans h2.tape,hgr.output.trans h2.output,Nat.le_trans h2.size hgr.size,fun k hk=>(hgr.block k (Nat.lt_of_lt_of_le hk h2.size) (fun e=>by have:=(hr k e.symm).1; omega)).trans (h2.block k hk)⟩
 case hIx =>
  intro c s W W' row ⟨h1,pre',x,h3,h4,h5,h6⟩ hgr hr
  have hb:∀k,k<w.heap.size→W'.heap[k]?=W.heap[k]?:=fun k hk=>hgr.block k (Nat.lt_of_lt_of_le hk h6.size) (fun e=>by have:=(hr k e.symm).1; omega)
  exact⟨h1,pre',x,h3,h4,h5,hgr.os.trans h6.os,hgr.tape.trans h6.tape,hgr.output.trans h6.output,Nat.le_trans h6.size hgr.size,fun k hk hne=>(hb k hk).trans (h6.block k hk hne),by
   obtain⟨e,he⟩:=h6.cell
   exact⟨e,(hb rb hrl).trans he⟩⟩
 case hassign =>
  intro l x W K hK
  have hf:((#[49]:Array Tmp).zip #[Value.int .i64 x]).foldl (fun t (p,v)=>t.setIfInBounds p v) a.tmps=a.tmps.setIfInBounds 49 (.int .i64 x):=by simp
  rw[hf]
  refine wpIn_region ?_
  rw[show ∀o:Oper,List.range (#[o]:Array Oper).size=[0] from fun _=>rfl,wpOpsIn_cons]
  refine atU (d:=5) (u:=.int .i64 x) (w':=W) hT rfl rfl rfl (by simp) ?_ hK
  show Result.ok (Next.value ((a.tmps.setIfInBounds 49 (.int .i64 x)).getD 49 undef)) W=_
  rw[aef,if_pos ⟨rfl,by omega⟩]
 case hbody =>
  intro l pre x W ⟨h1,hbel⟩ hpre
  refine wpIn_block (wpIn_seq (wpIn_region ?_))
  rw[show ∀o p:Oper,List.range (#[o,p]:Array Oper).size=[0,1] from fun _ _=>rfl,wpOpsIn_cons]
  refine atU (d:=50) (u:=.int .i64 x) (w':=W) hT rfl rfl rfl (by simp) (by
   show Result.ok (Next.value (((a.tmps.setIfInBounds 49 (.int .i64 x)).setIfInBounds 5 (.int .i64 x)).getD 5 undef)) W=_
   rw[aef,if_pos ⟨rfl,by simp; omega⟩]) ?_
  rw[wpOpsIn_cons]
  refine atU (d:=51) (u:=.bool (x != 0)) (w':=W) hT rfl rfl rfl (by simp) (by
   show((do let u ←(do eqGuard .neq 34 (.tmp 50) (.const (.int .i64 0)) ((((a.tmps.setIfInBounds 49 (.int .i64 x)).setIfInBounds 5 (.int .i64 x)).setIfInBounds 50 (.int .i64 x)).getD 50 undef) (.int .i64 0); binOp .neq 34 ((((a.tmps.setIfInBounds 49 (.int .i64 x)).setIfInBounds 5 (.int .i64 x)).setIfInBounds 50 (.int .i64 x)).getD 50 undef) (.int .i64 0)); pure (.value u)):Sem Next).run Tryz.prog W=_
   rw[aef,if_pos ⟨rfl,by simp; omega⟩]
   simp[eqGuard,binOp,Op.intCmp]) ?_
  show Code.wpIn (Fence.wide.inRound l) (2-1-1) Tryz.prog (Code.cond (.tmp 51) _ .skip) _ {tmps:=((((a.tmps.setIfInBounds 49 (.int .i64 x)).setIfInBounds 5 (.int .i64 x)).setIfInBounds 50 (.int .i64 x)).setIfInBounds 51 (.bool (x != 0))),defers:=[]} W
  obtain⟨T,hTd⟩:∃T,T=((((a.tmps.setIfInBounds 49 (.int .i64 x)).setIfInBounds 5 (.int .i64 x)).setIfInBounds 50 (.int .i64 x)).setIfInBounds 51 (.bool (x != 0))):=⟨_,rfl⟩
  rw[←hTd]
  have t51:T.getD 51 undef=.bool (x != 0):=by rw[hTd,aef,if_pos ⟨rfl,by simp; omega⟩]
  have t5:T.getD 5 undef=.int .i64 x:=by rw[hTd,aef,if_neg (by simp),aef,if_neg (by simp),aef,if_pos ⟨rfl,by simp; omega⟩]
  have t2:T.getD 2 undef=.pointer (some ⟨rb,0,none⟩):=by rw[hTd,aef,if_neg (by simp),aef,if_neg (by simp),aef,if_neg (by simp),aef,if_neg (by simp),h2]
  have tsz:78≤T.size:=by rw[hTd]; simpa using hsz
  clear hTd
  by_cases hx:x=0
  ·have e51:Act.eval {tmps:=T,defers:=[]} (.tmp 51)=.bool false:=t51.trans (by simp[hx])
   refine wpIn_cond_false e51 (wpIn_skip ?_)
   simp only[Exit.inBlock,ownPostK]
   exact⟨KeepsOthers.refl _,Below.refl _ _,fun y hy=>(List.mem_append.1 hy).elim (h1 y) (fun h=>by rw[List.mem_singleton] at h; rw[h,hx]),hbel⟩
  ·have e51:Act.eval {tmps:=T,defers:=[]} (.tmp 51)=.bool true:=t51.trans (by simp[hx])
   refine wpIn_cond_true e51 (wpIn_seq (wpIn_region ?_))
   rw[show ∀o p:Oper,List.range (#[o,p]:Array Oper).size=[0,1] from fun _ _=>rfl,wpOpsIn_cons]
   have e5:(execOp (Act.eval {tmps:=T,defers:=[]}) {dst:=some 52,op:=.move (.tmp 5),type:=34,pos:=r,after:=#[],guard:=none}).run Tryz.prog W=.ok (.value (.int .i64 x)) W:=by
    show Result.ok (Next.value (T.getD 5 undef)) W=_
    rw[t5]
   refine atU (d:=52) (u:=.int .i64 x) (w':=W) hT rfl rfl rfl (by simp) e5 ?_
   rw[wpOpsIn_cons]
   have hW:W.heap[rb]?=some (.cells #[v0] e0 (0,0)):=(hbel.block rb hrl).trans hrb
   letI:ò:=⟨fun _=>False,[],none⟩
   have hst:=anA (P:=Tryz.prog) (w:=W) (t:=34) (u:=.int .i64 x) (n:=1) (b:=rb) (o:=0) (by kernel_rfl) rfl hW (by simp) (by simp[Value.cells,Value.oneCell'])
   have hst':(storeVar 34 ⟨rb,0,none⟩ (.int .i64 x)).run Tryz.prog W=.ok () (W.setRow rb #[.int .i64 x]):=by simpa[Value.cells] using hst
   have t52:(T.setIfInBounds 52 (.int .i64 x)).getD 52 undef=.int .i64 x:=by rw[aef,if_pos ⟨rfl,by omega⟩]
   have t2':(T.setIfInBounds 52 (.int .i64 x)).getD 2 undef=.pointer (some ⟨rb,0,none⟩):=by rw[aef,if_neg (by simp),t2]
   have e6:(execOp (Act.eval {tmps:=T.setIfInBounds 52 (.int .i64 x),defers:=[]}) {dst:=none,op:=.store 34 (.tmp 2) (.tmp 52),type:=0,pos:=r,after:=#[{on:=0,ground:=.data},{on:=0,ground:=.phase}],guard:=none}).run Tryz.prog W=.ok .skip (W.setRow rb #[.int .i64 x]):=by
    show((do Instr.storeAt 34 ((T.setIfInBounds 52 (.int .i64 x)).getD 2 undef) ((T.setIfInBounds 52 (.int .i64 x)).getD 52 undef); pure .skip):Sem Next).run Tryz.prog W=_
    rw[t52,t2']
    simp[Instr.storeAt,Instr.sureAddr,hst']
   refine aUK (w':=W.setRow rb #[.int .i64 x]) hT rfl rfl rfl (by simp) e6 ?_
   refine wpIn_ret ?_
   simp only[Exit.inBlock,ownPostK]
   refine⟨⟨by simp,fun k o hk ho=>?_⟩,trivial,pre,x,rfl,h1,hx,hbel.os,hbel.tape,hbel.output,by simpa using hbel.size,fun k hk hne=>(setRow_other _ _ _ _ hne).trans (hbel.block k hk),⟨_,setRow_heap _ _ _ _ _ _ hW⟩⟩
   by_cases hk2:k=rb
   ·subst hk2; rw[hW] at hk; cases hk; simp[Obj.isCells] at ho
   ·rw[setRow_other _ _ _ _ hk2]; exact hk
 case hdone =>
  intro D xs W hD hS ⟨h1,hbel⟩ hDo
  subst hS
  exact hdone D W h1 hbel hD hDo
 case hstop =>
  intro D c pre W hD hS ⟨hc,pre',x,h3,h4,h5,h6⟩ hDo
  subst hc
  refine wpIn_ret (hstop D W x ?_ h6 hD hDo)
  obtain⟨t,rfl⟩:=hS
  rw[h3,List.append_assoc,List.find?_append]
  have:List.find? (fun e=>e != 0) pre'=none:=List.find?_eq_none.2 fun y hy=>by simp[h4 y hy]
  rw[this]
  simp[h5]
end Go.Proofs.ZzM
end
noncomputable section
set_option maxRecDepth 100000
namespace Go.Proofs.ZzM
open Go Go.Am Go.RowKit
def fstC:Code→Code
 |.seq a _=>a
 |c=>c
def sndC:Code→Code
 |.seq _ b=>b
 |c=>c
def aWI:Nat→Code→Code
 |0,c=>fstC c
 |n+1,c=>aWI n (sndC c)
def aZP:Nat→Code→Code
 |0,c=>c
 |n+1,c=>aZP n (sndC c)
def ckB:Code:=Tryz.f38.body.getD .skip
def ckA5:Code:=fstC (aZP 5 ckB |> fstC)
def ckRF:Code:=sndC (aZP 5 ckB |> fstC)
def aJs:Code:=sndC (aZP 5 ckB)
def ckPre:Code:=.seq (aWI 0 ckB) (.seq (aWI 1 ckB) (.seq (aWI 2 ckB) (.seq (aWI 3 ckB) (.seq (aWI 4 ckB) ckA5))))
theorem a0O:Tryz.f38.body=some (.seq (aWI 0 ckB) (.seq (aWI 1 ckB) (.seq (aWI 2 ckB) (.seq (aWI 3 ckB) (.seq (aWI 4 ckB) (.seq (.seq ckA5 ckRF) aJs)))))):=by kernel_rfl
def ck_pt:List (Nat×Ö):=[(85,atS),(53,asf),(82,akx),(83,anK)]
def ckE (ρ:Type):Env ρ:=Ø ck_pt []
abbrev ckR:Type:=Int ⊕ (List AV×List Blk)
def aXR (S:St):Option Int:=match ah0 Tryz.prog Tryz.f38 S with
 |some v=>Ă [tI] S.h v
 |none=>none
def ckK (e:Exit) (S:St):Option ckR:=match e with
 | .ret => match aXR S with
   |some n=>some (.inl n)
   |none=>none
 | .normal => match decide (78 ≤ S.t.length) with
   |true=>some (.inr ([lk S.t 1,lk S.t 2,lk S.t 48],S.h))
   |false=>none
 |_=>none
def ckH (x:Val Ä) (s:Val (.map tI Ð)) (n:Int):List Blk :=
 [.cells (flat Ä x),.cells [.int .i64 n],.cells (flat Ä x),.cells [.mp tI Ð s],.cells [.fn (.func 163) [] [.box 3 0]]]
def ckM (x:Val Ä):Option ckR :=
 Â (Ž x.1 (0:Int) (1000000:Int)) fun r1=>ifb (!r1) (some (.inl 1)) (ifb (igt (Ü x.2.1) (12:Int)) (some (.inl 2)) (ifb (igt (Ü x.2.2.1) (40:Int)) (some (.inl 2)) (ifb (igt (Ü x.2.2.2.1) (12:Int)) (some (.inl 2)) (ifb (igt (Ü x.2.2.2.2.1) (40:Int)) (some (.inl 2)) (ifb (igt (Ü x.2.2.2.2.2) (10:Int)) (some (.inl 2))
  (Â (ů x) fun r2=>ifb (ine r2 (0:Int)) (some (.inl r2)) (Â (Μ x) fun r3=>some (.inr ([.box 0 0,.box 1 0,.fn (.func 165) [] [.box 2 0,.box 4 0,.box 3 0]],ckH x r3 0)))))))))
theorem ck_pre (x:Val Ä):goC (ckE ckR) (aeE (ckE ckR) 10) 38 [] 0 0 ckPre {t:=ý [Ä] x++List.replicate 77 .any,h:=[]} ckK=ckM x:=by kernel_rfl
def aZ1 (ρ:Type):Env ρ:={ckE ρ with inl:=fun _=>false}
def ckS (x:Val Ä):Option Int :=
 Â (aiF x) fun r5=>ifb (igt (Ü r5) (59:Int)) (some (2:Int)) (ck ((2:Int)*(Ü x.2.1)) fun n6=>ck ((Ü r5)-(Ü x.2.1)) fun n7=>ck ((2:Int)*n7) fun n8=>ck (n6+n8) fun n9=>ck ((2:Int)*(Ü x.2.2.2.2.1)) fun n10=>ck (n9+n10) fun n11=>ifb (igt n11 (300:Int)) (some (2:Int)) (some (0:Int)))
def ckK2 (e:Exit) (S:St):Option Int:=match e with
 | .ret => match lk S.t 2 with
   | .box 1 0 => match lkB S.h 1 with
     |.cells [.int .i64 n]=>some n
     |_=>none
   |_=>none
 |_=>none
theorem ck_suf (x:Val Ä) (s:Val (.map tI Ð)):goC (aZ1 Int) (aeE (aZ1 Int) 10) 38 [] 0 0 aJs {t:=[.any,.box 0 0,.box 1 0]++List.replicate 75 .any,h:=ckH x s 0} ckK2=ckS x:=by kernel_rfl
theorem aZ0 (x:Val Ä):ö x=match ckM x with
 |none=>none
 |some (.inl n)=>some n
 |some (.inr _)=>Â (Μ x) fun s=>aNJ (agQ x s) some (ckS x):=by
 unfold ö aEO ckM ckS
 cases Ž x.1 (0:Int) (1000000:Int) with
 |none=>rfl
 |some r1 =>
 cases r1 with
 |false=>rfl
 |true =>
 simp only[Â,ifb,Bool.not_true]
 cases igt (Ü x.2.1) (12:Int) with
 |true=>rfl
 |false =>
 cases igt (Ü x.2.2.1) (40:Int) with
 |true=>rfl
 |false =>
 cases igt (Ü x.2.2.2.1) (12:Int) with
 |true=>rfl
 |false =>
 cases igt (Ü x.2.2.2.2.1) (40:Int) with
 |true=>rfl
 |false =>
 cases igt (Ü x.2.2.2.2.2) (10:Int) with
 |true=>rfl
 |false =>
 cases ů x with
 |none=>rfl
 |some r2 =>
 simp only
 cases ine r2 (0:Int) with
 |true=>rfl
 |false =>
 cases Μ x with
 |none=>rfl
 |some r3=>rfl
theorem a1F {x:Val Ä} {q:List AV×List Blk} (h:ckM x=some (.inr q)):((x.2.2.1:List (Val Ã)).length≤1000∧(x.2.2.2.1:List (Val Ł)).length≤1000∧(x.2.2.2.2.1:List (Val Ê)).length≤1000∧(x.2.2.2.2.2:List (Val Ã)).length≤1000) ∧
 ∃s,Μ x=some s∧q=([.box 0 0,.box 1 0,.fn (.func 165) [] [.box 2 0,.box 4 0,.box 3 0]],ckH x s 0):=by
 unfold ckM at h
 cases h0:Ž x.1 (0:Int) (1000000:Int) with
 |none=>rw[h0] at h; cases h
 |some r1 =>
 rw[h0] at h
 cases r1 with
 |false=>cases h
 |true =>
 simp only[Â,ifb,Bool.not_true] at h
 cases h1:igt (Ü x.2.1) (12:Int) with
 |true=>rw[h1] at h; cases h
 |false =>
 rw[h1] at h
 cases h2:igt (Ü x.2.2.1) (40:Int) with
 |true=>rw[h2] at h; cases h
 |false =>
 rw[h2] at h
 cases h3:igt (Ü x.2.2.2.1) (12:Int) with
 |true=>rw[h3] at h; cases h
 |false =>
 rw[h3] at h
 cases h4:igt (Ü x.2.2.2.2.1) (40:Int) with
 |true=>rw[h4] at h; cases h
 |false =>
 rw[h4] at h
 cases h5:igt (Ü x.2.2.2.2.2) (10:Int) with
 |true=>rw[h5] at h; cases h
 |false =>
 rw[h5] at h
 cases h6:ů x with
 |none=>rw[h6] at h; cases h
 |some r2 =>
 rw[h6] at h
 simp only at h
 cases h7:ine r2 (0:Int) with
 |true=>rw[h7] at h; cases h
 |false =>
 rw[h7] at h
 cases h8:Μ x with
 |none=>rw[h8] at h; cases h
 |some r3 =>
 rw[h8] at h
 have lt:∀{α:Type} (l:List α) (n:Nat),igt (Ü l) (n:Int)=false→l.length≤n:=by
  intro α l n h
  unfold Ü at h
  rw[aCr] at h
  simp only[igt,gt_iff_lt,decide_eq_false_iff_not] at h
  omega
 simp only[Option.some.injEq,Sum.inr.injEq] at h
 exact⟨⟨by have:=lt x.2.2.1 40 h2; omega,by have:=lt x.2.2.2.1 12 h3; omega,by have:=lt x.2.2.2.2.1 40 h4; omega,by have:=lt x.2.2.2.2.2 10 h5; omega⟩,r3,rfl,h.symm⟩
theorem at7 {α β:Type} {f:α→Option β}:∀{l:List α} {m:List β},aCv f l=some m→m.length=l.length∧∀(i:Nat) (a:α),l[i]?=some a→∃b,m[i]?=some b∧f a=some b
 |[],m,h=>by cases h; exact⟨rfl,fun i a ha=>by simp at ha⟩
 | a :: l, m, h => by
   unfold aCv at h
   cases ha:f a with
   |none=>rw[ha] at h; cases h
   | some b =>
     rw[ha] at h
     cases hl:aCv f l with
     |none=>rw[hl] at h; cases h
     | some m' =>
       rw[hl] at h
       cases h
       obtain⟨h1,h2⟩:=at7 hl
       refine⟨by simp[h1],fun i c hc=>?_⟩
       cases i with
       |zero=>simp at hc; subst hc; exact⟨b,by simp,ha⟩
       |succ i=>simpa using h2 i c (by simpa using hc)
theorem aBi (l:List Int):upE (fun j=>l[j]?.getD 0) l.length=l:=by
 unfold upE
 refine List.ext_getElem (by simp) fun i h1 h2=>?_
 simp at h1
 simp[h1]
theorem CR.below {n₀:Nat} {w W:World} {av:Nat→Prop} (hb:Below n₀ w W) (hn:w.heap.size≤n₀) {t:Ty} {x:Val t} {vs:List Value} (h:CR w av t x vs):CR W av t x vs :=
 h.keep fun b hlt ha=>⟨hb.block b (Nat.lt_of_lt_of_le hlt hn),ha⟩
theorem aBW {w:World} {av:Nat→Prop} {xs:List (Int×Int)} {v:Value} (h:CR w av (.slice Ã) xs [v]):∃base cap b off,v=.slice base xs.length cap∧(0<xs.length→base=some ⟨b,off,none⟩∧b<w.heap.size) ∧
 ∀j,j<xs.length→w.cell? ⟨b,off+j*2,none⟩=some (.int .i64 (xs[j]?.getD (0,0)).1)∧w.cell? ⟨b,off+j*2+1,none⟩=some (.int .i64 (xs[j]?.getD (0,0)).2):=by
 obtain⟨base,cap,e,hc,hx⟩:=h
 cases e
 rcases hx with hx|⟨b,off,hb,hav,hlt,hx⟩
 ·refine⟨base,cap,0,0,rfl,fun h=>?_,fun j hj=>?_⟩
  ·rw[show xs=[] from hx] at h; simp at h
  ·rw[show xs=[] from hx] at hj; simp at hj
 ·refine⟨base,cap,b,off,rfl,fun _=>⟨hb,hlt⟩,fun j hj=>?_⟩
  obtain⟨us,h1,h2⟩:=hx j xs[j] (List.getElem?_eq_getElem hj)
  obtain⟨u1,u2,e1,h3,h4⟩:=h1
  have e3:u1=[.int .i64 xs[j].1]:=h3
  have e4:u2=[.int .i64 xs[j].2]:=h4
  subst e3 e4 e1
  have s:(Ã).size=2:=rfl
  rw[s] at h2
  have c1:=h2 0 _ rfl
  have c2:=h2 1 _ rfl
  rw[List.getElem?_eq_getElem hj]
  exact⟨by simpa using c1,by simpa[Nat.add_assoc] using c2⟩
end Go.Proofs.ZzM
end
noncomputable section
set_option maxRecDepth 100000
namespace Go.Proofs.ZzM
open Go Go.Am Go.RowKit
section
variable {w W W':World}
abbrev noG:Nat→Prop:=fun _=>False
theorem aMw (w:World) (n:Int):afa w noG tI n (.int .i64 n):=⟨[.int .i64 n],rfl,rfl⟩
theorem a1l {sb:Nat} {mv:Value} {e:TypeId} {s:Val (.map tI Ð)} (h:w.heap[sb]?=some (.cells #[mv] e (0,0))) (hm:CR w noG (.map tI Ð) s [mv]):afa w noG (.ptr (.map tI Ð)) s (.pointer (some ⟨sb,0,none⟩)):=by
 letI:ò:=⟨fun _=>False,[],none⟩
 exact⟨[.pointer (some ⟨sb,0,none⟩)],⟨sb,0,[mv],rfl,id,Ķ h,hm,ľ.of_cells h⟩,rfl⟩
theorem a06 {y:Int} {u:Value} (h:RR w noG [tI] y u):u=.int .i64 y:=by
 obtain⟨us,h1,rfl⟩:=h
 have:us=[.int .i64 y]:=h1
 rw[this]; rfl
theorem aZF (h1:∀b,b<W.heap.size→W'.heap[b]?=W.heap[b]?) (h2:W.heap.size≤W'.heap.size) (h3:W'.os=W.os) (h4:W'.tape=W.tape) (h5:W'.output=W.output):W.grownBy W' none :=
 ⟨h3,h4,h5,h2,fun b hb _=>h1 b hb⟩
theorem aMO {f:Nat} {p:Ö} (hp:Î Tryz.prog f p) (hrs:p.rs=[tI]) {x:Val (tyL p.ts)} {y:Int} (hF:p.F x=some (hrs▸(show Val (tyL [tI]) from y))) {vals:List Value} (ha:AL W noG p.ts x vals) :
 CallsIn Fence.wide 0 Tryz.prog f vals.toArray W fun e W''=>e=.returned (.int .i64 y)∧W.grownBy W'' none:=by
 obtain⟨ts,rs,F⟩:=p
 dsimp only at hrs hF ha x
 subst hrs
 refine(hp noG x y hF W vals (fun _ h=>h.elim) ha).2.mono fun e w' ⟨u,h0,h1,h2,h3,h4,h5,h6⟩=>⟨?_,aZF h2 h3 h4 h5 h6⟩
 rw[h0,a06 h1]
theorem aNi {s:Val (.map tI Ð)} {a b y:Int} (hF:ĸ a b s=some y) {sb:Nat} {mv:Value} {e:TypeId} (h:W.heap[sb]?=some (.cells #[mv] e (0,0))) (hm:CR W noG (.map tI Ð) s [mv]) :
 CallsIn Fence.wide 0 Tryz.prog 163 #[.int .i64 a,.int .i64 b,.pointer (some ⟨sb,0,none⟩)] W fun e W''=>e=.returned (.int .i64 y)∧W.grownBy W'' none :=
 aMO aSH rfl (x:=(a,b,s)) (y:=y) hF (vals:=[.int .i64 a,.int .i64 b,.pointer (some ⟨sb,0,none⟩)]) ⟨_,_,rfl,aMw _ _,_,_,rfl,aMw _ _,_,rfl,a1l h hm⟩
theorem aWX {mv:Value} {s:Val (.map tI Ð)} (hm:CR W noG (.map tI Ð) s [mv]):afa W noG (.map tI Ð) s mv:=⟨[mv],hm,rfl⟩
theorem aUe {x:Val Ä} {cs:Array Value} (hb:CR W noG Ä x cs.toList):afa W noG Ä x (.agg cs):=⟨cs.toList,hb,by show Value.agg cs=Value.agg cs.toList.toArray; rw[Array.toArray_toList]⟩
theorem aW8 {x:Val Ä} {s:Val (.map tI Ð)} {i y:Int} (hF:Γ x s i=some y) {mv:Value} {cs:Array Value} (hb:CR W noG Ä x cs.toList) (hm:CR W noG (.map tI Ð) s [mv]) :
 CallsIn Fence.wide 0 Tryz.prog 166 #[.agg cs,mv,.int .i64 i] W fun e W''=>e=.returned (.int .i64 y)∧W.grownBy W'' none :=
 aMO aMX rfl (x:=(x,s,i)) (y:=y) hF (vals:=[.agg cs,mv,.int .i64 i]) ⟨_,_,rfl,aUe hb,_,_,rfl,aWX hm,_,rfl,aMw _ _⟩
theorem aQk {x:Val Ä} {s:Val (.map tI Ð)} {i y:Int} (hF:ĺ x s i=some y) {mv:Value} {cs:Array Value} (hb:CR W noG Ä x cs.toList) (hm:CR W noG (.map tI Ð) s [mv]) :
 CallsIn Fence.wide 0 Tryz.prog 167 #[.agg cs,mv,.int .i64 i] W fun e W''=>e=.returned (.int .i64 y)∧W.grownBy W'' none :=
 aMO aBc rfl (x:=(x,s,i)) (y:=y) hF (vals:=[.agg cs,mv,.int .i64 i]) ⟨_,_,rfl,aUe hb,_,_,rfl,aWX hm,_,rfl,aMw _ _⟩
end
theorem ahZ {w:World} {av:Nat→Prop} {t:Ty} {xs:List (Val t)} {vs:List Value} (h:CR w av (.slice t) xs vs):∃base cap,vs=[.slice base xs.length cap]:=by
 obtain⟨base,cap,e,_⟩:=h
 exact⟨base,cap,e⟩
theorem aZc {x:Val Ä} {s:Val (.map tI Ð)} {l1 l2 l3 l4:List Int} (h1:aCv (fun u=>ĸ u.1 u.2 s) (x.2.2.1:List (Int×Int))=some l1) (h2:aCv (fun i=>Γ x s i) (anu (x.2.2.2.1:List (Val Ł)).length)=some l2)
 (h3:aCv (fun i=>ĺ x s i) (anu (x.2.2.2.2.1:List (Val Ê)).length)=some l3) (h4:aCv (fun u=>ĸ u.1 u.2 s) (x.2.2.2.2.2:List (Int×Int))=some l4)
 (hlen:(x.2.2.1:List (Val Ã)).length≤1000∧(x.2.2.2.1:List (Val Ł)).length≤1000∧(x.2.2.2.2.1:List (Val Ê)).length≤1000∧(x.2.2.2.2.2:List (Val Ã)).length≤1000)
 {w:World} {bb tb sb:Nat} {te te2 te3:TypeId} {cb:Array Value} {mv:Value} (hbb:w.heap[bb]?=some (.cells cb te (0,0))) (hbk:CR w noG Ä x cb.toList) (htb:w.heap[tb]?=some (.cells #[.func (.func 163) #[] #[.pointer (some ⟨sb,0,none⟩)]] te2 (0,0)))
 (hsb:w.heap[sb]?=some (.cells #[mv] te3 (0,0))) (hmv:CR w noG (.map tI Ð) s [mv]) :
 SeqStopsK Fence.wide 1 Tryz.prog 165 #[.pointer (some ⟨bb,0,none⟩),.pointer (some ⟨tb,0,none⟩),.pointer (some ⟨sb,0,none⟩)] (fun x:Int=>#[.int .i64 x]) (Below w.heap.size) (fun xs=>xs=l1++(l2++(l3++l4))) (fun pre=>pre <+: (l1++(l2++(l3++l4)))) (l1++(l2++(l3++l4))).length w:=by
 intro l J Jx W hbel hJ hJx hY h0
 obtain⟨fl,r0,e0,hfl,hr0⟩:=id hbk
 obtain⟨ga,r1,e1,hga,hr1⟩:=hr0
 obtain⟨us,r2,e2,hus,hr2⟩:=hr1
 obtain⟨lo,r3,e3,hlo,hr3⟩:=hr2
 obtain⟨co,ko,e4,hco,hko⟩:=hr3
 obtain⟨f1,f2,e5,hf1,hf2⟩:=hfl
 have e6:f1=[.int .i64 x.1.1]:=hf1
 have e7:f2=[.int .i64 x.1.2]:=hf2
 obtain⟨gab,gac,e8⟩:=ahZ hga
 obtain⟨lob,loc,e9⟩:=ahZ hlo
 obtain⟨cob,coc,e10⟩:=ahZ hco
 obtain⟨usb0,usc0,e11⟩:=ahZ hus
 obtain⟨kob0,koc0,e12⟩:=ahZ hko
 rw[e11] at hus
 rw[e12] at hko
 obtain⟨usb,usc,ub,uo,e13,hub,hU⟩:=aBW hus
 obtain⟨kob,koc,kb,kof,e14,hkb,hK⟩:=aBW hko
 rw[e13] at e11
 rw[e14] at e12
 have hcb:cb=#[.int .i64 x.1.1,.int .i64 x.1.2,.slice gab (x.2.1:List (Val Ð)).length gac,.slice usb (x.2.2.1:List (Val Ã)).length usc,.slice lob (x.2.2.2.1:List (Val Ł)).length loc,.slice cob (x.2.2.2.2.1:List (Val Ê)).length coc,.slice kob (x.2.2.2.2.2:List (Val Ã)).length koc]:=by
  rw[←Array.toList_inj,e0,e1,e2,e3,e4,e5,e6,e7,e8,e9,e10,e11,e12]
  rfl
 obtain⟨g1,q1⟩:=at7 h1
 obtain⟨g2,q2⟩:=at7 h2
 obtain⟨g3,q3⟩:=at7 h3
 obtain⟨g4,q4⟩:=at7 h4
 have gl2:l2.length=(x.2.2.2.1:List (Val Ł)).length:=by rw[g2]; simp[anu]
 have gl3:l3.length=(x.2.2.2.2.1:List (Val Ê)).length:=by rw[g3]; simp[anu]
 have up1:upE (fun j=>l1[j]?.getD 0) (x.2.2.1:List (Val Ã)).length=l1:=by rw[←g1]; exact aBi l1
 have up2:upE (fun j=>l2[j]?.getD 0) (x.2.2.2.1:List (Val Ł)).length=l2:=by rw[←gl2]; exact aBi l2
 have up3:upE (fun j=>l3[j]?.getD 0) (x.2.2.2.2.1:List (Val Ê)).length=l3:=by rw[←gl3]; exact aBi l3
 have up4:upE (fun j=>l4[j]?.getD 0) (x.2.2.2.2.2:List (Val Ã)).length=l4:=by rw[←g4]; exact aBi l4
 have at1:∀{xs:List (Int×Int)} {ls:List Int},(∀(i:Nat) (a:Int×Int),xs[i]?=some a→∃b,ls[i]?=some b∧ĸ a.1 a.2 s=some b)→∀j,j<xs.length→ĸ (xs[j]?.getD (0,0)).1 (xs[j]?.getD (0,0)).2 s=some (ls[j]?.getD 0):=by
  intro xs ls hq j hj
  obtain⟨b,hb,hf⟩:=hq j xs[j] (List.getElem?_eq_getElem hj)
  rw[List.getElem?_eq_getElem hj,hb]
  exact hf
 have at2:∀{n:Nat} {ls:List Int} {f:Int→Option Int},(∀(i:Nat) (a:Int),(anu n)[i]?=some a→∃b,ls[i]?=some b∧f a=some b)→∀j,j<n→f (j:Int)=some (ls[j]?.getD 0):=by
  intro n ls f hq j hj
  obtain⟨b,hb,hf⟩:=hq j j (by simp[anu,hj])
  rw[hb]; exact hf
 have hbel':∀{W':World},Below w.heap.size W W'→Below w.heap.size w W':=fun h=>hbel.trans h
 have hcell:∀{W':World} {p:Addr} {v:Value},Below w.heap.size w W'→w.cell? p=some v→p.block<w.heap.size→W'.cell? p=some v:=fun {W'} {p} {v} h hc hp=>(h.cell (p:=p) hp).trans hc
 have lb:=Ķ hbb
 have lt:=Ķ htb
 have ls:=Ķ hsb
 have:=aZj te 1 (by omega) l w.heap.size bb tb sb (.int .i64 x.1.1) (.int .i64 x.1.2) (.slice gab (x.2.1:List (Val Ð)).length gac) mv lb lt ls
  ub uo (x.2.2.1:List (Val Ã)).length usc kb kof (x.2.2.2.2.2:List (Val Ã)).length koc usb kob lob cob (x.2.2.2.1:List (Val Ł)).length loc (x.2.2.2.2.1:List (Val Ê)).length coc hub hkb
  (fun j=>(x.2.2.1:List (Int×Int))[j]?.getD (0,0)) (fun j=>(x.2.2.2.2.2:List (Int×Int))[j]?.getD (0,0)) (fun j=>l1[j]?.getD 0) (fun j=>l2[j]?.getD 0) (fun j=>l3[j]?.getD 0) (fun j=>l4[j]?.getD 0)
  hlen.1 hlen.2.1 hlen.2.2.1 hlen.2.2.2 W ((hbel.block bb lb).trans (by rw[hbb,hcb])) (hcell hbel (by simp[World.cell?,htb]) lt) (hcell hbel (by simp[World.cell?,hsb]) ls)
  (fun j hj=>⟨hcell hbel (hU j hj).1 (hub (by omega)).2,hcell hbel (hU j hj).2 (hub (by omega)).2⟩) (fun j hj=>⟨hcell hbel (hK j hj).1 (hkb (by omega)).2,hcell hbel (hK j hj).2 (hkb (by omega)).2⟩)
  (fun j hj W' hW=>aNi (at1 q1 j hj) (((hbel' hW).block sb ls).trans hsb) (CR.below (hbel' hW) (Nat.le_refl _) hmv))
  (fun j hj W' hW=>aNi (at1 q4 j hj) (((hbel' hW).block sb ls).trans hsb) (CR.below (hbel' hW) (Nat.le_refl _) hmv))
  (fun j hj W' hW=>aW8 (at2 q2 j hj) (by have:=CR.below (hbel' hW) (Nat.le_refl _) hbk; rwa [hcb] at this) (CR.below (hbel' hW) (Nat.le_refl _) hmv))
  (fun j hj W' hW=>aQk (at2 q3 j hj) (by have:=CR.below (hbel' hW) (Nat.le_refl _) hbk; rwa [hcb] at this) (CR.below (hbel' hW) (Nat.le_refl _) hmv))
  J Jx (fun pre W1 W2 hj hg=>hJ pre W1 W2 none hj hg (fun r e=>by cases e)) (fun pre W1 W2 hj hg=>hJx pre W1 W2 none hj hg (fun r e=>by cases e))
  (fun pre y W1 hj hl=>hY pre y W1 hj (by simp only[List.length_append]; omega)) h0 hbel.size
 rw[up1,up2,up3,up4] at this
 exact this
end Go.Proofs.ZzM
end
noncomputable section
set_option maxRecDepth 100000
namespace Go.Proofs.ZzM
open Go Go.Am Go.RowKit
section
variable [ò] {ρ:Type} {ν:Nat→Value} {w:World}
theorem peel (hq:ò.Q=none) {E:Env ρ} {call:List Nat→Bool→Nat→List AV→List Blk→(AV→List Blk→Option ρ)→Option ρ} {L:Nat} (hE:afG E L call) (hD:afS E L call) (hj:E.joins=fun _ _ _ _=>none) {fid:Nat} {path:List Nat} (hp:path.length+2=L) {x y c:Code} {bid n:Nat} {S:St} {K:Exit→St→Option ρ} {r:ρ} {a:Act} {Q:Exit→Act→World→Prop}
 (hL:∀z∈ê bid x,ahi E path fid z.1 z.2) (e:goC E call fid path 0 bid (.seq x y) S K=some r) (H:Sim ν S a w)
 (hn:∀ν' S' a' w',Sim ν' S' a' w'→Ev 0 ν S.h w ν' S'.h w'→goC E call fid path 0 bid y S' K=some r→c.wpIn Fence.wide n E.P Q a' w')
 (hx:∀ν' S' a' w' e,e≠.normal→Sim ν' S' a' w'→Ev 0 ν S.h w ν' S'.h w'→K e S'=some r→Q e a' w'):(Code.seq x c).wpIn Fence.wide n E.P Q a w:=by
 simp only[goC,hj] at e
 have hgo:=afx hE hD hp x bid S _ ν a w hL e H (Nat.zero_le _)
 rw[awe hq] at hgo
 refine wpIn_seq (wpIn_wide.2 (wpIn_wide.1 (wpIn_mono hgo fun e' a' w' ha=>?_)))
 obtain⟨ν',S',h1,h2,h3,h4,h5⟩:=ha
 cases e' with
 |normal=>exact hn ν' S' a' w' h1 h2 h5
 |exit id=>exact hx ν' S' a' w' _ (by simp) h1 h2 h5
 |goto l=>exact hx ν' S' a' w' _ (by simp) h1 h2 h5
 |ret=>exact hx ν' S' a' w' _ (by simp) h1 h2 h5
 |panic ch=>exact hx ν' S' a' w' _ (by simp) h1 h2 h5
 |outgrown=>exact hx ν' S' a' w' _ (by simp) h1 h2 h5
end
theorem aWm {T:Array Value} {rb:Nat} {n:Int} {e:TypeId} {W:World} (h2:T.getD 2 undef=.pointer (some ⟨rb,0,none⟩)) (hc:W.heap[rb]?=some (.cells #[.int .i64 n] e (0,0))):(results Tryz.f38 T).run Tryz.prog W=.ok (.int .i64 n) W:=by
 letI:ò:=⟨fun _=>False,[],none⟩
 have hl:(loadVar 34 ⟨rb,0,none⟩).run Tryz.prog W=.ok (.int .i64 n) W:=by
  have:=aB2 (P:=Tryz.prog) (w:=W) (t:=34) (agg:=false) (n:=1) (by kernel_rfl) (us:=[.int .i64 n]) rfl (fun _=>rfl) (a:=⟨rb,0,none⟩) (fun j v hj=>by
   have:=ľ.of_cells hc j v (by simpa using hj)
   cases j with
   |zero=>simpa[Addr.add] using this
   |succ j=>simp at hj)
  exact this
 have hr:Tryz.f38.results=#[.cell 2 34]:=by kernel_rfl
 unfold results
 rw[hr,Array.mapM_eq_mapM_toList]
 simp only[Sem.run_bind,Sem.run_map,List.mapM_cons,List.mapM_nil,h2,asAddr,Sem.run_pure,Result.andThen_ok,hl]
 rfl
theorem HR_ghost {G:Nat→Prop} {D D':List Deferred} {Q Q':Option Nat} {ν:Nat→Value} {h:List Blk} {w:World} (H:@HR ⟨G,D,Q⟩ ν h w):@HR ⟨G,D',Q'⟩ ν h w :=
 @HR.mk ⟨G,D',Q'⟩ ν h w (@HR.blk ⟨G,D,Q⟩ ν h w H) (@HR.inj ⟨G,D,Q⟩ ν h w H) (@HR.ghlt ⟨G,D,Q⟩ ν h w H) (@HR.ghne ⟨G,D,Q⟩ ν h w H)
theorem a1M [ò] {ν:Nat→Value} {h:List Blk} {w:World} {x:Val Ä} {us:List Value} (hv:Ė (VRc ν h w) (flat Ä x) us):CR w noG Ä x us:=by
 have h1:ä Ä (flat Ä x)=some x:=rfl
 have h2:Ė (VRs w (Av ν h)) (flat Ä x) us:=hv.mono fun c u hu=>hu.1.data
 exact CR.mono (fun _ hf=>hf.elim) (Ş h1 h2)
def arW (G:Nat→Prop) (y:Int) (w:World) (e:Ending) (w':World):Prop :=
 ∃u,e=.returned u∧RR w' G [tI] y u∧(∀b,b<w.heap.size→w'.heap[b]?=w.heap[b]?)∧w.heap.size≤w'.heap.size∧w'.os=w.os∧w'.tape=w.tape∧w'.output=w.output
theorem aT2 {G:Nat→Prop} {y:Int} {w0 w:World} {a:Act} {D rb:Nat} {e:TypeId} (hd:a.defers=[aTD D]) (hD:w.heap[D]?=some (.deferred (some []))) (h2:a.tmps.getD 2 undef=.pointer (some ⟨rb,0,none⟩)) (hc:w.heap[rb]?=some (.cells #[.int .i64 y] e (0,0)))
 (hb:∀b,b<w0.heap.size→w.heap[b]?=w0.heap[b]?) (hDl:w0.heap.size≤D) (hsz:w0.heap.size≤w.heap.size) (h3:w.os=w0.os) (h4:w.tape=w0.tape) (h5:w.output=w0.output):LeavesInM Fence.wide 2 Tryz.prog Tryz.f38 a.tmps (arW G y w0) a.defers .returning w:=by
 rw[hd]
 have hne:rb≠D:=fun h=>by rw[h,hD] at hc; cases hc
 have ho:∀b,b≠D→(w.putObj D (.deferred none)).heap[b]?=w.heap[b]?:=fun b hb=>by
  simp only[World.putObj,Array.getElem?_setIfInBounds]
  rw[if_neg (fun h=>hb h.symm)]
 refine⟨by simp,.inl ⟨D,_,rfl,run_takeDeferred hD,?_⟩⟩
 refine⟨.int .i64 y,aWm h2 ((ho rb hne).trans hc),.int .i64 y,rfl,⟨[.int .i64 y],rfl,rfl⟩,fun b hlt=>(ho b (by omega)).trans (hb b hlt),by simpa[World.putObj] using hsz,h3,h4,h5⟩
theorem a1G (S:St):ckK .ret S=(aXR S).map .inl:=by
 unfold ckK
 cases aXR S<;>rfl
theorem aVo (S:St):ckK .normal S=if decide (78≤S.t.length)=true then some (.inr ([lk S.t 1,lk S.t 2,lk S.t 48],S.h)) else none:=by
 unfold ckK
 cases decide (78≤S.t.length)<;>rfl
theorem ad7 [ò] {ρ:Type} {E:Env ρ} (h0:E.loops=ahy []) {path:List Nat} {fid bid:Nat} {b:Code}:ahi E path fid bid b:=fun m S K r ν a w e=>by
 rw[h0] at e
 cases e
def a1a:Code→String
 | .region _ ops _ => ((ops[0]?).map fun o => o.pos).getD ""
 | _ => ""
def rfA:Code→Code
 |.block _ (.rangeFunc _ _ a _)=>a
 |_=>.skip
def rfB:Code→Code
 |.block _ (.rangeFunc _ _ _ (.block _ (.seq a _)))=>a
 |_=>.skip
def rfC:Code→Code
 |.block _ (.rangeFunc _ _ _ (.block _ (.seq _ (.cond _ (.seq a _) _))))=>a
 |_=>.skip
theorem a1E:ckRF=Code.block 0 (Code.rangeFunc (.tmp 48) #[49] (aTi (a1a (rfA ckRF))) (a0z (a1a (rfB ckRF)) (a1a (rfC ckRF)))):=by kernel_rfl
theorem a0N:∀e∈ck_pt,Î Tryz.prog e.1 e.2:=Á aFI (Á aFH (Á aqg (Á aFK Æ)))
theorem aXS {e:Exit} {S:St} {n:Int} (h:ckK2 e S=some n):e=.ret∧lk S.t 2=.box 1 0∧lkB S.h 1=.cells [.int .i64 n]:=by
 unfold ckK2 at h
 split at h
 ·split at h
  ·rename_i h2
   split at h
   ·rename_i h3
    cases h
    exact⟨rfl,h2,h3⟩
   ·cases h
  ·cases h
 ·cases h
theorem aPU [ò] {ν:Nat→Value} {h:List Blk} {w:World} {n:Int} {id:Nat} (H:HR ν h w) (hl:lkB h id=.cells [.int .i64 n]):∃b e,ν id=.pointer (some ⟨b,0,none⟩)∧w.heap[b]?=some (.cells #[.int .i64 n] e (0,0)):=by
 have hB:=H.blk id
 rw[hl] at hB
 obtain⟨b,c,e,h1,h2,h3⟩:=hB
 obtain⟨u,h4,h5⟩:=h3.one
 have h6:u=.int .i64 n:=h5.1
 refine⟨b,e,h1,?_⟩
 rw[h2]
 have:c=#[.int .i64 n]:=by rw[←Array.toList_inj,h4,h6]
 rw[this]
theorem apm [ò] {ν:Nat→Value} {h:List Blk} {w:World} {id off:Nat} {v:Value} {b:Nat} (hv:VR ν h w (.box id off) v) (hb:ν id=.pointer (some ⟨b,0,none⟩)):v=.pointer (some ⟨b,off,none⟩):=by
 obtain⟨cs,b',h1,h2,h3⟩:=hv
 rw[hb] at h2
 cases h2
 exact h3
theorem a1D {G:Nat→Prop} {x:Val Ä} {s:Val (.map tI Ð)} {y:Int} (hS:ckS x=some y) {ν:Nat→Value} {w0 w6 W:World} {a:Act} {D:Nat} (H:@HR ⟨G,[],none⟩ ν (ckH x s 0) w6) (hb:Below w6.heap.size w6 W) (hD:w6.heap.size≤D) (hDo:W.heap[D]?=some (.deferred (some []))) (hd:a.defers=[aTD D]) (hlen:78≤a.tmps.size)
 (t1:@VR ⟨G,[],none⟩ ν (ckH x s 0) w6 (.box 0 0) (a.tmps.getD 1 undef)) (t2:@VR ⟨G,[],none⟩ ν (ckH x s 0) w6 (.box 1 0) (a.tmps.getD 2 undef))
 (h0:∀b,b<w0.heap.size→w6.heap[b]?=w0.heap[b]?∧¬aSU ν (ckH x s 0) b) (hsz:w0.heap.size≤w6.heap.size) (h3:w6.os=w0.os) (h4:w6.tape=w0.tape) (h5:w6.output=w0.output) :
 aJs.wpIn Fence.wide 2 Tryz.prog (bodyPostM Fence.wide 2 Tryz.prog Tryz.f38 (arW G y w0)) a W:=by
 have hlive:∀b,aSU ν (ckH x s 0) b→b<w6.heap.size:=fun b hl=>@HR.ltA ⟨G,[],none⟩ _ _ _ H b (.inl hl)
 have t1':∃b,ν 0=.pointer (some ⟨b,0,none⟩)∧a.tmps.getD 1 undef=.pointer (some ⟨b,0,none⟩):=by
  obtain⟨cs,b,_,h2,h3⟩:=t1
  exact⟨b,h2,h3⟩
 have t2':∃b,ν 1=.pointer (some ⟨b,0,none⟩)∧a.tmps.getD 2 undef=.pointer (some ⟨b,0,none⟩):=by
  obtain⟨cs,b,_,h2,h3⟩:=t2
  exact⟨b,h2,h3⟩
 letI:ò:=⟨G,[aTD D],none⟩
 have H1:HR ν (ckH x s 0) w6:=HR_ghost H
 have H2:HR ν (ckH x s 0) W:=(H1.grow (fun b hlt=>hb.block b hlt) hb.size hb.os hb.tape hb.output 0).2
 have hlib:aBg (aZ1 Int):=aA8 a0N (aZ1 Int) rfl rfl rfl rfl rfl (ż rfl)
 have hdraw:∀L call,afG (aZ1 Int) L call→afS (aZ1 Int) L call:=atg hmix
 have hl0:(aZ1 Int).loops=ahy []:=rfl
 have hcall:=agh (.inr fun _=>rfl) hlib hdraw (fun n hn hE path f fn c _ _ _ z _=>ad7 hl0) 10 (Nat.le_refl _)
 have hEnv:afG (aZ1 Int) 2 (aeE (aZ1 Int) 10):=⟨.inr (aiH 9),hcall,hlib.plain,hlib.clone,hlib.joins⟩
 have law:=ck_suf x s
 rw[hS] at law
 have sim:Sim ν {t:=[.any,.box 0 0,.box 1 0]++List.replicate 75 .any,h:=ckH x s 0} a W:=by
  refine⟨hd,by simpa using hlen,fun i=>?_,H2⟩
  simp only[aEQ]
  rcases i with _|_|_|i
  ·trivial
  ·obtain⟨b,g1,g2⟩:=t1'
   exact⟨_,b,rfl,g1,g2⟩
  ·obtain⟨b,g1,g2⟩:=t2'
   exact⟨_,b,rfl,g1,g2⟩
  ·trivial
 refine wpIn_wide.2 (wpIn_wide.1 (wpIn_mono (afx hEnv (hdraw _ _ hEnv) rfl aJs 0 _ _ ν a W (fun z _=>ad7 hl0) law sim (Nat.zero_le _)) fun e a' w' ha=>?_))
 obtain⟨ν',S',g1,g2,_,_,g5⟩:=ha
 obtain⟨rfl,k2,k3⟩:=aXS g5
 obtain⟨rb,te,r1,r2⟩:=aPU g1.heap k3
 have r3:=g1.tmps 2
 rw[k2] at r3
 have r4:=apm r3 r1
 have hDlt:=Ķ hDo
 refine aT2 (w:=w') (a:=a') (G:=G) (y:=y) (w0:=w0) (D:=D) (rb:=rb) g1.defers ((g2.keep D hDlt fun hl=>by have:=hlive D hl; omega).1.trans hDo) r4 r2 (fun b hlt=>?_) (by omega) (by have:=g2.size; have:=hb.size; omega) (g2.os.trans (hb.os.trans h3)) (g2.tape.trans (hb.tape.trans h4)) (g2.output.trans (hb.output.trans h5))
 have h01:=h0 b hlt
 have hlt6:b<w6.heap.size:=by omega
 have hltW:b<W.heap.size:=by have:=hb.size; omega
 exact(g2.keep b hltW h01.2).1.trans ((hb.block b hlt6).trans h01.1)
set_option maxHeartbeats 2000000 in
theorem aVp (G:Nat→Prop) (x:Val Ä) (y:Int) (hF':ö x=some y) (w:World) (vals:List Value) (hG:∀b,G b→b<w.heap.size) (hAL:AL w G [Ä] x vals) :
 (∃fn c,Tryz.prog.funcs[38]?=some fn∧fn.body=some c)∧CallsIn Fence.wide 0 Tryz.prog 38 vals.toArray w (arW G y w):=by
 rw[aZ0] at hF'
 letI:ò:=⟨G,[],none⟩
 have hpt:=a0N
 have hlib:aBg (ckE ckR):=aA8 hpt (ckE ckR) rfl rfl rfl rfl rfl (ż rfl)
 have hdraw:∀L call,afG (ckE ckR) L call→afS (ckE ckR) L call:=atg hmix
 have h0:(ckE ckR).loops=ahy []:=rfl
 have hcall:=agh (.inl ⟨rfl,rfl⟩) hlib hdraw (fun n hn hE path f fn c _ _ _ z _=>ad7 h0) 10 (Nat.le_refl _)
 have hEnv:afG (ckE ckR) 2 (aeE (ckE ckR) 10):=⟨.inr (aiH 9),hcall,hlib.plain,hlib.clone,hlib.joins⟩
 have hD:=hdraw _ _ hEnv
 have H:HR (fun _=>undef) [] w:=⟨fun _=>trivial,fun _ _ _ h=>(by cases h),hG,fun _ _ h=>(by cases h)⟩
 have hav:∀b,Av (fun _=>undef) [] b→G b:=fun b hb=>hb.elim (fun⟨_,h,_⟩=>by cases h) id
 have hargs:Ė (VR (fun _=>undef) [] w) (ý [Ä] x) vals:=AL.VR (hAL.mono hav)
 refine⟨⟨Tryz.f38,_,Tryz.func38,a0O⟩,?_⟩
 have hlen:vals.length=1:=by
  have:=hargs.length
  simpa[ý,aXD] using this.symm
 cases hM:ckM x with
 |none=>rw[hM] at hF'; cases hF'
 |some r0 =>
 rw[hM] at hF'
 have law:=ck_pre x
 rw[hM] at law
 refine callsIn_wide.2 (callsIn_wide.1 (callsIn_of_wp_marks (n:=2) Tryz.func38 a0O trivial ?_ (R:=arW G y w)))
 have hS:Sim (fun _=>undef) {t:=ý [Ä] x++List.replicate 77 .any,h:=[]} {tmps:=vals.toArray++Array.replicate (Tryz.f38.ntmps-vals.toArray.size) undef,defers:=[]} w:=by
  refine⟨rfl,?_,fun i=>?_,H⟩
  ·have:Tryz.f38.ntmps=78:=by kernel_rfl
   have hl2:(ý [Ä] x).length=1:=rfl
   simp[this,hlen,hl2]
  ·simp only[aEQ]
   rcases Nat.lt_or_ge i (ý [Ä] x).length with hi|hi
   ·have:=Ė.lk (R:=VR (fun _=>undef) [] w) (fun _=>trivial) i hargs
    have hv:i<vals.length:=by rw[←hargs.length]; exact hi
    have h2:(vals.toArray++Array.replicate (Tryz.f38.ntmps-vals.toArray.size) undef).getD i undef=vals.getD i undef:=by
     simp[Array.getD_eq_getD_getElem?,Array.getElem?_append,hv]
    rw[h2]; exact this
   ·rw[aXc _ _ hi]; trivial
 -- the ways out ahead of the loop
 have out:∀ν' S' a' w' e,e≠.normal→Sim ν' S' a' w'→Ev 0 (fun _=>undef) [] w ν' S'.h w'→ckK e S'=some r0→bodyPostM Fence.wide 2 Tryz.prog Tryz.f38 (arW G y w) e a' w':=by
  intro ν' S' a' w' e hne hS' hE' hk
  cases e with
  |normal=>exact(hne rfl).elim
  | ret =>
    rw[a1G] at hk
    cases hr:aXR S' with
    |none=>rw[hr] at hk; cases hk
    | some n =>
      rw[hr,Option.map_some] at hk
      cases hk
      have hyn:n=y:=by simpa using hF'
      subst hyn
      unfold aXR at hr
      split at hr
      ·rename_i v hv
       obtain⟨u,q1,q2⟩:=awV hS' hv
       show LeavesInM _ _ _ _ _ _ a'.defers _ _
       rw[show a'.defers=[] from hS'.defers]
       exact⟨u,q1,u,rfl,aJR hS'.heap [tI] q2 hr,fun b hb=>(hE'.keep b hb fun⟨_,h,_⟩=>by cases h).1,hE'.size,hE'.os,hE'.tape,hE'.output⟩
      ·cases hr
  |exit id=>cases hk
  |goto l=>cases hk
  |panic ch=>cases hk
  |outgrown=>cases hk
 have outT:∀{ν₁:Nat→Value} {h₁:List Blk} {w₁:World},Ev 0 (fun _=>undef) [] w ν₁ h₁ w₁→∀ν' S' a' w' e,e≠.normal→Sim ν' S' a' w'→Ev 0 ν₁ h₁ w₁ ν' S'.h w'→ckK e S'=some r0→bodyPostM Fence.wide 2 Tryz.prog Tryz.f38 (arW G y w) e a' w' :=
  fun hE ν' S' a' w' e hne hS' hE' hk=>out ν' S' a' w' e hne hS' (hE.trans hE' (Nat.le_refl _)) hk
 refine peel rfl hEnv hD rfl rfl (fun z _=>ad7 h0) law hS (fun ν1 S1 a1 w1 s1 e1 k1=>?_) out
 refine peel rfl hEnv hD rfl rfl (fun z _=>ad7 h0) k1 s1 (fun ν2 S2 a2 w2 s2 e2 k2=>?_) (outT e1)
 have t2:=e1.trans e2 (Nat.le_refl _)
 refine peel rfl hEnv hD rfl rfl (fun z _=>ad7 h0) k2 s2 (fun ν3 S3 a3 w3 s3 e3 k3=>?_) (outT t2)
 have t3:=t2.trans e3 (Nat.le_refl _)
 refine peel rfl hEnv hD rfl rfl (fun z _=>ad7 h0) k3 s3 (fun ν4 S4 a4 w4 s4 e4 k4=>?_) (outT t3)
 have t4:=t3.trans e4 (Nat.le_refl _)
 refine peel rfl hEnv hD rfl rfl (fun z _=>ad7 h0) k4 s4 (fun ν5 S5 a5 w5 s5 e5 k5=>?_) (outT t4)
 have t5:=t4.trans e5 (Nat.le_refl _)
 refine wpIn_seq (wpIn_seq (wpIn_wide.2 (wpIn_wide.1 (wpIn_mono (afx hEnv hD rfl ckA5 0 S5 _ ν5 a5 w5 (fun z _=>ad7 h0) k5 s5 (Nat.zero_le _)) fun e' a6 w6 ha=>?_))))
 obtain⟨ν,S,s6,e6,_,_,k6⟩:=ha
 have t6:=t5.trans e6 (Nat.le_refl _)
 have other:∀e,e≠.normal→ckK e S=some r0→Exit.then (Code.wpIn Fence.wide 2 Tryz.prog aJs (bodyPostM Fence.wide 2 Tryz.prog Tryz.f38 (arW G y w))) (bodyPostM Fence.wide 2 Tryz.prog Tryz.f38 (arW G y w)) e a6 w6:=by
  intro e hne hk
  have:=out ν S a6 w6 e hne s6 t6 hk
  cases e<;>first|exact(hne rfl).elim|exact this
 cases e' with
 |exit id=>exact other _ (by simp) k6
 |goto l=>exact other _ (by simp) k6
 |ret=>exact other _ (by simp) k6
 |panic ch=>exact other _ (by simp) k6
 |outgrown=>exact other _ (by simp) k6
 |normal =>
 clear other
 rw[aVo] at k6
 split at k6<;>try (cases k6; done)
 rename_i h78
 have h78':78≤S.t.length:=by simpa using h78
 cases k6
 obtain⟨hlens,s,hs,hq⟩:=a1F hM
 simp only[Prod.mk.injEq,List.cons.injEq,and_true] at hq
 obtain⟨⟨q1,q2,q48⟩,qh⟩:=hq
 have hF2:aNJ (agQ x s) some (ckS x)=some y:=by
  simp only at hF'
  rw[hs] at hF'
  exact hF'
 -- what the errors are
 obtain⟨L,hL,hLy⟩:∃L,agQ x s=some L∧(match L.find? (fun e=>e != 0) with|some e=>some e|none=>ckS x)=some y:=by
  unfold aNJ at hF2
  cases hl:agQ x s with
  |none=>rw[hl] at hF2; cases hF2
  |some L=>rw[hl] at hF2; exact⟨L,rfl,hF2⟩
 obtain⟨l1,l2,l3,l4,m1,m2,m3,m4,rfl⟩:∃l1 l2 l3 l4,aCv (fun u=>ĸ u.1 u.2 s) (x.2.2.1:List (Int×Int))=some l1∧aCv (fun i=>Γ x s i) (anu (x.2.2.2.1:List (Val Ł)).length)=some l2 ∧
  aCv (fun i=>ĺ x s i) (anu (x.2.2.2.2.1:List (Val Ê)).length)=some l3∧aCv (fun u=>ĸ u.1 u.2 s) (x.2.2.2.2.2:List (Int×Int))=some l4∧L=l1++(l2++(l3++l4)):=by
  unfold agQ at hL
  cases m1:aCv (fun u=>ĸ u.1 u.2 s) (x.2.2.1:List (Int×Int)) with
  |none=>rw[m1] at hL; cases hL
  |some l1 =>
  rw[m1] at hL
  cases m2:aCv (fun i=>Γ x s i) (anu (x.2.2.2.1:List (Val Ł)).length) with
  |none=>simp only[Â,m2] at hL; cases hL
  |some l2 =>
  cases m3:aCv (fun i=>ĺ x s i) (anu (x.2.2.2.2.1:List (Val Ê)).length) with
  |none=>simp only[Â,m2,m3] at hL; cases hL
  |some l3 =>
  cases m4:aCv (fun u=>ĸ u.1 u.2 s) (x.2.2.2.2.2:List (Int×Int)) with
  |none=>simp only[Â,m2,m3,m4] at hL; cases hL
  |some l4 =>
  simp only[Â,m2,m3,m4] at hL
  cases hL
  exact⟨l1,l2,l3,l4,rfl,rfl,rfl,rfl,rfl⟩
 -- the blocks
 obtain⟨T,Hh⟩:=S
 dsimp only at q1 q2 q48 qh h78'
 subst qh
 have p1:=s6.tmps 1
 have p2:=s6.tmps 2
 have p48:=s6.tmps 48
 dsimp only at p1 p2 p48
 rw[q1] at p1
 rw[q2] at p2
 rw[q48] at p48
 obtain⟨rb,te1,n1,hrb⟩:=aPU (id:=1) (n:=0) s6.heap rfl
 have hB2:BR ν (ckH x s 0) w6 2 (.cells (flat Ä x)):=s6.heap.blk 2
 have hB3:BR ν (ckH x s 0) w6 3 (.cells [.mp tI Ð s]):=s6.heap.blk 3
 have hB4:BR ν (ckH x s 0) w6 4 (.cells [.fn (.func 163) [] [.box 3 0]]):=s6.heap.blk 4
 obtain⟨bb,cb,te,n2,hbb,hb2⟩:=hB2
 obtain⟨sb,cs3,te3,n3,hsb,hb3⟩:=hB3
 obtain⟨tb,cs4,te2,n4,htb,hb4⟩:=hB4
 obtain⟨mv,z3,hm3⟩:=hb3.one
 obtain⟨fv,z4,hm4⟩:=hb4.one
 have hmv:CR w6 noG (.map tI Ð) s [mv]:=CR.mono (fun _ hf=>hf.elim) (show CR w6 (Av ν (ckH x s 0)) (.map tI Ð) s [mv] from hm3.1)
 have hc3:cs3=#[mv]:=by rw[←Array.toList_inj,z3]
 have hfv:fv=.func (.func 163) #[] #[.pointer (some ⟨sb,0,none⟩)]:=by
  obtain⟨fs,cs,h1,h2,h3⟩:=hm4.1
  have e1:fs=#[]:=by rw[←Array.toList_inj]; exact h2.nil_left
  obtain⟨u,e2,h4⟩:=h3.one
  have e3:u=.pointer (some ⟨sb,0,none⟩):=apm (w:=w6) (id:=3) (off:=0) h4 n3
  have e4:cs=#[.pointer (some ⟨sb,0,none⟩)]:=by rw[←Array.toList_inj,e2,e3]
  rw[h1,e1,e4]
 have hc4:cs4=#[fv]:=by rw[←Array.toList_inj,z4]
 rw[hc3] at hsb
 rw[hc4,hfv] at htb
 have hg:a6.tmps.getD 48 undef=.func (.func 165) #[] #[.pointer (some ⟨bb,0,none⟩),.pointer (some ⟨tb,0,none⟩),.pointer (some ⟨sb,0,none⟩)]:=by
  obtain⟨fs,cs,h1,h2,h3⟩:=p48
  have e1:fs=#[]:=by rw[←Array.toList_inj]; exact h2.nil_left
  have hl:=h3.length
  obtain⟨u1,u2,u3,e2⟩:∃u1 u2 u3,cs.toList=[u1,u2,u3]:=by
   rcases hcs:cs.toList with _|⟨u1,_|⟨u2,_|⟨u3,_|⟨u4,t⟩⟩⟩⟩<;>rw[hcs] at hl<;>simp at hl
   exact⟨u1,u2,u3,rfl⟩
  rw[e2] at h3
  have e3:u1=.pointer (some ⟨bb,0,none⟩):=apm (w:=w6) (id:=2) (off:=0) h3.1 n2
  have e4:u2=.pointer (some ⟨tb,0,none⟩):=apm (w:=w6) (id:=4) (off:=0) h3.2.1 n4
  have e5:u3=.pointer (some ⟨sb,0,none⟩):=apm (w:=w6) (id:=3) (off:=0) h3.2.2.1 n3
  rw[h1,e1]
  congr 1
  rw[←Array.toList_inj,e2,e3,e4,e5]
 have hseq:=aZc m1 m2 m3 m4 hlens hbb (a1M hb2) htb hsb hmv
 have h2:=apm p2 n1
 have hsz:78≤a6.tmps.size:=Nat.le_trans h78' s6.len
 have hkeep:∀b,b<w.heap.size→w6.heap[b]?=w.heap[b]?∧¬aSU ν (ckH x s 0) b:=fun b hb=>t6.keep b hb fun⟨_,h,_⟩=>by cases h
 have hdef:a6.defers=[]:=s6.defers
 show ckRF.wpIn Fence.wide 2 Tryz.prog (Exit.then (aJs.wpIn Fence.wide 2 Tryz.prog (bodyPostM Fence.wide 2 Tryz.prog Tryz.f38 (arW G y w))) (bodyPostM Fence.wide 2 Tryz.prog Tryz.f38 (arW G y w))) a6 w6
 rw[a1E]
 refine wpIn_block (a05 hseq hg h2 hsz hrb (fun D W hall hbel hDl hDo=>?_) (fun D W z hz hput hDl hDo=>?_))
 ·have hck:ckS x=some y:=by
   have:(l1++(l2++(l3++l4))).find? (fun e=>e != 0)=none:=List.find?_eq_none.2 fun z hz=>by rw[hall z hz]; simp
   rw[this] at hLy
   exact hLy
  exact a1D (s:=s) hck s6.heap hbel hDl hDo (by show aTD D::a6.defers=_; rw[hdef]) hsz p1 p2 hkeep t6.size t6.os t6.tape t6.output
 ·have hzy:z=y:=by
   rw[hz] at hLy
   simpa using hLy
  subst hzy
  obtain⟨te5,hcell⟩:=hput.cell
  have hlb:=Ķ hrb
  have hlive:aSU ν (ckH x s 0) rb:=⟨1,rfl,by rw[n1]; rfl⟩
  exact aT2 (a:={a6 with defers:=aTD D::a6.defers}) (w:=W) (by show aTD D::a6.defers=_; rw[hdef]) hDo h2 hcell
   (fun b hb=>(hput.block b (by have:=t6.size; omega) (fun e=>(hkeep b hb).2 (e▸hlive))).trans (hkeep b hb).1) (by have:=t6.size; omega) (by have:=t6.size; have:=hput.size; omega) (hput.os.trans t6.os) (hput.tape.trans t6.tape) (hput.output.trans t6.output)
theorem ł:Î Tryz.prog 38 Ŋ:=fun G x y hF w vals hG hAL=>aVp G x y hF w vals hG hAL
end Go.Proofs.ZzM
end
noncomputable section
set_option maxRecDepth 100000
namespace Go.Proofs.ZzM
open Go Go.Am Go.RowKit
abbrev cP:Type:=Val (tyL adG)
abbrev cV:Type:=Val (tyL af8)
abbrev cS (p:cP) (v:cV):St:=adS akM adG af8 p v
abbrev cU (p:cP) (v:cV) (x:Val Ð):St:=adS aDG adG apH p (asM v x)
theorem aZU (im:List (Int×Bool)) (n:Int):ag7 Tryz.prog [.map tI .bool im] 197 (.omp 0) (.int .i64 n) false some=(match (akz (k:=tI) (v:=.bool) n im:Option Bool) with|some y=>some (.bool y)|none=>some (.bool false)):=by kernel_rfl
noncomputable def MapAt (W:World) (mb:Nat) (im:List (Int×Bool)):Prop:=∃(entries:Array MapEntry) (clock:Nat),W.heap[mb]?=some (.map entries clock)∧entries.size=im.length∧∀(i:Nat) (e:Int×Bool),im[i]?=some e→∃m,entries[i]?=some m∧m.key=.int .i64 e.1∧m.val=.bool e.2
noncomputable def aAh (im:List (Int×Bool)) (n:Int):Bool:=((akz (k:=tI) (v:=.bool) n im:Option Bool)).getD false
theorem aZv {W:World} {mb:Nat} {im:List (Int×Bool)} (h:MapAt W mb im) (n:Int):(Instr.lookup 197 (.map (some mb)) (.int .i64 n) false).run Tryz.prog W=.ok (.bool (aAh im n)) W:=by
 letI:ò:=⟨fun _=>False,[],none⟩
 obtain⟨entries,clock,h1,h2,h3⟩:=h
 have H:HR (fun _=>.map (some mb)) [.map tI .bool im] W:=by
  refine⟨fun id=>?_,fun i j b hi hj _ _=>?_,fun b hb=>hb.elim,fun id b _ _ hb=>hb.elim⟩
  ·rcases id with _|id
   ·refine⟨mb,entries,clock,rfl,h1,h2,fun i e he=>?_⟩
    obtain⟨m,q1,q2,q3⟩:=h3 i e he
    exact⟨m,[.bool e.2],q1,by rw[q2]; rfl,rfl,by rw[q3]; rfl⟩
   ·rw[aI4 _ _ (by simp)]; trivial
  ·have one:∀i,(lkB [Blk.map tI .bool im] i).live=true→i=0:=fun i hi=>by
    rcases i with _|i
    ·rfl
    ·rw[aI4 _ _ (by simp)] at hi; cases hi
   rw[one i hi,one j hj]
 have hom:VR (fun _=>.map (some mb)) [.map tI .bool im] W (.omp 0) (.map (some mb)):=⟨rfl,_,_,_,rfl,rfl⟩
 have hk:ag7 Tryz.prog [.map tI .bool im] 197 (.omp 0) (.int .i64 n) false some=some (.bool (aAh im n)):=by
  rw[aZU]
  unfold aAh
  cases(akz (k:=tI) (v:=.bool) n im:Option Bool)<;>rfl
 obtain⟨u,q1,q2⟩:=aPL H hk hom (ui:=.int .i64 n) rfl
 rw[q1]
 have:u=.bool (aAh im n):=q2
 rw[this]
noncomputable def gz (l:List (Val Ð)) (j:Nat):Val Ð:=l[j]?.getD (0,0,0,(0,0),(0,0),0)
theorem aSj {w:World} {av:Nat→Prop} {g:Val Ð} {us:List Value} (h:CR w av Ð g us) :
 us=[.int .i64 g.1,.int .i64 g.2.1,.int .i64 g.2.2.1,.int .i64 g.2.2.2.1.1,.int .i64 g.2.2.2.1.2,.int .i64 g.2.2.2.2.1.1,.int .i64 g.2.2.2.2.1.2,.int .i64 g.2.2.2.2.2]:=by
 obtain⟨a1,r1,rfl,h1,a2,r2,rfl,h2,a3,r3,rfl,h3,a4,r4,rfl,⟨b1,b2,rfl,h4,h5⟩,⟨b3,r5,rfl,⟨b5,b6,rfl,h6,h7⟩,h8⟩⟩:=h
 have e1:a1=[.int .i64 g.1]:=h1
 have e2:a2=[.int .i64 g.2.1]:=h2
 have e3:a3=[.int .i64 g.2.2.1]:=h3
 have e4:b1=[.int .i64 g.2.2.2.1.1]:=h4
 have e5:b2=[.int .i64 g.2.2.2.1.2]:=h5
 have e6:b5=[.int .i64 g.2.2.2.2.1.1]:=h6
 have e7:b6=[.int .i64 g.2.2.2.2.1.2]:=h7
 have e8:r5=[.int .i64 g.2.2.2.2.2]:=h8
 subst e1 e2 e3 e4 e5 e6 e7 e8
 rfl
noncomputable def KNd (w1:World) (R:Nat→Prop) (tb:Nat) (im:List (Int×Bool)) (W:World):Prop:=w1.heap.size≤W.heap.size∧(∀b,R b→W.heap[b]?=w1.heap[b]?)∧tb<w1.heap.size∧∃mb,mb<w1.heap.size∧W.cell? ⟨tb,0,none⟩=some (.map (some mb))∧MapAt W mb im
theorem KNd.below {w1 W W':World} {R:Nat→Prop} {tb:Nat} {im:List (Int×Bool)} (hR:∀b,R b→b<w1.heap.size) (h:KNd w1 R tb im W) (hz:W.heap.size≤W'.heap.size) (hb:∀b,b<w1.heap.size→W'.heap[b]?=W.heap[b]?):KNd w1 R tb im W':=by
 obtain⟨h1,h2,h3,mb,h4,h5,en,cl,h6,h7,h8⟩:=h
 exact⟨Nat.le_trans h1 hz,fun b hr=>(hb b (hR b hr)).trans (h2 b hr),h3,mb,h4,by rw[World.cell?_of_block (w:=W) (hb tb h3)]; exact h5,en,cl,(hb mb h4).trans h6,h7,h8⟩
theorem KNd.grown {w1 W W':World} {R:Nat→Prop} {tb:Nat} {im:List (Int×Bool)} (hR:∀b,R b→b<w1.heap.size) (h:KNd w1 R tb im W) (hg:W.grownBy W' none):KNd w1 R tb im W' :=
 h.below hR hg.size fun b hb=>hg.block b (Nat.lt_of_lt_of_le hb h.1) (by simp)
theorem aPN {f:AV→Bool} (h0:f .any=true):∀(l:List AV),l.all f=true→∀i,f (lk l i)=true
 |[],_,i=>by cases i<;>exact h0
 |x::l,h,0=>by simp only[List.all_cons,Bool.and_eq_true] at h; exact h.1
 |x::l,h,i+1=>by simp only[List.all_cons,Bool.and_eq_true] at h; exact aPN h0 l h.2 i
theorem aMr {f:Blk→Bool} (h0:f .dead=true):∀(l:List Blk),l.all f=true→∀i,f (lkB l i)=true
 |[],_,i=>by cases i<;>exact h0
 |x::l,h,0=>by simp only[List.all_cons,Bool.and_eq_true] at h; exact h.1
 |x::l,h,i+1=>by simp only[List.all_cons,Bool.and_eq_true] at h; exact aMr h0 l h.2 i
theorem cS_mf (p:cP) (v:cV):(cS p v).h.all mfB=true:=by kernel_rfl
theorem cU_mf (p:cP) (v:cV) (x:Val Ð):(cU p v x).h.all mfB=true:=by kernel_rfl
theorem cU_mft (p:cP) (v:cV) (x:Val Ð):(cU p v x).t.all mfV3=true:=by kernel_rfl
theorem cR_mf (y:Val Ä):(adS aij [] aeb () (ae6 y)).h.all mfB=true:=by kernel_rfl
theorem cR_mft (y:Val Ä):(adS aij [] aeb () (ae6 y)).t.all mfV3=true:=by kernel_rfl
noncomputable def pin0 (m:Nat):AV→Bool
 |.any=>true
 |.box id _=>Nat.blt id m
 |_=>false
noncomputable def pin3 (m:Nat):AV→Bool
 |.fn _ a b=>a.all (pin0 m)&&b.all (pin0 m)
 |a=>pin0 m a
section
variable [ò] {ν ν':Nat→Value} {h h':List Blk} {w w':World} {m:Nat}
theorem VR0.pin (e:Ev m ν h w ν' h' w') {a:AV} {v:Value} (hp:pin0 m a=true) (hv:VR0 ν h w a v):VR0 ν' h' w' a v:=by
 cases a with
 |any=>trivial
 | box id off =>
   obtain⟨cs,b,hl,h1,h2⟩:=hv
   have hlt:id<m:=Nat.le_of_ble_eq_true hp
   have hb:=e.blk id hlt
   rw[hl] at hb
   obtain⟨⟨cs',hl'⟩,he⟩:=hb
   exact⟨cs',b,hl',by rw[he]; exact h1,h2⟩
 |_=>cases hp
theorem VR.pin (e:Ev m ν h w ν' h' w') {a:AV} {v:Value} (hp:pin3 m a=true) (hv:VR ν h w a v):VR ν' h' w' a v:=by
 cases a with
 | fn f fa fb =>
   obtain⟨fs,cs,h1,h2,h3⟩:=hv
   simp only[pin3,Bool.and_eq_true,List.all_eq_true] at hp
   exact⟨fs,cs,h1,h2.mem fun a ha _=>VR0.pin e (hp.1 a ha),h3.mem fun a ha _=>VR0.pin e (hp.2 a ha)⟩
 |any=>trivial
 |box id off=>exact VR0.pin (a:=.box id off) e (show pin0 m (.box id off)=true from hp) hv
 |_=>cases hp
end
theorem a0P (p:cP) (v:cV):(cS p v).t.all (pin3 9)=true:=by kernel_rfl
theorem cS_len (p:cP) (v:cV):(cS p v).h.length=10:=by kernel_rfl
theorem cU_len (p:cP) (v:cV) (x:Val Ð):(cU p v x).h.length=11:=by kernel_rfl
theorem cS_t (p:cP) (v:cV) (z:List (Val Ð)):(cS p (ě v z)).t=(cS p v).t:=by kernel_rfl
theorem cS_5 (p:cP) (v:cV):∃a b us lo co ko,lkB (cS p v).h 5=.cells [.int .i64 a,.int .i64 b,.slc Ð (î v),.slc Ã us,.slc Ł lo,.slc Ê co,.slc Ã ko]:=⟨_,_,_,_,_,_,rfl⟩
theorem cS_6 (p:cP) (v:cV):lkB (cS p v).h 6=.cells [.omp 7]:=by kernel_rfl
theorem cS_7 (p:cP) (v:cV):lkB (cS p v).h 7=.map tI .bool (ŏ v):=by kernel_rfl
theorem cS_59 (p:cP) (v:cV):lk (cS p v).t 59=.fn (.func 218) [] [.box 5 0,.box 6 0]:=by kernel_rfl
noncomputable def aPS:Blk→Bool
 |.map _ _ _=>true
 |_=>false
theorem aSK (p:cP) (v:cV):(cS p v).h.map aPS=[false,false,false,false,false,false,false,true,true,false]:=by kernel_rfl
theorem a1J (p:cP) (v:cV) (x:Val Ð):(cU p v x).h.map aPS=[false,false,false,false,false,false,false,true,true,false,false]:=by kernel_rfl
theorem ayk:∀(l:List Blk) (i:Nat),aPS (lkB l i)=true→(l.map aPS)[i]?=some true
 |[],i,h=>by cases i<;>cases h
 |x::l,0,h=>by have:aPS x=true:=h; simp[this]
 |x::l,i+1,h=>by simpa using ayk l i h
theorem aTE {l:List Blk} {t:List Bool} (hl:l.map aPS=[false,false,false,false,false,false,false,true,true]++t) (ht:∀b∈t,b=false) {id:Nat} {k u:Ty} {es:List (Val k×Val u)} (h:lkB l id=.map k u es):id=7∨id=8:=by
 have:=ayk l id (by rw[h]; rfl)
 rw[hl] at this
 rcases id with _|_|_|_|_|_|_|_|_|id<;>simp at this ⊢
 have:=ht _ (List.mem_of_getElem? this)
 cases this
noncomputable def a0J {ρ:Type}:List (Val Ð)→Option ρ→Option ρ
 |[],x=>x
 |_::_,_=>none
theorem aSu {ρ:Type} {l:List (Val Ð)} {x:Option ρ} {r:ρ} (h:a0J l x=some r):l=[]∧x=some r:=by
 cases l with
 |nil=>exact⟨rfl,h⟩
 |cons=>cases h
noncomputable def cutK (p:cP) (v:cV):Option (Val Ä):=a0J (alQ v) (Â (apQ (î v) (ŏ v)) fun z=>agJ p (ě v z) some)
theorem aXj {l:List (Val Ð)} {im:List (Int×Bool)} {z:List (Val Ð)} (h:apQ l im=some z):ì l.length=true∧z=(aF3 (fun j=>aAh im (gz l j).1) l.length).map (gz l):=by
 unfold apQ at h
 simp only[ô] at h
 split at h
 ·rename_i ho
  cases h
  refine⟨ho,?_⟩
  have key:∀(n:Nat),n≤l.length→(l.take n).filter (fun g=>((akz (k:=tI) (v:=.bool) g.1 im:Option Bool)).getD false)=(aF3 (fun j=>aAh im (gz l j).1) n).map (gz l):=by
   intro n
   induction n with
   |zero=>intro _; rfl
   | succ n ih =>
     intro hn
     have hg:l[n]?=some (gz l n):=by simp[gz,List.getElem?_eq_getElem (show n<l.length from hn)]
     rw[List.take_succ,List.filter_append,ih (by omega),atu,hg]
     have:((akz (k:=tI) (v:=.bool) (gz l n).1 im:Option Bool)).getD false=aAh im (gz l n).1:=rfl
     simp only[Option.toList_some,List.filter_cons,List.filter_nil,this]
     split<;>simp
  have:=key l.length (Nat.le_refl _)
  rwa [List.take_length] at this
 ·cases h
theorem aZl {n m:Nat} (h:ì n=true) (hm:m≤n):ì m=true:=by
 unfold ì at h ⊢
 simp only[Bool.and_eq_true,decide_eq_true_eq] at h ⊢
 first|omega|(constructor<;>omega)
theorem aUl {G:Nat→Prop} {D D':List Deferred} {Q Q':Option Nat} {ν:Nat→Value} {h:List Blk} {w:World} {a:AV} {v:Value} (hv:@VR ⟨G,D,Q⟩ ν h w a v):@VR ⟨G,D',Q'⟩ ν h w a v:=hv
theorem apG [ò] {ν2 ν':Nat→Value} {h1 h':List Blk} {w1 W:World} (H1:HR ν2 h1 w1) (ev:Ev 9 ν2 h1 w1 ν' h' W) (hl1:∀id,id=7∨id=8→∃k u es,lkB h1 id=.map k u es)
 {t:List Bool} (hl:h'.map aPS=[false,false,false,false,false,false,false,true,true]++t) (ht:∀b∈t,b=false):aYM w1.heap.size ν' h':=by
 intro id k u es b hm hν
 have h9:id<9:=by rcases aTE hl ht hm with rfl|rfl<;>omega
 obtain⟨k1,u1,es1,h7⟩:=hl1 id (aTE hl ht hm)
 have hb:=ev.blk id h9
 rw[h7] at hb
 obtain⟨_,he⟩:=hb
 have hB:=H1.blk id
 rw[h7] at hB
 obtain⟨b0,_,_,q1,q2,_⟩:=hB
 rw[he,q1] at hν
 cases hν
 exact Ķ q2
theorem a0h (p:cP) (v:cV):∀id,id=7∨id=8→∃k u es,lkB (cS p v).h id=.map k u es:=by
 rintro id (rfl|rfl)
 ·exact⟨_,_,_,rfl⟩
 ·exact⟨_,_,_,rfl⟩
noncomputable def CI (G:Nat→Prop) (p:cP) (v:cV) (ν2:Nat→Value) (w1:World) (pre:List Nat) (W:World):Prop :=
 ∃ν',@HR ⟨G,[],none⟩ ν' (cS p (ě v (pre.map (gz (î v))))).h W∧Ev 9 ν2 (cS p v).h w1 ν' (cS p (ě v (pre.map (gz (î v))))).h W
theorem CI.own {G:Nat→Prop} {p:cP} {v:cV} {ν2:Nat→Value} {w1:World} (H1:@HR ⟨G,[],none⟩ ν2 (cS p v).h w1):OwnFrom w1.heap.size (CI G p v ν2 w1):=by
 intro pre W W' row hI hg hr
 letI:ò:=⟨G,[],none⟩
 obtain⟨ν',H,ev⟩:=hI
 have hml:=apG H1 ev (a0h p v) (aSK _ _) (t:=[false]) (by simp)
 refine⟨ν',H.ckeep (aFv hg hr) (fun id k u es b hl hν=>?_) (aMr rfl _ (cS_mf _ _)),ev.own hg fun r e=>(hr r e).1⟩
 have hb:=hml id k u es b hl hν
 exact hg.block b (Nat.lt_of_lt_of_le hb ev.size) fun e=>by have:=(hr b e.symm).1; omega
theorem CI.nd {G:Nat→Prop} {p:cP} {v:cV} {ν2:Nat→Value} {w1 W:World} {pre:List Nat} {R:Nat→Prop} {tb:Nat} (H1:@HR ⟨G,[],none⟩ ν2 (cS p v).h w1) (hR:∀b,R b→b<w1.heap.size∧¬aSU ν2 (cS p v).h b) (htb:ν2 6=.pointer (some ⟨tb,0,none⟩)) (hI:CI G p v ν2 w1 pre W):KNd w1 R tb (ŏ v) W:=by
 letI:ò:=⟨G,[],none⟩
 obtain⟨ν',H,ev⟩:=hI
 have h6:=H1.blk 6
 rw[cS_6] at h6
 obtain⟨b6,_,_,q1,q2,_⟩:=h6
 rw[htb] at q1
 cases q1
 have h7:=H1.blk 7
 rw[cS_7] at h7
 obtain⟨mb,_,_,r1,r2,_⟩:=h7
 have e6:=ev.blk 6 (by omega)
 rw[cS_6] at e6
 have e7:=ev.blk 7 (by omega)
 rw[cS_7] at e7
 have k6:=H.blk 6
 rw[show lkB (cS p (ě v (pre.map (gz (î v))))).h 6=.cells [.omp 7] from cS_6 _ _] at k6
 obtain⟨b,c,e,s1,s2,s3⟩:=k6
 rw[e6.2,htb] at s1
 cases s1
 obtain⟨mv,s4,s5⟩:=s3.one
 obtain⟨_,k,u,es,_,s6⟩:=s5.1
 have k7:=H.blk 7
 rw[show lkB (cS p (ě v (pre.map (gz (î v))))).h 7=.map tI .bool (ŏ v) from cS_7 _ _] at k7
 obtain⟨mb',en,cl,t1,t2,t3,t4⟩:=k7
 have e1:mv=.map (some mb'):=s6.trans t1
 have e2:mb'=mb:=by rw[e7.2,r1] at t1; cases t1; rfl
 subst e2
 refine⟨ev.size,fun b hb=>(ev.keep b (hR b hb).1 (hR b hb).2).1,Ķ q2,mb',Ķ r2,?_,en,cl,t2,t3,fun i x hx=>?_⟩
 ·have hc:c=#[mv]:=by rw[←Array.toList_inj,s4]
  rw[hc,e1] at s2
  simp[World.cell?,s2]
 ·obtain⟨m,us,u1,u2,u3,u4⟩:=t4 i x hx
  have v1:[m.key]=[.int .i64 x.1]:=u2
  have v2:us=[.bool x.2]:=u3
  refine⟨m,u1,by simpa using v1,?_⟩
  rw[u4,v2]
  rfl
theorem aVk:drawn (Am.rfA (Am.rfC 7 Ĝ))=false:=by kernel_rfl
theorem aVj:drawn (Am.rfB (Am.rfC 7 Ĝ))=false:=by kernel_rfl
theorem aVi:ê 4 (Am.rfA (Am.rfC 7 Ĝ))=[]:=by kernel_rfl
theorem aVh:ê 4 (Am.rfB (Am.rfC 7 Ĝ))=[]:=by kernel_rfl
theorem aML [ò] (ρ:Type):afG (Ę ρ) 2 (aeE (Ę ρ) 10):=by
 have hlib:aBg (Ę ρ):=aA8 aDF (Ę ρ) rfl rfl rfl rfl rfl (ż rfl)
 have hdraw:∀L call,afG (Ę ρ) L call→afS (Ę ρ) L call:=atg hmix
 have hcall:=agh (.inr fun _=>rfl) hlib hdraw (fun n hn hE path f fn c hp hf hc=>av1 (tab:=ajl ρ) rfl azv hn hE (hdraw _ _ hE) hp hf hc) 10 (Nat.le_refl _)
 exact⟨.inr (aiH 9),hcall,hlib.plain,hlib.clone,hlib.joins⟩
theorem aXN {G:Nat→Prop} {p:cP} {v:cV} {ν2:Nat→Value} {a:Act} {w1:World} (H1:@Sim ⟨G,[],none⟩ ν2 (cS p v) a w1) (l:Nat) (pre:List Nat) (x:Nat) (W:World) (hl:w1.heap.size≤l) (hI:CI G p v ν2 w1 pre W) (hok:ì (pre.length+1)=true) {u:Value} (hu:∀[ò] (ν:Nat→Value) (h:List Blk) (w:World),VR ν h w (.agg (flat Ð (gz (î v) x))) u) :
 (Am.rfA (Am.rfC 7 Ĝ)).wpIn (Fence.wide.inRound l) 0 Tryz.prog (Exit.then (fun a' Wa=>KeepsFrom w1.heap.size W Wa∧∀r',(∃r,Wa.heap[l]?=some (.loop r)) →
  (Am.rfB (Am.rfC 7 Ĝ)).wpIn (Fence.wide.inRound l) 0 Tryz.prog (Exit.then (fun _ W3=>KeepsFrom w1.heap.size (Wa.putObj l (.loop r')) W3∧CI G p v ν2 w1 (pre++[x]) W3) (fun _ _ _=>False)) a' (Wa.putObj l (.loop r'))) (fun _ _ _=>False)) {tmps:=a.tmps.setIfInBounds 60 u,defers:=[]} W:=by
 letI:ò:=⟨G,[],some l⟩
 have H1h:HR ν2 (cS p v).h w1:=HR_ghost (@Sim.heap ⟨G,[],none⟩ _ _ _ _ H1)
 obtain⟨ν',H0,ev⟩:=hI
 have H:HR ν' (cS p (ě v (pre.map (gz (î v))))).h W:=HR_ghost H0
 obtain⟨v',hv'⟩:∃v',v'=ě v (pre.map (gz (î v))):=⟨_,rfl⟩
 rw[←hv'] at H ev
 have ht:(cS p v').t=(cS p v).t:=by rw[hv']; exact cS_t _ _ _
 have hml:=apG H1h ev (a0h p v) (aSK _ _) (t:=[false]) (by simp)
 have simA:Sim ν' (cS p v') {tmps:=a.tmps,defers:=[]} W:=by
  refine⟨rfl,?_,fun i=>?_,H⟩
  ·rw[ht]; show _≤a.tmps.size; exact @Sim.len ⟨G,[],none⟩ _ _ _ _ H1
  ·rw[ht]; exact VR.pin ev (aPN rfl _ (a0P p v) i) (aUl (@Sim.tmps ⟨G,[],none⟩ _ _ _ _ H1 i))
 have sim0:=simA.put (Ev.refl _ _ _ _) H (some 60) (hu ν' _ W)
 have hEnv:=aML (cP×Val (tyL apH))
 have hgo:=ays hEnv (path:=[]) rfl (Am.rfA (Am.rfC 7 Ĝ)) 4 _ _ ν' _ W (fun h=>by rw[aVk] at h; cases h) (fun z hz=>by rw[aVi] at hz; cases hz) (aUT p v' (gz (î v) x) fun p u=>some (p,u)) sim0 (Nat.le_trans (show 9≤10 by decide) (Nat.le_of_eq (cS_len p v').symm))
 refine wpIn_mono hgo fun e a' Wa ha=>?_
 obtain⟨νa,Sa,sA,evA,lenA,ddA,kA⟩:=ha
 obtain⟨rfl,p',u',hm',hk'⟩:=at0 kA
 cases hk'
 obtain⟨νb,sB,evB,lB,dB⟩:=atX _ _ _ _ _ _ _ νa a' Wa hm' sA
 have evAB:Ev 9 ν' (cS p v').h W νb (cU p v' (gz (î v) x)).h Wa:=evA.trans evB (Nat.le_refl _)
 have evT:=ev.trans evAB (Nat.le_refl _)
 have hmu:=apG H1h evT (a0h p v) (a1J _ _ _) (t:=[false,false]) (by simp)
 refine⟨az3 H hml evAB,fun r' ⟨r,hr⟩=>?_⟩
 have hlt:l<Wa.heap.size:=Ķ hr
 have K:Ε Wa (Wa.putObj l (.loop r')):=⟨by simp[World.putObj],fun b c e q hb=>by
  rw[World.putObj_heap_other (fun e'=>by subst e'; rw[hr] at hb; cases hb)]; exact hb⟩
 have sC:Sim νb (cU p v' (gz (î v) x)) a' (Wa.putObj l (.loop r')):=sB.ckeep K (fun id k q es b hb hν=>World.putObj_heap_other (by have:=hmu id k q es b hb hν; omega)) (aMr rfl _ (cU_mf _ _ _)) (aPN rfl _ (cU_mft _ _ _))
 have evO:Ev 9 ν2 (cS p v).h w1 νb (cU p v' (gz (î v) x)).h (Wa.putObj l (.loop r')):=evT.own (grownBy_putObj' Wa l _) fun q e=>by cases e; exact hl
 have hEnv2:=aML (cP×cV)
 have law:=aUS p v' (gz (î v) x) fun p v=>some (p,v)
 have hrow:alQ v'=pre.map (gz (î v)):=by rw[hv']; rfl
 rw[hrow] at law
 simp only[List.length_map,List.length_cons,List.length_nil,Nat.zero_add,hok,ô] at law
 have hgo2:=ays hEnv2 (path:=[]) rfl (Am.rfB (Am.rfC 7 Ĝ)) 4 _ _ νb _ _ (fun h=>by rw[aVj] at h; cases h) (fun z hz=>by rw[aVh] at hz; cases hz) law sC (Nat.le_trans (show 9≤11 by decide) (Nat.le_of_eq (cU_len p v' (gz (î v) x)).symm))
 refine wpIn_mono hgo2 fun e a3 W3 hb=>?_
 obtain⟨νc,Sc,sD,evC,lenC,ddC,kC⟩:=hb
 obtain⟨rfl,p',u',hm',hk'⟩:=at0 kC
 cases hk'
 obtain⟨νd,sE,evD,lD,dD⟩:=atX _ _ _ _ _ _ _ νc a3 W3 hm' sD
 have evCD:=evC.trans evD (Nat.le_refl _)
 refine⟨az3 sC.heap hmu evCD,νd,?_⟩
 have hput:ě v' (pre.map (gz (î v))++[gz (î v) x])=ě v ((pre++[x]).map (gz (î v))):=by
  rw[hv',List.map_append]; rfl
 rw[←hput]
 exact⟨HR_ghost sE.heap,evO.trans evCD (Nat.le_refl _)⟩
noncomputable def aSV (G:Nat→Prop) (y:Val Ä) (w:World) (e:Ending) (w':World):Prop :=
 ∃u,e=.returned u∧RR w' G [Ä] y u∧(∀b,b<w.heap.size→w'.heap[b]?=w.heap[b]?)∧w.heap.size≤w'.heap.size∧w'.os=w.os∧w'.tape=w.tape∧w'.output=w.output
noncomputable def aSv (u:Val (tyL aeb)):Val Ä:=((u.1,u.2.1),u.2.2.1,u.2.2.2.1,u.2.2.2.2.1,u.2.2.2.2.2.1,u.2.2.2.2.2.2)
theorem aZW (p:cP) (v:cV):agJ p v (fun y=>(fun u=>some (aSv u)) (ae6 y))=agJ p v some:=by kernel_rfl
theorem aXM (u:Val (tyL aeb)):ae6 (aSv u)=u:=by kernel_rfl
theorem a1K (y:Val Ä):(adS aij [] aeb () (ae6 y)).h.map aPS=[false]:=by kernel_rfl
theorem aZT {G:Nat→Prop} {p:cP} {v:cV} {y:Val Ä} {ν:Nat→Value} {a:Act} {w0 W:World} {D:Nat} (H:@Sim ⟨G,[],none⟩ ν (cS p v) a W) (hB:agJ p v some=some y) (hD:W.heap[D]?=some (.deferred (some []))) (hnl:¬aSU ν (cS p v).h D)
 (hev:Ev 0 (fun _=>undef) [] w0 ν (cS p v).h W) (hDl:w0.heap.size≤D) :
 (Am.postC 7 Ĝ).wpIn Fence.wide 2 Tryz.prog (bodyPostM Fence.wide 2 Tryz.prog Tryz.f79 (aSV G y w0)) {a with defers:=aTD D::a.defers} W:=by
 have hdf:a.defers=[]:=@Sim.defers ⟨G,[],none⟩ _ _ _ _ H
 letI:ò:=⟨G,[aTD D],none⟩
 have sim:Sim ν (cS p v) {a with defers:=aTD D::a.defers} W:=⟨by show aTD D::a.defers=[aTD D]; rw[hdf],(show _≤a.tmps.size from @Sim.len ⟨G,[],none⟩ _ _ _ _ H),fun i=>aUl (@Sim.tmps ⟨G,[],none⟩ _ _ _ _ H i),HR_ghost (@Sim.heap ⟨G,[],none⟩ _ _ _ _ H)⟩
 have hEnv:=aML (Val Ä)
 have hdraw:∀L call,afG (Ę (Val Ä)) L call→afS (Ę (Val Ä)) L call:=atg hmix
 have law:=aO0 p v fun u=>some (aSv u)
 rw[aZW,hB] at law
 have hL:∀z∈ê 0 (Am.postC 7 Ĝ),ahi (Ę (Val Ä)) [] 79 z.1 z.2:=fun z hz =>
  av1 (E:=Ę (Val Ä)) (tab:=ajl _) rfl azv (n:=10) (Nat.le_refl _) hEnv (hdraw _ _ hEnv) rfl Tryz.func79 ajm z (aTG 7 Ĝ 0 au2 hz)
 have hgo:=afx hEnv (hdraw _ _ hEnv) rfl (Am.postC 7 Ĝ) 0 _ _ ν _ W hL law sim (Nat.zero_le _)
 rw[awe rfl] at hgo
 refine wpIn_wide.2 (wpIn_wide.1 (wpIn_mono hgo fun e a' W' ha=>?_))
 obtain⟨νa,Sa,sA,evA,_,_,kA⟩:=ha
 obtain⟨rfl,u,hm,hk⟩:=aWV kA
 cases hk
 obtain⟨νb,sB,evB,_,_⟩:=atX _ _ _ _ _ _ _ νa a' W' hm sA
 have hu:adS aij [] aeb () u=adS aij [] aeb () (ae6 (aSv u)):=by rw[aXM]
 rw[hu] at sB evB
 have evT:=(evA.trans evB (Nat.le_refl _))
 have hD':W'.heap[D]?=some (.deferred (some [])):=(evT.keep D (Ķ hD) hnl).1.trans hD
 have hd':a'.defers=[aTD D]:=sB.defers
 show LeavesInM _ _ _ _ _ _ a'.defers _ _
 rw[hd']
 refine⟨by simp,.inl ⟨D,_,rfl,run_takeDeferred hD',?_⟩⟩
 have hlt:=Ķ hD'
 have K:Ε W' (W'.putObj D (.deferred none)):=⟨by simp[World.putObj],fun b c e q hb=>by
  rw[World.putObj_heap_other (fun e'=>by subst e'; rw[hD'] at hb; cases hb)]; exact hb⟩
 have sC:=sB.ckeep K (fun id k q es b hb hν=>by
  have:=ayk _ id (by rw[hb]; rfl)
  rw[a1K] at this
  rcases id with _|id<;>simp at this) (aMr rfl _ (cR_mf _)) (aPN rfl _ (cR_mft _))
 obtain⟨uu,q1,q2⟩:=awV sC (aRH (aSv u))
 have hall:=hev.trans evT (Nat.le_refl _)
 refine⟨uu,q1,uu,rfl,aJR sC.heap [Ä] q2 (show Ă [Ä] _ (enc Ä (aSv u))=some (aSv u) from rfl),fun b hb=>?_,?_,hall.os,hall.tape,hall.output⟩
 ·rw[World.putObj_heap_other (by omega)]
  exact(hall.keep b hb fun⟨_,h,_⟩=>by cases h).1
 ·have:=hall.size
  simpa[World.putObj] using this
theorem aZX (x:Val (.pair Ä (.pair (.slice Ã) (.slice Ã)))):au3 x.1 x.2.1 x.2.2 cutK=ah2.F x:=by kernel_rfl
noncomputable def encG (g:Val Ð):Value:=.agg #[.int .i64 g.1,.int .i64 g.2.1,.int .i64 g.2.2.1,.int .i64 g.2.2.2.1.1,.int .i64 g.2.2.2.1.2,.int .i64 g.2.2.2.2.1.1,.int .i64 g.2.2.2.2.1.2,.int .i64 g.2.2.2.2.2]
theorem a1x [ò] (g:Val Ð) (ν:Nat→Value) (h:List Blk) (w:World):VR ν h w (.agg (flat Ð g)) (encG g) :=
 ⟨_,rfl,⟨rfl,rfl⟩,⟨rfl,rfl⟩,⟨rfl,rfl⟩,⟨rfl,rfl⟩,⟨rfl,rfl⟩,⟨rfl,rfl⟩,⟨rfl,rfl⟩,⟨rfl,rfl⟩,trivial⟩
theorem aZV (G:Nat→Prop) (x:Val (tyL ah2.ts)) (y:Val Ä) (hF:ah2.F x=some y) (w:World) (vals:List Value) (hG:∀b,G b→b<w.heap.size) (hAL:AL w G ah2.ts x vals) :
 (∃fn c,Tryz.prog.funcs[79]?=some fn∧fn.body=some c)∧CallsIn Fence.wide 0 Tryz.prog 79 vals.toArray w (aSV G y w):=by
 letI:ò:=⟨G,[],none⟩
 have hlib:aBg (ŭ (Val Ä)):=aA8 aDF _ rfl rfl rfl rfl rfl (ż rfl)
 have hdraw:∀L call,afG (ŭ (Val Ä)) L call→afS (ŭ (Val Ä)) L call:=atg hmix
 have hloops:aST (ŭ (Val Ä)):=fun n hn hE hD path f fn c hp hf hc=>av1 (tab:=asL _) rfl aRJ hn hE hD hp hf hc
 have hcall:=agh (.inl ⟨rfl,rfl⟩) hlib hdraw (fun n hn hE=>hloops n hn hE (hdraw _ _ hE)) 10 (Nat.le_refl _)
 have hEnv:afG (ŭ (Val Ä)) 2 (aeE (ŭ (Val Ä)) 10):=⟨.inr (aiH 9),hcall,hlib.plain,hlib.clone,hlib.joins⟩
 have H:HR (fun _=>undef) [] w:=⟨fun _=>trivial,fun _ _ _ h=>(by cases h),hG,fun _ _ h=>(by cases h)⟩
 have hav:∀b,Av (fun _=>undef) [] b→G b:=fun b hb=>hb.elim (fun⟨_,h,_⟩=>by cases h) id
 have hargs:Ė (VR (fun _=>undef) [] w) (ý ah2.ts x) vals:=AL.VR (hAL.mono hav)
 refine⟨⟨Tryz.f79,_,Tryz.func79,ajm⟩,?_⟩
 have hlen:vals.length=3:=hargs.length.symm
 refine callsIn_wide.2 (callsIn_wide.1 (callsIn_of_wp_marks (n:=2) Tryz.func79 ajm trivial ?_ (R:=aSV G y w)))
 have hS:Sim (fun _=>undef) {t:=ý ah2.ts x++List.replicate 127 .any,h:=[]} {tmps:=vals.toArray++Array.replicate (Tryz.f79.ntmps-vals.toArray.size) undef,defers:=[]} w:=by
  refine⟨rfl,?_,fun i=>?_,H⟩
  ·have:Tryz.f79.ntmps=130:=by kernel_rfl
   have hl2:(ý ah2.ts x).length=3:=rfl
   simp[this,hlen,hl2]
  ·simp only[aEQ]
   rcases Nat.lt_or_ge i (ý ah2.ts x).length with hi|hi
   ·have:=Ė.lk (R:=VR (fun _=>undef) [] w) (fun _=>trivial) i hargs
    have hv:i<vals.length:=by rw[←hargs.length]; exact hi
    have h2:(vals.toArray++Array.replicate (Tryz.f79.ntmps-vals.toArray.size) undef).getD i undef=vals.getD i undef:=by
     simp[Array.getD_eq_getD_getElem?,Array.getElem?_append,hv]
    rw[h2]; exact this
   ·rw[aXc _ _ hi]; trivial
 have law:=(aRI x cutK).trans ((aZX x).trans hF)
 refine peelN rfl hEnv (hdraw _ _ hEnv) rfl (path:=[]) rfl (fun e S hne h=>hne (at0 h).1) 7 Ĝ _ _ _ _ au2 (fun z hz=>hloops 10 (Nat.le_refl _) hEnv (hdraw _ _ hEnv) [] 79 Tryz.f79 Ĝ rfl Tryz.func79 ajm z hz) law hS (fun ν1 S1 a1 w1 s1 e1 k1=>?_)
 obtain⟨_,p,v,hm,hk⟩:=at0 k1
 obtain⟨hrow,hk⟩:=aSu hk
 cases hz:apQ (î v) (ŏ v) with
 |none=>rw[hz] at hk; cases hk
 |some z =>
 rw[hz] at hk
 have hB:agJ p (ě v z) some=some y:=hk
 obtain⟨hzl,hzs⟩:=aXj hz
 obtain⟨ν2,s2,e2,_,_⟩:=atX _ _ _ _ _ _ _ ν1 a1 w1 hm s1
 have evw:=e1.trans e2 (Nat.le_refl _)
 have hv0:ě v []=v:=by rw[←hrow]; rfl
 have s2':Sim ν2 (cS p v) a1 w1:=s2
 -- the blocks
 obtain⟨fa,fb,us,lo,co,ko,h5⟩:=cS_5 p v
 have hB5:=s2'.heap.blk 5
 rw[h5] at hB5
 obtain⟨bb,cb,te,n5,hbb,hc5⟩:=hB5
 have hB6:=s2'.heap.blk 6
 rw[cS_6] at hB6
 obtain⟨tb,ct,tt,n6,htb,hc6⟩:=hB6
 have hl5:=hc5.length
 obtain⟨u1,u2,u3,u4,u5,u6,u7,hcb⟩:∃u1 u2 u3 u4 u5 u6 u7,cb.toList=[u1,u2,u3,u4,u5,u6,u7]:=by
  rcases hcs:cb.toList with _|⟨u1,_|⟨u2,_|⟨u3,_|⟨u4,_|⟨u5,_|⟨u6,_|⟨u7,_|⟨u8,t⟩⟩⟩⟩⟩⟩⟩⟩<;>rw[hcs] at hl5<;>simp at hl5
  exact⟨u1,u2,u3,u4,u5,u6,u7,rfl⟩
 rw[hcb] at hc5
 obtain⟨_,_,hc3,_⟩:=hc5
 have hg3:CR w1 (Av ν2 (cS p v).h) (.slice Ð) (î v) [u3]:=hc3.1
 obtain⟨base,cap,eu3,hcap,hgl⟩:=hg3
 have eu3:u3=.slice base (î v).length cap:=by simpa using eu3
 obtain⟨gb,go,hgb⟩:∃gb go,0<(î v).length→base=some ⟨gb,go,none⟩∧¬Av ν2 (cS p v).h gb∧gb<w1.heap.size∧∀(i:Nat) (g:Val Ð),(î v)[i]?=some g→∃us,CR w1 (Av ν2 (cS p v).h) Ð g us∧ľ w1 gb (go+i*8) us:=by
  rcases hgl with hgl|⟨gb,go,q1,q2,q3,q4⟩
  ·exact⟨0,0,fun h=>by rw[show(î v)=[] from hgl] at h; simp at h⟩
  ·exact⟨gb,go,fun _=>⟨q1,q2,q3,q4⟩⟩
 obtain⟨gl,hgle⟩:∃gl,gl=î v:=⟨_,rfl⟩
 rw[←hgle] at hgb eu3
 have hR:∀b,(0<gl.length∧b=gb)→b<w1.heap.size∧¬aSU ν2 (cS p v).h b:=fun b ⟨h,e⟩=>by subst e; obtain⟨_,q2,q3,_⟩:=hgb h; exact⟨q3,fun hl=>q2 (.inl hl)⟩
 have hnd:∀pre W,CI G p v ν2 w1 pre W→KNd w1 (fun b=>0<gl.length∧b=gb) tb (ŏ v) W:=fun pre W hI=>hI.nd s2'.heap hR n6
 have hI0:CI G p v ν2 w1 [] w1:=by
  refine⟨ν2,?_,?_⟩
  ·rw[show ě v (([]:List Nat).map (gz (î v)))=v from hv0]; exact s2'.heap
  ·rw[show ě v (([]:List Nat).map (gz (î v)))=v from hv0]; exact Ev.refl _ _ _ _
 have hp59:=s2'.tmps 59
 rw[cS_59] at hp59
 have hg:a1.tmps.getD 59 undef=.func (.func 218) #[] #[.pointer (some ⟨bb,0,none⟩),.pointer (some ⟨tb,0,none⟩)]:=by
  obtain⟨fs,cs,h1,h2,h3⟩:=hp59
  have e1:fs=#[]:=by rw[←Array.toList_inj]; exact h2.nil_left
  have hl:=h3.length
  obtain⟨v1,v2,e2⟩:∃v1 v2,cs.toList=[v1,v2]:=by
   rcases hcs:cs.toList with _|⟨v1,_|⟨v2,_|⟨v3,t⟩⟩⟩<;>rw[hcs] at hl<;>simp at hl
   exact⟨v1,v2,rfl⟩
  rw[e2] at h3
  have e3:v1=.pointer (some ⟨bb,0,none⟩):=apm (w:=w1) (id:=5) (off:=0) h3.1 n5
  have e4:v2=.pointer (some ⟨tb,0,none⟩):=apm (w:=w1) (id:=6) (off:=0) h3.2.1 n6
  rw[h1,e1]
  congr 1
  rw[←Array.toList_inj,e2,e3,e4]
 have hcbe:cb=#[u1,u2,.slice base gl.length cap,u4,u5,u6,u7]:=by rw[←Array.toList_inj,hcb,eu3]
 have hseq:SeqStopsK Fence.wide 1 Tryz.prog 218 #[.pointer (some ⟨bb,0,none⟩),.pointer (some ⟨tb,0,none⟩)] (fun j:Nat=>#[encG (gz gl j)]) (fun A B=>KNd w1 (fun b=>0<gl.length∧b=gb) tb (ŏ v) A→KNd w1 (fun b=>0<gl.length∧b=gb) tb (ŏ v) B)
  (fun xs=>xs=aF3 (fun j=>aAh (ŏ v) (gz gl j).1) gl.length) (fun _=>True) (aF3 (fun j=>aAh (ŏ v) (gz gl j).1) gl.length).length w1:=by
  intro l J Jx W hbel hJ hJx hY h0
  refine a1n te 1 (by omega) l bb tb u1 u2 u4 u5 u6 u7 gb go gl.length cap base (fun h=>(hgb h).1) (fun j=>(gz gl j).1) (fun j=>(gz gl j).2.1) (fun j=>(gz gl j).2.2.1) (fun j=>(gz gl j).2.2.2.1.1) (fun j=>(gz gl j).2.2.2.1.2) (fun j=>(gz gl j).2.2.2.2.1.1) (fun j=>(gz gl j).2.2.2.2.1.2) (fun j=>(gz gl j).2.2.2.2.2)
   (fun j=>aAh (ŏ v) (gz gl j).1) ?len (KNd w1 (fun b=>0<gl.length∧b=gb) tb (ŏ v)) W ((hbel.block bb (Ķ hbb)).trans (by rw[hbb,hcbe])) ?cells ?maps (fun W1 W2 h hg=>h.grown (fun b hb=>(hR b hb).1) hg) ((hnd [] w1 hI0).below (fun b hb=>(hR b hb).1) hbel.size hbel.block)
   J Jx (fun pre W1 W2 hj hg=>hJ pre W1 W2 none hj hg (fun r e=>by cases e)) (fun pre W1 W2 hj hg=>hJx pre W1 W2 none hj hg (fun r e=>by cases e)) (fun pre j W1 hj hl=>hY pre j W1 hj hl) h0
  case len =>
   have:=hzl
   rw[←hgle] at this
   simp only[ì,decide_eq_true_eq] at this
   omega
  case cells =>
   intro W' hW j hj
   obtain⟨q1,q2,q3,q4⟩:=hgb (by omega)
   obtain⟨vs,r1,r2⟩:=q4 j (gz gl j) (by simp[gz,List.getElem?_eq_getElem hj])
   have r2:=r2.keep (w':=W') (hW.2.1 gb ⟨by omega,rfl⟩)
   rw[aSj r1] at r2
   refine⟨?_,?_,?_,?_,?_,?_,?_,?_⟩
   ·simpa using r2 0 _ rfl
   ·simpa[Nat.add_assoc] using r2 1 _ rfl
   ·simpa[Nat.add_assoc] using r2 2 _ rfl
   ·simpa[Nat.add_assoc] using r2 3 _ rfl
   ·simpa[Nat.add_assoc] using r2 4 _ rfl
   ·simpa[Nat.add_assoc] using r2 5 _ rfl
   ·simpa[Nat.add_assoc] using r2 6 _ rfl
   ·simpa[Nat.add_assoc] using r2 7 _ rfl
  case maps =>
   intro W' hW
   obtain⟨_,_,h3,mb,h4,h5,h6⟩:=id hW
   refine⟨.map (some mb),fun W'' hg=>?_⟩
   obtain⟨k1,_,k3,mb',k4,k5,k6⟩:=hW.grown (fun b hb=>(hR b hb).1) hg
   have:mb'=mb:=by
    have e:=World.cell?_of_block (a:=⟨tb,0,none⟩) (hg.block tb (Nat.lt_of_lt_of_le h3 hW.1) (by simp))
    rw[e,h5] at k5
    cases k5; rfl
   subst this
   exact⟨k5,fun j _=>aZv k6 _⟩
 rw[aUR]
 refine wpIn_block (aF5 (n:=2) rfl (by omega) hg trivial (fun args w=>?eg) hseq (fun h k=>fun q=>k (h q)) (fun W l o o' hl ho _ _ hW=>?kb) (Below.refl _ _) (fun _=>rfl) (CI G p v ν2 w1) (CI.own s2'.heap) hI0 (fun l pre j W hl _ hI hlt=>?round) (fun D xs W hD hxs hI hDo=>?done))
 case eg=>simp[callFunc,Sem.run_bind,run_program,Result.andThen_ok,Tryz.func218,plain 218 _ Tryz.func218,show Tryz.f218.body.isNone=false from rfl]; rfl
 case kb=>exact hW.below (fun b hb=>(hR b hb).1) (by simp[World.putObj]) fun b hb=>World.putObj_heap_other (by omega)
 case round =>
  have hf:∀u:Value,((#[60]:Array Tmp).zip #[u]).foldl (fun t (p,v)=>t.setIfInBounds p v) a1.tmps=a1.tmps.setIfInBounds 60 u:=fun u=>by simp
  show Code.wpIn (Fence.wide.inRound l) 0 Tryz.prog _ _ ⟨((#[60]:Array Tmp).zip #[encG (gz gl j)]).foldl (fun t (p,v)=>t.setIfInBounds p v) a1.tmps,[]⟩ W
  rw[hf]
  refine wpIn_mono (aXN s2' l pre j W hl hI ?_ (u:=encG (gz gl j)) (by rw[hgle]; exact fun ν h w=>a1x _ ν h w)) fun e a' Wa ha=>?_
  ·refine aZl hzl ?_
   have:=aQ5 (fun j=>aAh (ŏ v) (gz gl j).1) gl.length
   rw[←hgle]
   omega
  ·cases e with
   | normal =>
     refine⟨ha.1,fun r' hr=>wpIn_mono (ha.2 r' hr) fun e a3 W3 hb=>?_⟩
     cases e with
     |normal=>exact⟨hb.1,fun _=>hnd _ _ hb.2,hb.2⟩
     |_=>exact hb
   |_=>exact ha
 case done =>
  subst hxs
  obtain⟨ν',Hd,evd⟩:=hI
  have hzz:(aF3 (fun j=>aAh (ŏ v) (gz gl j).1) gl.length).map (gz (î v))=z:=by rw[hzs,hgle]
  rw[hzz] at Hd evd
  have hml:=apG s2'.heap evd (a0h p v) (aSK _ _) (t:=[false]) (by simp)
  have ht:(cS p (ě v z)).t=(cS p v).t:=cS_t _ _ _
  have simD:Sim ν' (cS p (ě v z)) a1 W:=by
   refine⟨s2'.defers,?_,fun i=>?_,Hd⟩
   ·rw[ht]; exact s2'.len
   ·rw[ht]; exact VR.pin evd (aPN rfl _ (a0P p v) i) (s2'.tmps i)
  exact aZT simD hB hDo (aI5 Hd hml hD hDo rfl) (evw.trans (evd.mono (Nat.zero_le _)) (Nat.le_refl _)) (Nat.le_trans evw.size hD)
theorem aX7:Î Tryz.prog 79 ah2:=fun G x y hF w vals hG hAL=>aZV G x y hF w vals hG hAL
end Go.Proofs.ZzM
end
noncomputable section
set_option maxRecDepth 100000
namespace Go.Proofs.ZzM
open Go Go.Am
theorem aVu:Î Tryz.prog 29 aIo:=Ç (ay7 _) (fun {_}=>Ċ Æ _) hmix (tab:=aqK _) rfl Æ (Å fun x=>aGb x some)
theorem aZ5:Î Tryz.prog 13 aTm:=Ç (aw7 _) (fun {_}=>Ċ (Á aVu Æ) _) hmix (tab:=ay6 _) rfl (Á aGa Æ) (Å fun x=>aOu x some)
theorem a0e:Î Tryz.prog 54 aTv:=Ç (apM _) (fun {_}=>Ċ (Á agk Æ) _) hmix (tab:=azR _) rfl (Á aHF (Á aHE Æ)) (Å fun x=>aPA x some)
theorem ad1:Î Tryz.prog 130 ũ:=Ç (Ŕ _) (fun {_}=>Ċ Æ _) hmix (tab:=ι _) rfl (Á afj Æ) (Å fun x=>afY x some)
theorem aAb:Î Tryz.prog 87 anJ:=Ç (arJ _) (fun {_}=>Ċ (Á ad1 Æ) _) hmix (tab:=anh _) rfl Æ (Å fun x=>aA5 x some)
theorem aBb:Î Tryz.prog 224 amS:=Ç (ajA _) (fun {_}=>Ċ Æ _) hmix (tab:=ahc _) rfl Æ (Å fun x=>aqt x some)
theorem apl:Î Tryz.prog 227 akw:=Ç (asV _) (fun {_}=>Ċ (Á awC Æ) _) hmix (tab:=avv _) rfl (Á aEh Æ) (Å fun x=>aLL x some)
theorem aFG:Î Tryz.prog 277 ase:=Ç (avw _) (fun {_}=>Ċ (Á aT8 (Á aYe Æ)) _) hmix (tab:=aoH _) rfl Æ (Å fun x=>aEj x some)
theorem a1I:Î Tryz.prog 262 aWr:=Ç (aPq _) (fun {_}=>Ċ (Á apl (Á aFG Æ)) _) hmix (tab:=aEq _) rfl Æ (Å fun x=>aRX x some)
theorem aMW:Î Tryz.prog 225 atQ:=Ç (aoK _) (fun {_}=>Ċ (Á a1I Æ) _) hmix (tab:=ak2 _) rfl Æ (Å fun x=>ax8 x some)
theorem aSG:Î Tryz.prog 287 aRh:=Ç (aPo _) (fun {_}=>Ċ Æ _) hmix (tab:=aEn _) rfl Æ (Å fun x=>aRV x some)
theorem arV:Î Tryz.prog 278 aqI:=Ç (ane _) (fun {_}=>Ċ (Á apl (Á aSG Æ)) _) hmix (tab:=ajz _) rfl Æ (Å fun x=>avA x some)
theorem aYg:Î Tryz.prog 281 aWs:=Ç (aPs _) (fun {_}=>Ċ (Á apl (Á aFG Æ)) _) hmix (tab:=aEs _) rfl Æ (Å fun x=>aRZ x some)
theorem aYf:Î Tryz.prog 263 aOa:=aB7 (asX _) (aPr _) (fun {_}=>aA8 (Á awC (Á arV (Á aYg (Á aSG Æ)))) (asX _) rfl rfl rfl rfl rfl (ż rfl)) (fun {_}=>Ċ (Á awC (Á arV (Á aYg (Á aSG Æ)))) _) rfl hmix (tab:=al3 _) rfl Æ (us:=azL) rfl (Á (by kernel_rfl) Æ) (Å fun x=>aLQ x some)
theorem aMV:Î Tryz.prog 226 atO:=Ç (aoJ _) (fun {_}=>Ċ (Á aYf Æ) _) hmix (tab:=ak1 _) rfl Æ (Å fun x=>ax7 x some)
theorem aJv:Î Tryz.prog 171 aw3:=Ç (azU _) (fun {_}=>Ċ (Á aFH (Á awD (Á aBb (Á aMW (Á aMV Æ))))) _) hmix (tab:=arN _) rfl Æ (Å fun x=>aHL x some)
theorem aQz:Î Tryz.prog 172 aCn:=Ç (aEJ _) (fun {_}=>Ċ Æ _) hmix (tab:=avQ _) rfl Æ (Å fun x=>aMc x some)
theorem aQx:Î Tryz.prog 228 aCk:=Ç (aEm _) (fun {_}=>Ċ Æ _) hmix (tab:=avx _) rfl Æ (Å fun x=>aLO x some)
theorem aT9:Î Tryz.prog 173 aJ3:=Ç (aIZ _) (fun {_}=>Ċ (Á apl (Á aQx Æ)) _) hmix (tab:=azN _) rfl Æ (Å fun x=>aPu x some)
theorem aQy:Î Tryz.prog 174 aCl:=Ç (aEt _) (fun {_}=>Ċ (Á apl (Á aQx Æ)) _) hmix (tab:=avB _) rfl Æ (Å fun x=>aLR x some)
theorem aUa:Î Tryz.prog 200 aJ4:=Ç (aI0 _) (fun {_}=>Ċ (Á aJv (Á aQz (Á aT9 (Á aQy Æ)))) _) hmix (tab:=azP _) rfl Æ (Å fun x=>aPx x some)
theorem aUb:Î Tryz.prog 62 aJ5:=Ç (ak3 _) (fun {_}=>Ċ (Á a0e (Á aFI (Á aAb (Á awD (Á aUc (Á aUa Æ)))))) _) hmix (tab:=azQ _) rfl (Á aHC (Á aHD (Á aHB Æ))) (Å fun x=>aPz x some)
theorem Ť:Î Tryz.prog 20 Ţ:=Ç (azY _) (fun {_}=>Ċ (Á ł (Á aUb Æ)) _) hmix (tab:=arO _) rfl Æ (Å fun x=>aHQ x some)
theorem aeF:Î Tryz.prog 60 aeu:=Ç (aEM _) (fun {_}=>Ċ (Á ł (Á aFI (Á ad1 Æ))) _) hmix (tab:=av0 _) rfl Æ (Å fun x=>aMo x some)
theorem agj:Î Tryz.prog 55 aeQ:=Ç (auP _) (fun {_}=>Ċ (Á aeF Æ) _) hmix (tab:=aol _) rfl Æ (Å fun x=>aDx x some)
theorem aMU:Î Tryz.prog 134 aBo:=Ç (aIT _) (fun {_}=>Ċ Æ _) hmix (tab:=azC _) rfl Æ (Å fun x=>aPd x some)
theorem apk:Î Tryz.prog 133 akv:=Ç (asU _) (fun {_}=>Ċ (Á aMU Æ) _) hmix (tab:=avq _) rfl (Á aD9 Æ) (Å fun x=>aLI x some)
theorem apj:Î Tryz.prog 135 aiP:=Ç (Η _) (fun {_}=>Ċ Æ _) hmix (tab:=am8 _) rfl (Á avk (Á avj (Á avh (Á avi (Á avg Æ))))) (Å fun x=>aAV x some)
theorem aYb:Î Tryz.prog 63 aN7:=Ç (asT _) (fun {_}=>Ċ (Á apk (Á aMU (Á apj Æ))) _) hmix (tab:=avn _) rfl (Á aD1 Æ) (Å fun x=>aLG x some)
theorem aVH:Î Tryz.prog 64 aIB:=Ç (adX _) (fun {_}=>Ċ Æ _) hmix (tab:=art _) rfl (Á aA1 (Á aA0 (Á aAZ (Á aAX (Á aAY Æ))))) (Å fun x=>aHj x some)
theorem aFF:Î Tryz.prog 89 atM:=Ç (aEf _) (fun {_}=>Ċ (Á aYb (Á aVH Æ)) _) hmix (tab:=avu _) rfl Æ (Å fun x=>aLK x some)
theorem agv:Î Tryz.prog 56 aet:=Ç (am0 _) (fun {_}=>Ċ (Á aFF Æ) _) hmix (tab:=aji _) rfl Æ (Å fun x=>auO x some)
theorem arU:Î Tryz.prog 121 ajR:=Ç (amZ _) (fun {_}=>Ċ (Á agj (Á agv Æ)) _) hmix (tab:=ajh _) rfl Æ (Å fun x=>auN x some)
theorem alp:Î Tryz.prog 122 afU:=Ç (aif _) (fun {_}=>Ċ (Á agj (Á agv Æ)) _) hmix (tab:=agI _) rfl Æ (Å fun x=>aok x some)
theorem agi:Î Tryz.prog 51 ad6:=Ç (aeV _) (fun {_}=>aA8 (Á arU (Á alp Æ)) (aeV _) rfl rfl rfl rfl rfl (ż rfl)) hmix (tab:=agH _) rfl Æ (Å fun x=>aoj x some)
theorem ajM:Î Tryz.prog 61 aiQ:=Ç (ayg _) (fun {_}=>Ċ (Á ł Æ) _) hmix (tab:=az0 _) rfl (Á aHS Æ) (Å fun x=>aPI x some)
theorem š:Î Tryz.prog 123 ş:=Ç (ana _) (fun {_}=>Ċ (Á apk (Á apj Æ)) _) hmix (tab:=ajs _) rfl Æ (Å fun x=>avo x some)
theorem aQv:Î Tryz.prog 15 ay5:=Ç (aj0 _) (fun {_}=>Ċ (Á Ť (Á ł (Á agi (Á aeF (Á ajM (Á š Æ)))))) _) hmix (tab:=am3 _) rfl (Á avc Æ) (Å fun x=>aAP x some)
theorem aSF:Î Tryz.prog 17 aCi:=Ç (alX _) (fun {_}=>Ċ (Á Ť (Á ł (Á agj (Á agv (Á aeF (Á ajM (Á š Æ))))))) _) hmix (tab:=aoz _) rfl (Á axQ Æ) (Å fun x=>aDS x some)
theorem aJw:Î Tryz.prog 129 aw4:=Ç (az1 _) (fun {_}=>Ċ (Á awD (Á aJu Æ)) _) hmix (tab:=arP _) rfl Æ (Å fun x=>aHT x some)
theorem a0b:Î Tryz.prog 57 aTs:=Ç (aIS _) (fun {_}=>Ċ (Á aJw Æ) _) hmix (tab:=azs _) rfl Æ (Å fun x=>aOW x some)
theorem aX6:Î Tryz.prog 58 aN3:=Ç (aDD _) (fun {_}=>Ċ Æ _) hmix (tab:=au1 _) rfl Æ (Å fun x=>aLl x some)
theorem aX5:Î Tryz.prog 59 aN2:=Ç (asK _) (fun {_}=>Ċ (Á Œ Æ) _) hmix (tab:=au0 _) rfl (Á aDy Æ) (Å fun x=>aLj x some)
theorem a0c:Î Tryz.prog 18 aTt:=Ç (apJ _) (fun {_}=>Ċ (Á Ť (Á ł (Á agi (Á a0b (Á aX6 (Á aX5 (Á aeF (Á ajM (Á š Æ))))))))) _) hmix (tab:=azA _) rfl (Á aHd (Á aHc Æ)) (Å fun x=>aO8 x some)
theorem ath:Î Tryz.prog 69 asb:=Ç (auM _) (fun {_}=>Ċ Æ _) hmix (tab:=aoh _) rfl Æ (Å fun x=>aDv x some)
theorem aX9:Î Tryz.prog 25 aN5:=Ç (asP _) (fun {_}=>Ċ (Á Ť (Á ł (Á agi (Á aeF (Á ajM (Á ath (Á š Æ))))))) _) hmix (tab:=avb _) rfl (Á aDM Æ) (Å fun x=>aLz x some)
theorem aUd:Î Tryz.prog 41 aJ8:=Ç (aye _) (fun {_}=>Ċ (Á ł Æ) _) hmix (tab:=azX _) rfl (Á aHP Æ) (Å fun x=>aPG x some)
theorem aYi:Î Tryz.prog 90 aOc:=Ç (aEx _) (fun {_}=>Ċ (Á aJv (Á aQz (Á aT9 (Á aQy Æ)))) _) hmix (tab:=avD _) rfl Æ (Å fun x=>aLV x some)
theorem aSJ:Î Tryz.prog 40 aCo:=Ç (avY _) (fun {_}=>Ċ (Á aUd (Á aUb (Á aAb (Á awD (Á aFF (Á aYi Æ)))))) _) hmix (tab:=aoV _) rfl Æ (Å fun x=>aEL x some)
theorem aYh:Î Tryz.prog 205 aOb:=Ç (aEv _) (fun {_}=>Ċ (Á ł Æ) _) hmix (tab:=avC _) rfl Æ (Å fun x=>aLU x some)
theorem a0g:Î Tryz.prog 142 aTx:=Ç (aI1 _) (fun {_}=>Ċ (Á aUa (Á aYh Æ)) _) hmix (tab:=azZ _) rfl Æ (Å fun x=>aPH x some)
theorem aQu:Î Tryz.prog 143 ay4:=Ç (arm _) (fun {_}=>Ċ (Á agj Æ) _) hmix (tab:=am2 _) rfl Æ (Å fun x=>aAL x some)
theorem aQt:Î Tryz.prog 144 ay3:=Ç (arl _) (fun {_}=>Ċ (Á agv Æ) _) hmix (tab:=am1 _) rfl Æ (Å fun x=>aAK x some)
theorem ayL:Î Tryz.prog 71 aw0:=Ç (ajk _) (fun {_}=>aA8 (Á Ť (Á aSJ (Á aUd (Á agj (Á aJw (Á a0g (Á aQu (Á aQt Æ)))))))) (ajk _) rfl rfl rfl rfl rfl (ż rfl)) hmix (tab:=ark _) rfl (Á aAJ Æ) (Å fun x=>aG5 x some)
theorem amJ:Î Tryz.prog 95 als:=Ç (aop _) (fun {_}=>Ċ Æ _) hmix (tab:=akK _) rfl Æ (Å fun x=>axB x some)
theorem aVG:Î Tryz.prog 177 aIA:=Ç (azu _) (fun {_}=>Ċ Æ _) hmix (tab:=arn _) rfl Æ (Å fun x=>aG6 x some)
theorem aki:Î Tryz.prog 99 ajP:=Ç (amX _) (fun {_}=>Ċ (Á aVG Æ) _) hmix (tab:=ajf _) rfl Æ (Å fun x=>auK x some)
theorem akj:Î Tryz.prog 101 ajQ:=Ç (aeJ _) (fun {_}=>Ċ Æ _) hmix (tab:=ajg _) rfl (Á aqp (Á aqq Æ)) (Å fun x=>auL x some)
theorem aFC:Î Tryz.prog 72 anI:=Ç (af2 _) (fun {_}=>Ċ (Á Œ (Á amJ (Á aki (Á akj Æ)))) _) hmix (tab:=aib _) rfl (Á aog Æ) (Å fun x=>asE x some)
theorem aX8:Î Tryz.prog 31 aN4:=Ç (asN _) (fun {_}=>Ċ (Á Ť (Á ł (Á aeF (Á ajM (Á ayL (Á aFC (Á š Æ))))))) _) hmix (tab:=au4 _) rfl (Á aDH Æ) (Å fun x=>aLt x some)
theorem aFE:Î Tryz.prog 145 asd:=Ç (alZ _) (fun {_}=>Ċ Æ _) hmix (tab:=aoB _) rfl (Á axX Æ) (Å fun x=>aDU x some)
theorem aT7:Î Tryz.prog 146 aJ1:=Ç (axR _) (fun {_}=>Ċ Æ _) hmix (tab:=azB _) rfl (Á aHh Æ) (Å fun x=>aPc x some)
theorem aH3:Î Tryz.prog 76 aqH:=Ç (anc _) (fun {_}=>Ċ (Á apk (Á aMU (Á aFE (Á aT7 Æ)))) _) hmix (tab:=ajv _) rfl Æ (Å fun x=>avs x some)
theorem awB:Î Tryz.prog 33 alt:=Ç (aow _) (fun {_}=>Ċ (Á Ť (Á ł (Á aeF (Á aH3 Æ)))) _) hmix (tab:=akU _) rfl Æ (Å fun x=>axM x some)
theorem aH2:Î Tryz.prog 86 aqG:=Ç (anb _) (fun {_}=>Ċ (Á apk (Á aFE (Á aT7 Æ))) _) hmix (tab:=aju _) rfl Æ (Å fun x=>avr x some)
theorem aH1:Î Tryz.prog 39 aqF:=Ç (am4 _) (fun {_}=>Ċ (Á Ť (Á ł (Á aH2 Æ))) _) hmix (tab:=ajq _) rfl Æ (Å fun x=>ave x some)
theorem ag9:Î Tryz.prog 254 adA:=Ç (Ń _) (fun {_}=>Ċ Æ _) hmix (tab:=Β _) rfl (Á aeT Æ) (Å fun x=>afl x some)
theorem afN:Î Tryz.prog 210 Ρ:=Ç (Ŵ _) (fun {_}=>Ċ (Á ag9 Æ) _) hmix (tab:=Š _) rfl Æ (Å fun x=>aew x some)
theorem akh:Î Tryz.prog 256 aes:=Ç (Ū _) (fun {_}=>Ċ Æ _) hmix (tab:=adC _) rfl (Á afX Æ) (Å fun x=>ag1 x some)
theorem ahI:Î Tryz.prog 213 adO:=Ç (adh _) (fun {_}=>Ċ (Á akh Æ) _) hmix (tab:=Φ _) rfl Æ (Å fun x=>afM x some)
theorem aiI:Î Tryz.prog 258 adT:=Ç (ŕ _) (fun {_}=>Ċ Æ _) hmix (tab:=κ _) rfl (Á afk Æ) (Å fun x=>afZ x some)
theorem agW:Î Tryz.prog 216 adf:=Ç (Χ _) (fun {_}=>Ċ (Á aiI Æ) _) hmix (tab:=ų _) rfl Æ (Å fun x=>afd x some)
theorem aMS:Î Tryz.prog 77 aJ0:=Ç (Ÿ _) (fun {_}=>Ċ (Á afN (Á ahI (Á agW Æ))) _) hmix (tab:=azt _) rfl (Á aG3 (Á aG0 (Á aGZ (Á aG1 (Á aG2 (Á aGY (Á aGX (Á aGW (Á aGV (Á aGU Æ)))))))))) (Å fun x=>aOX x some)
theorem aJt:Î Tryz.prog 35 aw1:=Ç (azz _) (fun {_}=>Ċ (Á awB (Á ł (Á aH1 (Á aMS Æ)))) _) hmix (tab:=arp _) rfl Æ (Å fun x=>aHb x some)
theorem aQw:Î Tryz.prog 156 aCj:=Ç (axY _) (fun {_}=>Ċ Æ _) hmix (tab:=aPe _) rfl (Á aRR (Á aRP (Á aRO (Á aRQ Æ)))) (Å fun x=>aWZ x some)
theorem aYc:Î Tryz.prog 78 aN8:=Ç (aeX _) (fun {_}=>Ċ (Á apk (Á apj (Á aQw Æ))) _) hmix (tab:=avp _) rfl (Á aD7 (Á aD3 (Á aD4 (Á aD5 (Á aD6 Æ))))) (Å fun x=>aLH x some)
theorem aFD:Î Tryz.prog 80 asc:=Ç (alL _) (fun {_}=>Ċ (Á Ť Æ) _) hmix (tab:=aoi _) rfl (Á axx Æ) (Å fun x=>aDw x some)
theorem aYa:Î Tryz.prog 36 aN6:=Ç (aDP _) (fun {_}=>Ċ (Á Ť (Á aYc (Á aX7 (Á aFD Æ)))) _) hmix (tab:=avd _) rfl Æ (Å fun x=>aLA x some)
theorem awA:Î Tryz.prog 96 atK:=Ç (aos _) (fun {_}=>Ċ Æ _) hmix (tab:=akS _) rfl Æ (Å fun x=>axI x some)
theorem awz:Î Tryz.prog 97 atJ:=Ç (aoq _) (fun {_}=>Ċ Æ _) hmix (tab:=akL _) rfl Æ (Å fun x=>axC x some)
theorem aSD:Î Tryz.prog 42 aCg:=aB7 (alR _) (Ď _) (fun {_}=>aA8 (Á Ť (Á ł (Á aeF (Á ajM (Á ath (Á ayL (Á Œ (Á amJ (Á awA (Á awz (Á aki (Á akj (Á š Æ))))))))))))) (alR _) rfl rfl rfl rfl rfl (ż rfl)) (fun {_}=>aA8 (Á Ť (Á ł (Á aeF (Á ajM (Á ath (Á ayL (Á Œ (Á amJ (Á awA (Á awz (Á aki (Á akj (Á š Æ))))))))))))) (Ď _) rfl rfl rfl rfl rfl (ż rfl)) rfl hmix (tab:=aik _) rfl (Á axH (Á axG Æ)) (us:=ajY) rfl (Á (by kernel_rfl) Æ) (Å fun x=>aDJ x some)
theorem aQp:Î Tryz.prog 48 ay1:=Ç (aqJ _) (fun {_}=>Ċ Æ _) hmix (tab:=amT _) rfl Æ (Å fun x=>aAn x some)
theorem aYd:Î Tryz.prog 120 aN9:=Ç (ail _) (fun {_}=>Ċ (Á aFF (Á aQw Æ)) _) hmix (tab:=avt _) rfl (Á aEd (Á aEb (Á aEc Æ))) (Å fun x=>aLJ x some)
theorem aMT:Î Tryz.prog 119 atL:=Ç (aoy _) (fun {_}=>Ċ (Á agj (Á aYd Æ)) _) hmix (tab:=akV _) rfl Æ (Å fun x=>axP x some)
theorem aSE:Î Tryz.prog 49 aCh:=Ç (afu _) (fun {_}=>aA8 (Á Ť (Á ł (Á aeF (Á ajM (Á aX7 (Á aFD (Á aMT (Á arU (Á alp (Á š Æ)))))))))) (afu _) rfl rfl rfl rfl rfl (ż rfl)) hmix (tab:=aox _) rfl (Á axO (Á axN Æ)) (Å fun x=>aDR x some)
theorem aSA:Î Tryz.prog 14 aCb:=Ç (aua _) (fun {_}=>Ċ (Á aQv (Á aSF (Á a0c (Á aX9 (Á aX8 (Á awB (Á aJt (Á aYa (Á aSD (Á aQp (Á aSE Æ))))))))))) _) hmix (tab:=anN _) rfl Æ (Å fun x=>aCx x some)
theorem a0d:Î Tryz.prog 43 aTu:=aB7 (axJ _) (aRL _) (fun {_}=>aA8 (Á ł (Á aMS Æ)) (axJ _) rfl rfl rfl rfl rfl (ż rfl)) (fun {_}=>Ċ (Á ł (Á aMS Æ)) _) rfl hmix (tab:=aot _) rfl Æ (us:=aDK) rfl (Á (by kernel_rfl) Æ) (Å fun x=>aO9 x some)
theorem ajL:Î Tryz.prog 102 agw:=Ç (aqW _) (fun {_}=>Ċ Æ _) hmix (tab:=amV _) rfl Æ (Å fun x=>aAq x some)
theorem aFA:Î Tryz.prog 180 awZ:=Ç (aOH _) (fun {_}=>Ċ Æ _) hmix (tab:=aDd _) rfl Æ (Å fun x=>aRs x some)
theorem aBJ:Î Tryz.prog 108 atH:=Ç (aIM _) (fun {_}=>Ċ (Á aFA Æ) _) hmix (tab:=azh _) rfl Æ (Å fun x=>aOK x some)
theorem aT5:Î Tryz.prog 234 aJY:=Ç (axt _) (fun {_}=>Ċ Æ _) hmix (tab:=azo _) rfl (Á aGP Æ) (Å fun x=>aOS x some)
theorem aT6:Î Tryz.prog 235 aJZ:=Ç (aIR _) (fun {_}=>Ċ Æ _) hmix (tab:=azr _) rfl Æ (Å fun x=>aOV x some)
theorem aVD:Î Tryz.prog 179 aIx:=Ç (azj _) (fun {_}=>Ċ (Á aT5 (Á aT6 Æ)) _) hmix (tab:=arf _) rfl Æ (Å fun x=>aGN x some)
theorem aVB:Î Tryz.prog 103 aIv:=Ç (azc _) (fun {_}=>Ċ (Á ajL (Á aBJ (Á aVD (Á aFA Æ)))) _) hmix (tab:=aq0 _) rfl Æ (Å fun x=>aGq x some)
theorem awy:Î Tryz.prog 182 anH:=Ç (asA _) (fun {_}=>Ċ Æ _) hmix (tab:=auz _) rfl (Á aDf Æ) (Å fun x=>aKO x some)
theorem aqe:Î Tryz.prog 109 akt:=Ç (aze _) (fun {_}=>Ċ (Á awy Æ) _) hmix (tab:=aq4 _) rfl Æ (Å fun x=>aGy x some)
theorem aXW:Î Tryz.prog 104 aNT:=Ç (asp _) (fun {_}=>Ċ (Á aBJ (Á aqe Æ)) _) hmix (tab:=auh _) rfl (Á aCK Æ) (Å fun x=>aKs x some)
theorem aVz:Î Tryz.prog 105 aIt:=Ç (agF _) (fun {_}=>Ċ (Á ajL (Á aqe (Á aFA Æ))) _) hmix (tab:=aqY _) rfl (Á aAs (Á aAr (Á aAt Æ))) (Å fun x=>aGo x some)
theorem aX0:Î Tryz.prog 181 aNX:=Ç (asv _) (fun {_}=>Ċ (Á aFA Æ) _) hmix (tab:=aus _) rfl (Á aCY Æ) (Å fun x=>aKG x some)
theorem aVy:Î Tryz.prog 106 aIs:=Ç (ay9 _) (fun {_}=>Ċ (Á ajL (Á aBJ (Á aFA (Á aX0 Æ)))) _) hmix (tab:=aqX _) rfl Æ (Å fun x=>aGn x some)
theorem aQq:Î Tryz.prog 183 aCc:=Ç (asx _) (fun {_}=>Ċ Æ _) hmix (tab:=auu _) rfl (Á aC8 Æ) (Å fun x=>aKJ x some)
theorem aZ6:Î Tryz.prog 236 aTn:=Ç (axl _) (fun {_}=>Ċ Æ _) hmix (tab:=azf _) rfl (Á aGF Æ) (Å fun x=>aOI x some)
theorem aQr:Î Tryz.prog 184 aCd:=Ç (asy _) (fun {_}=>Ċ (Á aZ6 Æ) _) hmix (tab:=auv _) rfl (Á aDa Æ) (Å fun x=>aKK x some)
theorem aMQ:Î Tryz.prog 107 atG:=Ç (adU _) (fun {_}=>Ċ (Á aqe (Á awy (Á aQq (Á aQr Æ)))) _) hmix (tab:=akG _) rfl (Á ass (Á asr (Á asq Æ))) (Å fun x=>axh x some)
theorem aMP:Î Tryz.prog 187 aBn:=Ç (aIL _) (fun {_}=>Ċ (Á aQr Æ) _) hmix (tab:=aza _) rfl Æ (Å fun x=>aOy x some)
theorem aXX:Î Tryz.prog 185 aNU:=Ç (alE _) (fun {_}=>Ċ (Á aMP Æ) _) hmix (tab:=aul _) rfl (Á aCR (Á aCQ Æ)) (Å fun x=>aKy x some)
theorem aqf:Î Tryz.prog 110 aku:=Ç (adi _) (fun {_}=>Ċ (Á aXX Æ) _) hmix (tab:=aq6 _) rfl (Á aAA (Á aAz (Á aAy (Á aAv (Á aAw (Á aAx Æ)))))) (Å fun x=>aGA x some)
theorem ayJ:Î Tryz.prog 115 apB:=Ç (an7 _) (fun {_}=>Ċ (Á aqf Æ) _) hmix (tab:=ara _) rfl (Á aAB Æ) (Å fun x=>aGE x some)
theorem aXY:Î Tryz.prog 237 aNV:=Ç (ast _) (fun {_}=>Ċ Æ _) hmix (tab:=aum _) rfl (Á aCT Æ) (Å fun x=>aKz x some)
theorem aX1:Î Tryz.prog 186 aNY:=Ç (asw _) (fun {_}=>Ċ (Á awy (Á aQq (Á aXY Æ))) _) hmix (tab:=aut _) rfl (Á aC6 Æ) (Å fun x=>aKI x some)
theorem aFB:Î Tryz.prog 290 asa:=Ç (auE _) (fun {_}=>Ċ (Á aT5 (Á aT6 Æ)) _) hmix (tab:=aof _) rfl Æ (Å fun x=>aDo x some)
theorem a0a:Î Tryz.prog 282 aTr:=Ç (aIQ _) (fun {_}=>Ċ (Á aFB Æ) _) hmix (tab:=azq _) rfl Æ (Å fun x=>aOU x some)
theorem aZ8:Î Tryz.prog 283 aTp:=Ç (aIO _) (fun {_}=>Ċ Æ _) hmix (tab:=azm _) rfl Æ (Å fun x=>aOQ x some)
theorem aZ7:Î Tryz.prog 264 aTo:=Ç (aIN _) (fun {_}=>Ċ (Á a0a (Á aZ8 Æ)) _) hmix (tab:=azk _) rfl Æ (Å fun x=>aOP x some)
theorem aVA:Î Tryz.prog 265 aIu:=Ç (azb _) (fun {_}=>Ċ (Á awy Æ) _) hmix (tab:=aqZ _) rfl Æ (Å fun x=>aGp x some)
theorem aX3:Î Tryz.prog 284 aN0:=Ç (aDr _) (fun {_}=>Ċ Æ _) hmix (tab:=auG _) rfl Æ (Å fun x=>aKV x some)
theorem aZ9:Î Tryz.prog 285 aTq:=Ç (aIP _) (fun {_}=>Ċ (Á aFB Æ) _) hmix (tab:=azn _) rfl Æ (Å fun x=>aOR x some)
theorem aVE:Î Tryz.prog 266 aIy:=Ç (azl _) (fun {_}=>Ċ (Á aX3 (Á aZ9 Æ)) _) hmix (tab:=arh _) rfl Æ (Å fun x=>aGO x some)
theorem aSB:Î Tryz.prog 238 aCe:=Ç (auy _) (fun {_}=>Ċ (Á aMP (Á aZ7 (Á aVA (Á aVE Æ)))) _) hmix (tab:=an8 _) rfl Æ (Å fun x=>aDe x some)
theorem aVC:Î Tryz.prog 239 aIw:=Ç (azg _) (fun {_}=>Ċ Æ _) hmix (tab:=arc _) rfl Æ (Å fun x=>aGI x some)
theorem aX2:Î Tryz.prog 267 aNZ:=Ç (aDp _) (fun {_}=>Ċ Æ _) hmix (tab:=auF _) rfl Æ (Å fun x=>aKU x some)
theorem aVF:Î Tryz.prog 240 aIz:=Ç (azp _) (fun {_}=>Ċ (Á aX2 Æ) _) hmix (tab:=ari _) rfl Æ (Å fun x=>aGQ x some)
theorem a1H:Î Tryz.prog 268 aWq:=Ç (aOM _) (fun {_}=>Ċ Æ _) hmix (tab:=aDn _) rfl Æ (Å fun x=>aRx x some)
theorem aX4:Î Tryz.prog 241 aN1:=Ç (aDt _) (fun {_}=>Ċ (Á a1H Æ) _) hmix (tab:=auI _) rfl Æ (Å fun x=>aK4 x some)
theorem aXZ:Î Tryz.prog 188 aNW:=Ç (aCW _) (fun {_}=>Ċ (Á aSB (Á aVC (Á aVF (Á aX4 Æ)))) _) hmix (tab:=aur _) rfl Æ (Å fun x=>aKF x some)
theorem aT3:Î Tryz.prog 111 aJW:=Ç (akH _) (fun {_}=>Ċ (Á aqf (Á ayJ (Á aX1 (Á aMP (Á aXZ Æ))))) _) hmix (tab:=azd _) rfl (Á aGv (Á aGw (Á aGu Æ))) (Å fun x=>aOB x some)
theorem ayK:Î Tryz.prog 44 apC:=Ç (ae5 _) (fun {_}=>Ċ (Á ajL (Á aVB (Á aXW (Á aVz (Á aVy (Á aMQ (Á aBJ (Á aqe (Á aqf (Á aT3 Æ)))))))))) _) hmix (tab:=ard _) rfl (Á aAF (Á aAD (Á aAE (Á aAC Æ)))) (Å fun x=>aGJ x some)
theorem aVw:Î Tryz.prog 112 aIq:=Ç (anU _) (fun {_}=>Ċ Æ _) hmix (tab:=aqQ _) rfl (Á aAp Æ) (Å fun x=>aGh x some)
theorem aMR:Î Tryz.prog 189 atI:=Ç (aia _) (fun {_}=>Ċ Æ _) hmix (tab:=akI _) rfl (Á asB Æ) (Å fun x=>axp x some)
theorem aBa:Î Tryz.prog 113 amR:=Ç (aiY _) (fun {_}=>Ċ (Á aMR Æ) _) hmix (tab:=aha _) rfl Æ (Å fun x=>aqn x some)
theorem aVv:Î Tryz.prog 190 aIp:=Ç (anS _) (fun {_}=>Ċ Æ _) hmix (tab:=aqP _) rfl (Á aAo Æ) (Å fun x=>aGg x some)
theorem aXU:Î Tryz.prog 114 aNR:=Ç (af1 _) (fun {_}=>Ċ (Á aVv Æ) _) hmix (tab:=aud _) rfl (Á aCB (Á aCC (Á aCz (Á aCA Æ)))) (Å fun x=>aKn x some)
theorem aXV:Î Tryz.prog 45 aNS:=Ç (ah6 _) (fun {_}=>Ċ (Á aVw (Á aBa (Á aXU Æ))) _) hmix (tab:=aue _) rfl (Á aCI (Á aCG (Á aCH Æ))) (Å fun x=>aKq x some)
theorem aFz:Î Tryz.prog 118 ar9:=Ç (auq _) (fun {_}=>Ċ (Á aqf (Á aT3 Æ)) _) hmix (tab:=anZ _) rfl Æ (Å fun x=>aCV x some)
theorem aT4:Î Tryz.prog 191 aJX:=Ç (axo _) (fun {_}=>Ċ Æ _) hmix (tab:=azi _) rfl (Á aGK Æ) (Å fun x=>aOL x some)
theorem aVx:Î Tryz.prog 116 aIr:=Ç (ay8 _) (fun {_}=>Ċ (Á ayJ (Á aFz (Á aT4 Æ))) _) hmix (tab:=aqU _) rfl Æ (Å fun x=>aGl x some)
theorem aH0:Î Tryz.prog 46 aqE:=Ç (amU _) (fun {_}=>Ċ (Á ayK (Á ayJ (Á aVx Æ))) _) hmix (tab:=ai2 _) rfl Æ (Å fun x=>aug x some)
theorem aQs:Î Tryz.prog 192 ay2:=Ç (ajT _) (fun {_}=>Ċ Æ _) hmix (tab:=amW _) rfl (Á auC Æ) (Å fun x=>aAH x some)
theorem aSC:Î Tryz.prog 117 aCf:=Ç (auD _) (fun {_}=>Ċ (Á aT4 (Á aQs Æ)) _) hmix (tab:=aoe _) rfl Æ (Å fun x=>aDm x some)
theorem aFy:Î Tryz.prog 47 anG:=Ç (akF _) (fun {_}=>Ċ (Á ayK (Á aSC (Á aFz Æ))) _) hmix (tab:=ah7 _) rfl Æ (Å fun x=>aso x some)
theorem c_w6_SharpParts:Î Tryz.prog 12 afh:=Ç (akB _) (fun {_}=>Ċ (Á aZ5 (Á aSA (Á aJt (Á a0d (Á ayK (Á aXV (Á aH0 (Á aFy Æ)))))))) _) hmix (tab:=ah4 _) rfl Æ (Å fun x=>asm x some)
end Go.Proofs.ZzM
end