/- lemmas -/
import Derived.Test.YtmadligicacpkaaGreatAmD
import Derived.Test.YtmadligicacpkaaGreatAmE
import Derived.Ground.NamesProg
import Derived.Ground.Names2Prog
import Derived.KernelRfl
import Derived.Test.YtmadligicacpkaaGreatMdMA
import Derived.Test.YtmadligicacpkaaGreatMdKA
import Derived.RangeFuncBox
import Derived.Lib.SliceRun
import Derived.RangeFuncLeaves
import Derived.WalkKit
import Derived.OwnWalkIn
import Derived.TacticsInMore
import Derived.LoopNIn
import Derived.LoopIn
import Derived.Test.YtmadligicacpkaaGreatProg
import Derived.RangeFuncFrom
import Derived.RangeFuncRecord
set_option linter.all false
set_option linter.unusedSectionVars false
set_option linter.unusedVariables false
set_option linter.unusedSimpArgs false
noncomputable section
namespace Go.Proofs
open Go.Shelf
def Tryz.laysSort_ren:Go.Shelf.Ren:=⟨fun|189=>232|125=>262|257=>261|128=>281|129=>282|294=>272|295=>273|296=>274|297=>275|298=>276|299=>277|216=>278|300=>279|301=>280|328=>286|329=>287|330=>288|331=>289|332=>290|215=>291|343=>299|n=>n,fun|28=>53|3=>3|46=>298|0=>0|51=>316|53=>293|4=>4|183=>309|182=>308|131=>265|5=>5|9=>9|218=>324|222=>328|228=>336|229=>337|n=>n,fun|n=>n⟩
theorem Tryz.laysSort:Go.Proofs.Lays.n189 Tryz.prog Tryz.laysSort_ren:={
 mixed:=by kernel_rfl
 f125:=Tryz.func262.trans (congrArg some (by kernel_rfl))
 f128:=Tryz.func281.trans (congrArg some (by kernel_rfl))
 f129:=Tryz.func282.trans (congrArg some (by kernel_rfl))
 f189:=Tryz.func232.trans (congrArg some (by kernel_rfl))
 f215:=Tryz.func291.trans (congrArg some (by kernel_rfl))
 f216:=Tryz.func278.trans (congrArg some (by kernel_rfl))
 f257:=Tryz.func261.trans (congrArg some (by kernel_rfl))
 f294:=Tryz.func272.trans (congrArg some (by kernel_rfl))
 f295:=Tryz.func273.trans (congrArg some (by kernel_rfl))
 f296:=Tryz.func274.trans (congrArg some (by kernel_rfl))
 f297:=Tryz.func275.trans (congrArg some (by kernel_rfl))
 f298:=Tryz.func276.trans (congrArg some (by kernel_rfl))
 f299:=Tryz.func277.trans (congrArg some (by kernel_rfl))
 f300:=Tryz.func279.trans (congrArg some (by kernel_rfl))
 f301:=Tryz.func280.trans (congrArg some (by kernel_rfl))
 f328:=Tryz.func286.trans (congrArg some (by kernel_rfl))
 f329:=Tryz.func287.trans (congrArg some (by kernel_rfl))
 f330:=Tryz.func288.trans (congrArg some (by kernel_rfl))
 f331:=Tryz.func289.trans (congrArg some (by kernel_rfl))
 f332:=Tryz.func290.trans (congrArg some (by kernel_rfl))
 f343:=Tryz.func299.trans (congrArg some (by kernel_rfl))
 t0:=Tryz.underlying0
 a0:=Tryz.isAgg0
 z0:=Tryz.sizeOf0
 v0:=Tryz.zeroValue0
 t3:=Tryz.underlying3
 a3:=Tryz.isAgg3
 z3:=Tryz.sizeOf3
 v3:=Tryz.zeroValue3
 t4:=Tryz.underlying4
 a4:=Tryz.isAgg4
 z4:=Tryz.sizeOf4
 v4:=Tryz.zeroValue4
 t5:=Tryz.underlying5
 a5:=Tryz.isAgg5
 z5:=Tryz.sizeOf5
 v5:=Tryz.zeroValue5
 t9:=Tryz.underlying9
 a9:=Tryz.isAgg9
 z9:=Tryz.sizeOf9
 v9:=Tryz.zeroValue9
 t28:=Tryz.underlying53
 a28:=Tryz.isAgg53
 z28:=Tryz.sizeOf53
 v28:=Tryz.zeroValue53
 t46:=Tryz.underlying298
 a46:=Tryz.isAgg298
 z46:=Tryz.sizeOf298
 v46:=Tryz.zeroValue298
 t51:=Tryz.underlying316
 a51:=Tryz.isAgg316
 z51:=Tryz.sizeOf316
 v51:=Tryz.zeroValue316
 t53:=Tryz.underlying293
 a53:=Tryz.isAgg293
 z53:=Tryz.sizeOf293
 v53:=Tryz.zeroValue293
 t131:=Tryz.underlying265
 a131:=Tryz.isAgg265
 z131:=Tryz.sizeOf265
 v131:=Tryz.zeroValue265
 t182:=Tryz.underlying308
 a182:=Tryz.isAgg308
 z182:=Tryz.sizeOf308
 v182:=Tryz.zeroValue308
 t183:=Tryz.underlying309
 a183:=Tryz.isAgg309
 z183:=Tryz.sizeOf309
 v183:=Tryz.zeroValue309
 t218:=Tryz.underlying324
 a218:=Tryz.isAgg324
 z218:=Tryz.sizeOf324
 v218:=Tryz.zeroValue324
 t222:=Tryz.underlying328
 a222:=Tryz.isAgg328
 z222:=Tryz.sizeOf328
 v222:=Tryz.zeroValue328
 t228:=Tryz.underlying336
 a228:=Tryz.isAgg336
 z228:=Tryz.sizeOf336
 v228:=Tryz.zeroValue336
 t229:=Tryz.underlying337
 a229:=Tryz.isAgg337
 z229:=Tryz.sizeOf337
 v229:=Tryz.zeroValue337}
def Tryz.laysCompact_ren:Go.Shelf.Ren:=⟨fun|20=>233|n=>n,fun|22=>53|3=>3|4=>4|0=>0|n=>n,fun|n=>n⟩
theorem Tryz.laysCompact:Go.Proofs.Lays2.n20 Tryz.prog Tryz.laysCompact_ren:={
 mixed:=by kernel_rfl
 f20:=Tryz.func233.trans (congrArg some (by kernel_rfl))
 t0:=Tryz.underlying0
 a0:=Tryz.isAgg0
 z0:=Tryz.sizeOf0
 v0:=Tryz.zeroValue0
 t3:=Tryz.underlying3
 a3:=Tryz.isAgg3
 z3:=Tryz.sizeOf3
 v3:=Tryz.zeroValue3
 t4:=Tryz.underlying4
 a4:=Tryz.isAgg4
 z4:=Tryz.sizeOf4
 v4:=Tryz.zeroValue4
 t22:=Tryz.underlying53
 a22:=Tryz.isAgg53
 z22:=Tryz.sizeOf53
 v22:=Tryz.zeroValue53
 i3:=by kernel_rfl}
end Go.Proofs
namespace Go.Proofs.ZzM
open Go Go.Am
theorem hmix:Tryz.prog.follows .mixedOrders=true:=by kernel_rfl
theorem plain_ : (Tryz.prog.funcs.toList.all fun fn => !(fn.name == "runtime.NumGoroutine")) = true := by kernel_rfl
theorem plain (f : Nat) (fn : Func) (h : Tryz.prog.funcs[f]? = some fn) : (fn.name == "runtime.NumGoroutine") = false := by
 have:=List.all_eq_true.1 plain_ fn (List.mem_of_getElem? (i:=f) (by simpa using h));simpa using this
theorem a1E:Tryz.laysSort_ren.f 189=232:=by kernel_rfl
theorem aUM:Tryz.laysCompact_ren.f 20=233:=by kernel_rfl
section
variable [ù] {ρ:Type}
theorem sortOk (f:Nat) (hf:aPR f=true) (h:List Blk) (x:AV) (K:AV→List Blk→Option ρ) (q:ρ) (e:aJJ h x K=some q) (ν:Nat→Value) (w:World) (u:Value) (H:HR ν h w) (hx:VR ν h w x u):aAs Tryz.prog f ν h w [u] K q:=by
 have h1:f=232:=by
  unfold aPR at hf
  split at hf
  ·rfl
  ·cases hf
 subst h1;have:=a1x Tryz.laysSort e H hx ⟨_,rfl⟩
 rwa [a1E] at this
theorem aX2 (f:Nat) (hf:apy f=true) (h:List Blk) (x:AV) (K:AV→List Blk→Option ρ) (q:ρ) (e:aid h x K=some q) (ν:Nat→Value) (w:World) (u:Value) (H:HR ν h w) (hx:VR ν h w x u):aAs Tryz.prog f ν h w [u] K q:=by
 have h1:f=233:=by
  unfold apy at hf
  split at hf
  ·rfl
  ·cases hf
 subst h1;have:=aVt Tryz.laysCompact e H hx ⟨_,rfl⟩
 rwa [aUM] at this
theorem a2b:ay6 Tryz.prog aFc:=by
 intro g hg fz S nid x v S' e ν w u H hx hn hd;unfold aFc at hg
 split at hg
 ·exact anb Tryz.func116 (T:=42) (by kernel_rfl) (by kernel_rfl) e H hx hn hd
 ·exact anb Tryz.func130 (T:=53) (by kernel_rfl) (by kernel_rfl) e H hx hn hd
 ·exact anb Tryz.func253 (T:=24) (by kernel_rfl) (by kernel_rfl) e H hx hn hd
 ·exact anb Tryz.func254 (T:=25) (by kernel_rfl) (by kernel_rfl) e H hx hn hd
 ·exact anb Tryz.func255 (T:=26) (by kernel_rfl) (by kernel_rfl) e H hx hn hd
 ·exact anb Tryz.func256 (T:=28) (by kernel_rfl) (by kernel_rfl) e H hx hn hd
 ·exact anb Tryz.func257 (T:=27) (by kernel_rfl) (by kernel_rfl) e H hx hn hd
 ·cases hg
theorem aE7 {pt:List (Nat×Ü)} (h:∀e∈pt,Ò Tryz.prog e.1 e.2) (E:Env ρ) (hP:E.P=Tryz.prog) (h1:E.pure=aVk pt) (h2:E.sort=aPR) (h3:E.compact=apy) (h4:E.clone=aFc) (hj:aUu E):aBz E:=by
 constructor
 ·intro f p hf;rw[h1] at hf;rw[hP];exact h (f,p) (aJj hf)
 ·intro f hf;rw[h2] at hf;rw[hP];exact sortOk f hf
 ·intro f hf;rw[h3] at hf;rw[hP];exact aX2 f hf
 ·rw[hP]; exact plain
 ·rw[hP,h4]; exact a2b
 ·exact hj
theorem ĕ {pt:List (Nat×Ü)} (h:∀e∈pt,Ò Tryz.prog e.1 e.2) (tab:List (à ρ)):aBz (Ý pt tab):=aE7 h _ rfl rfl rfl rfl rfl (adm rfl)
end
end Go.Proofs.ZzM
end
noncomputable section
set_option maxRecDepth 100000
namespace Go.Proofs.ZzM
open Go Go.Am
theorem Ţ:Ò Tryz.prog 81 Ş:=È (adf _) (fun {_}=>ĕ Ç _) hmix (tab:=agk _) rfl (Á ak1 (Á ak0 Ç)) (Æ fun x=>anQ x some)
theorem aDT:∀e∈axU,Ò Tryz.prog e.1 e.2:=(Á Ţ Ç)
theorem aRJ {ρ:Type}:∀e∈as1 ρ,e.Ok (Ÿ ρ):=(Á aLl (Á aLm (Á aLk (Á aLj (Á aLi (Á aLh Ç))))))
theorem azF {ρ:Type}:∀e∈ajH ρ,e.Ok (Ğ ρ):=(Á aHb (Á aHa (Á aG9 Ç)))
theorem aqH:Ò Tryz.prog 131 akU:=È (az3 _) (fun {_}=>ĕ Ç _) hmix (tab:=ar6 _) rfl Ç (Æ fun x=>aHO x some)
theorem agM:Ò Tryz.prog 227 afg:=È (azY _) (fun {_}=>ĕ Ç _) hmix (tab:=ar0 _) rfl Ç (Æ fun x=>aHA x some)
theorem aFW:Ò Tryz.prog 189 auk:=È (aEW _) (fun {_}=>ĕ (Á agM Ç) _) hmix (tab:=av4 _) rfl Ç (Æ fun x=>aL3 x some)
theorem aUb:Ò Tryz.prog 258 aJY:=È (aIU _) (fun {_}=>ĕ Ç _) hmix (tab:=azT _) rfl Ç (Æ fun x=>aPk x some)
theorem aYs:Ò Tryz.prog 259 aRi:=È (aEA _) (fun {_}=>ĕ Ç _) hmix (tab:=aEz _) rfl (Á aLH Ç) (Æ fun x=>aRS x some)
theorem awX:Ò Tryz.prog 226 aug:=È (aED _) (fun {_}=>ĕ (Á aUb (Á aYs Ç)) _) hmix (tab:=avO _) rfl Ç (Æ fun x=>aLJ x some)
theorem aSH:Ò Tryz.prog 187 aCC:=È (av3 _) (fun {_}=>ĕ (Á aqH (Á aFW (Á awX (Á agM Ç)))) _) hmix (tab:=apk _) rfl Ç (Æ fun x=>aEV x some)
theorem aFX:Ò Tryz.prog 132 aob:=È (agD _) (fun {_}=>ĕ (Á aSH Ç) _) hmix (tab:=aiQ _) rfl (Á apl Ç) (Æ fun x=>atl x some)
theorem aFU:Ò Tryz.prog 133 asB:=È (amA _) (fun {_}=>ĕ Ç _) hmix (tab:=apc _) rfl (Á ayl Ç) (Æ fun x=>aEO x some)
theorem ayW:Ò Tryz.prog 78 akP:=È (ae5 _) (fun {_}=>ĕ Ç _) hmix (tab:=ag3 _) rfl (Á al2 Ç) (Æ fun x=>aoh x some)
theorem ahN:Ò Tryz.prog 121 aeB:=È (agj _) (fun {_}=>ĕ (Á ayW Ç) _) hmix (tab:=afk _) rfl Ç (Æ fun x=>akZ x some)
theorem aUf:Ò Tryz.prog 194 aJ2:=È (aqi _) (fun {_}=>ĕ (Á ahN Ç) _) hmix (tab:=az5 _) rfl (Á aHR (Á aHQ Ç)) (Æ fun x=>aPD x some)
theorem aFV:Ò Tryz.prog 135 auj:=È (amD _) (fun {_}=>ĕ (Á aUf Ç) _) hmix (tab:=avV _) rfl (Á aEQ (Á aER Ç)) (Æ fun x=>aLR x some)
theorem akJ:Ò Tryz.prog 190 agP:=È (anJ _) (fun {_}=>ĕ Ç _) hmix (tab:=aj0 _) rfl Ç (Æ fun x=>avT x some)
theorem aSG:Ò Tryz.prog 188 aRk:=È (avU _) (fun {_}=>ĕ (Á aFW (Á akJ Ç)) _) hmix (tab:=apf _) rfl Ç (Æ fun x=>aEP x some)
theorem aMU:Ò Tryz.prog 192 aJ3:=È (afV _) (fun {_}=>ĕ (Á aqH (Á akJ (Á agM Ç))) _) hmix (tab:=alr _) rfl (Á atk (Á atj Ç)) (Æ fun x=>ays x some)
theorem awY:Ò Tryz.prog 199 ap7:=È (aqh _) (fun {_}=>ĕ (Á ahN Ç) _) hmix (tab:=az2 _) rfl (Á aHL (Á aHK Ç)) (Æ fun x=>aPA x some)
theorem aJs:Ò Tryz.prog 204 axl:=È (apj _) (fun {_}=>ĕ (Á agM Ç) _) hmix (tab:=ar5 _) rfl (Á aBq Ç) (Æ fun x=>aHM x some)
theorem a0I:Ò Tryz.prog 231 aTz:=È (ayt _) (fun {_}=>ĕ (Á agM Ç) _) hmix (tab:=az6 _) rfl (Á aHS Ç) (Æ fun x=>aPE x some)
theorem aBw:Ò Tryz.prog 193 aAy:=È (š _) (fun {_}=>ĕ (Á Ţ (Á aqH (Á aFW (Á akJ (Á awY (Á aJs (Á agM (Á a0I Ç)))))))) _) hmix (tab:=ahK _) rfl (Á anW (Á anU (Á anV (Á anT Ç)))) (Æ fun x=>aqV x some)
end Go.Proofs.ZzM
end
noncomputable section
namespace Go.Proofs
open Go.RowKit
attribute [local go_sem] Oper.semAt_some
def aGg (sel:Nat→Bool) (k:Nat):List Nat:=(List.range k).filter sel
theorem atN (sel:Nat→Bool) (k:Nat):aGg sel (k+1)=if sel k then aGg sel k++[k] else aGg sel k:=by
 unfold aGg;rw[List.range_succ,List.filter_append]
 cases h:sel k<;>simp[h]
theorem aQ7 (sel:Nat→Bool) (k:Nat):(aGg sel k).length≤k:=by
 unfold aGg;exact Nat.le_trans (List.length_filter_le _ _) (by simp)
theorem aWq (sel:Nat→Bool) {j k:Nat} (h:j≤k):(aGg sel j).length≤(aGg sel k).length:=by
 obtain⟨d,rfl⟩:∃d,k=j+d:=⟨k-j,by omega⟩;unfold aGg;rw[List.range_add,List.filter_append,List.length_append];omega
theorem a1y {sel:Nat→Bool} {k n:Nat} (h:k<n) (hs:sel k=true):(aGg sel k).length<(aGg sel n).length:=by
 have h1:=aWq sel (j:=k+1) (k:=n) h;rw[atN,hs] at h1;simp at h1;omega
set_option maxRecDepth 100000 in
set_option maxHeartbeats 1000000 in
theorem a1U (te:TypeId) (n:Nat) (hn:1≤n) (l bb tb:Nat) (flo fhi us lo co ko:Value) (gb go len cap:Nat) (gbase:Option Addr) (hgb:0<len→gbase=some ⟨gb,go,none⟩)
 (c0 c1 c2 c3 c4 c5 c6 c7:Nat→Int) (sel:Nat→Bool) (hlen:(len:Int)<9223372036854775807) (Nd:World→Prop)
 (W:World) (hb0:W.heap[bb]?=some (.cells #[flo,fhi,.slice gbase len cap,us,lo,co,ko] te (0,0)))
 (hNc:∀W',Nd W'→∀j,j<len→W'.cell? ⟨gb,go+j*8,none⟩=some (.int .i64 (c0 j))∧W'.cell? ⟨gb,go+j*8+1,none⟩=some (.int .i64 (c1 j))∧W'.cell? ⟨gb,go+j*8+2,none⟩=some (.int .i64 (c2 j))∧W'.cell? ⟨gb,go+j*8+3,none⟩=some (.int .i64 (c3 j)) ∧
  W'.cell? ⟨gb,go+j*8+4,none⟩=some (.int .i64 (c4 j))∧W'.cell? ⟨gb,go+j*8+5,none⟩=some (.int .i64 (c5 j))∧W'.cell? ⟨gb,go+j*8+6,none⟩=some (.int .i64 (c6 j))∧W'.cell? ⟨gb,go+j*8+7,none⟩=some (.int .i64 (c7 j)))
 (hNm:∀W',Nd W'→∃mv,∀W'',W'.grownBy W'' none→W''.cell? ⟨tb,0,none⟩=some mv∧∀j,j<len→(Instr.lookup 184 mv (.int .i64 (c0 j)) false).run Tryz.prog W''=.ok (.bool (sel j)) W'')
 (hNs:∀W1 W2,Nd W1→W1.grownBy W2 none→Nd W2) (hN:Nd W)
 (J Jx:List Nat→World→Prop) (hJ:∀pre W W',J pre W→W.grownBy W' none→J pre W') (hJx:∀pre W W',Jx pre W→W.grownBy W' none→Jx pre W')
 (hY:∀pre x W,J pre W→pre.length<(aGg sel len).length→YieldAt Fence.wide (n-1) Tryz.prog l #[.agg #[.int .i64 (c0 x),.int .i64 (c1 x),.int .i64 (c2 x),.int .i64 (c3 x),.int .i64 (c4 x),.int .i64 (c5 x),.int .i64 (c6 x),.int .i64 (c7 x)]] W fun e W' =>
  (e=.returned (.bool true)∧J (pre++[x]) W'∧(Nd W→Nd W'))∨(e=.returned (.bool false)∧Jx (pre++[x]) W'))
 (h0 : J [] W) :
  CallsIn Fence.wide n Tryz.prog 186 #[.func (.yield l) #[] #[],.pointer (some ⟨bb,0,none⟩),.pointer (some ⟨tb,0,none⟩)] W fun e W'=>(∃v,e=.returned v) ∧
   ((∃xs,xs=aGg sel len∧J xs W')∨(∃pre,True∧Jx pre W')):=by
 have hb3:W.cell? ⟨bb,2,none⟩=some (.slice gbase len cap):=by simp[World.cell?,hb0]
 refine callsIn_of_wp Tryz.func186 rfl trivial ?_ rfl;simp only[Tryz.ntmps186,List.size_toArray,List.length_cons,List.length_nil,Nat.reduceAdd,Nat.reduceSub,Array.replicate_succ,Array.replicate_zero,List.push_toArray,List.append_toArray,List.nil_append,List.cons_append]
 gi_wp2
 gi_loopw [9] (fun i wr=>∃k:Nat,k≤len∧i=.int .i64 k∧J (aGg sel k) wr∧Nd wr)
  (fun i _=>len-(intOf i).toNat)
 case atStart=>exact⟨0,Nat.zero_le _,rfl,h0,hN⟩
 case round =>
  obtain⟨k,hk,rfl,hJs,hNw⟩:=hrel
  by_cases hlt:k<len
  ·have hg:=hgb (by omega);subst hg;obtain⟨q0,q1,q2,q3,q4,q5,q6,q7⟩:=hNc _ hNw k hlt;obtain⟨mv,hmv⟩:=hNm _ hNw;have hta:∀o,(wr.alloc o).cell? ⟨tb,0,none⟩=some mv:=fun o=>(hmv _ (World.grownBy_alloc _ o none)).1;have hlk:∀o,(Instr.lookup 184 mv (.int .i64 (c0 k)) false).run Tryz.prog (wr.alloc o)=.ok (.bool (sel k)) (wr.alloc o):=fun o=>(hmv _ (World.grownBy_alloc _ o none)).2 k hlt;have hNa:∀o,Nd (wr.alloc o):=fun o=>hNs _ _ hNw (World.grownBy_alloc _ o none);have hJa:∀o,J (aGg sel k) (wr.alloc o):=fun o=>hJ _ _ _ hJs (World.grownBy_alloc _ o none);clear hmv hNm hNc
   cases hsel:sel k with
   |false =>
    rw[hsel] at hlk
    iterate 52 (first|go_values|gi_guarded|gi_step|gi_upon)
    refine⟨fun f hf=>by simp[undef,go_sem] at hf,?_⟩
    gi_wp2
    go_roundw
    case rel=>exact⟨k+1,by omega,by simp,by rw[atN,hsel]; exact hJa _,hNa _⟩
    case measure=>simp[intOf]; omega
   |true =>
    rw[hsel] at hlk
    gi_wp2
    obtain⟨fn,tmps,assign,body,hy,hR⟩:=hY (aGg sel k) k (wr.alloc (.cells #[.int .i64 (c0 k),.int .i64 (c1 k),.int .i64 (c2 k),.int .i64 (c3 k),.int .i64 (c4 k),.int .i64 (c5 k),.int .i64 (c6 k),.int .i64 (c7 k)] 130)) (hJa _) (a1y hlt hsel);rw[hy];refine⟨fun h=>(by cases h),hR.mono ?_⟩;rintro e W3 (⟨rfl,hJ3,hk3⟩|⟨rfl,hJx3⟩)
    ·gi_wp2
     go_roundw
     case rel=>exact⟨k+1,by omega,by simp,by rw[atN,hsel]; exact hJ3,hk3 (hNa _)⟩
     case measure=>simp[intOf]; omega
    ·gi_wp2
     refine bodyPost_ret (results_none rfl _ _ _) rfl ?_;exact⟨⟨_,rfl⟩,.inr ⟨_,trivial,hJx3⟩⟩
  ·obtain rfl:len=k:=by omega
   gi_wp2
   go_end0
   exact⟨⟨_,rfl⟩,.inl ⟨_,rfl,hJs⟩⟩
end Go.Proofs
end
noncomputable section
namespace Go.Proofs
open Go.RowKit
attribute [local go_sem] Oper.semAt_some
def upE (f:Nat→Int) (k:Nat):List Int:=(List.range k).map f
theorem ajg (f:Nat→Int) (k:Nat):upE f (k+1)=upE f k++[f k]:=by simp[upE,List.range_succ]
theorem ap2 (f:Nat→Int) (k:Nat):(upE f k).length=k:=by simp[upE]
theorem aBA (f:Nat→Int) {j k:Nat} (h:j≤k):upE f j <+: upE f k:=by
 have:k=j+(k-j):=by omega
 rw[this,upE,upE,List.range_add,List.map_append];exact List.prefix_append _ _
set_option maxRecDepth 100000 in
set_option maxHeartbeats 1000000 in
theorem aZG (te:TypeId) (n:Nat) (hn:1≤n) (l n₀ bb tb sb:Nat) (flo fhi ga mv:Value) (hbb:bb<n₀) (htb:tb<n₀) (hsb:sb<n₀)
 (ub uo ul uc kb ko kl kc:Nat) (ubase kbase lbase cbase:Option Addr) (ll lc cl cc:Nat) (hub:0<ul→ubase=some ⟨ub,uo,none⟩∧ub<n₀) (hkb:0<kl→kbase=some ⟨kb,ko,none⟩∧kb<n₀)
 (U K:Nat→Int×Int) (eU eL eC eK:Nat→Int)
 (hul:ul≤1000) (hll:ll≤1000) (hcl:cl≤1000) (hkl:kl≤1000)
 (W:World) (hb0:W.heap[bb]?=some (.cells #[flo,fhi,ga,.slice ubase ul uc,.slice lbase ll lc,.slice cbase cl cc,.slice kbase kl kc] te (0,0)))
 (ht:W.cell? ⟨tb,0,none⟩=some (.func (.func 188) #[] #[.pointer (some ⟨sb,0,none⟩)])) (hs:W.cell? ⟨sb,0,none⟩=some mv)
 (hU:∀j,j<ul→W.cell? ⟨ub,uo+j*2,none⟩=some (.int .i64 (U j).1)∧W.cell? ⟨ub,uo+j*2+1,none⟩=some (.int .i64 (U j).2))
 (hK:∀j,j<kl→W.cell? ⟨kb,ko+j*2,none⟩=some (.int .i64 (K j).1)∧W.cell? ⟨kb,ko+j*2+1,none⟩=some (.int .i64 (K j).2))
 (cU:∀j,j<ul→∀W',Below n₀ W W'→CallsIn Fence.wide (n-1) Tryz.prog 188 #[.int .i64 (U j).1,.int .i64 (U j).2,.pointer (some ⟨sb,0,none⟩)] W' fun e W''=>e=.returned (.int .i64 (eU j))∧W'.grownBy W'' none)
 (cK:∀j,j<kl→∀W',Below n₀ W W'→CallsIn Fence.wide (n-1) Tryz.prog 188 #[.int .i64 (K j).1,.int .i64 (K j).2,.pointer (some ⟨sb,0,none⟩)] W' fun e W''=>e=.returned (.int .i64 (eK j))∧W'.grownBy W'' none)
 (cL:∀j,j<ll→∀W',Below n₀ W W'→CallsIn Fence.wide (n-1) Tryz.prog 192 #[.agg #[flo,fhi,ga,.slice ubase ul uc,.slice lbase ll lc,.slice cbase cl cc,.slice kbase kl kc],mv,.int .i64 j] W' fun e W''=>e=.returned (.int .i64 (eL j))∧W'.grownBy W'' none)
 (cC:∀j,j<cl→∀W',Below n₀ W W'→CallsIn Fence.wide (n-1) Tryz.prog 193 #[.agg #[flo,fhi,ga,.slice ubase ul uc,.slice lbase ll lc,.slice cbase cl cc,.slice kbase kl kc],mv,.int .i64 j] W' fun e W''=>e=.returned (.int .i64 (eC j))∧W'.grownBy W'' none)
 (J Jx:List Int→World→Prop) (hJ:∀pre W W',J pre W→W.grownBy W' none→J pre W') (hJx:∀pre W W',Jx pre W→W.grownBy W' none→Jx pre W')
 (hY:∀pre x W,J pre W→pre.length<ul+(ll+(cl+kl))→YieldAt Fence.wide (n-1) Tryz.prog l #[.int .i64 x] W fun e W' =>
  (e=.returned (.bool true)∧J (pre++[x]) W'∧Below n₀ W W')∨(e=.returned (.bool false)∧Jx (pre++[x]) W'))
 (h0 : J [] W) (hn₀ : n₀ ≤ W.heap.size) :
  CallsIn Fence.wide n Tryz.prog 191 #[.func (.yield l) #[] #[],.pointer (some ⟨bb,0,none⟩),.pointer (some ⟨tb,0,none⟩),.pointer (some ⟨sb,0,none⟩)] W fun e W'=>(∃v,e=.returned v) ∧
   ((∃xs,xs=upE eU ul++(upE eL ll++(upE eC cl++upE eK kl))∧J xs W')∨(∃pre,(pre <+: upE eU ul++(upE eL ll++(upE eC cl++upE eK kl)))∧Jx pre W')):=by
 have grown_alloc:∀(X:World) (o:Obj),X.grownBy (X.alloc o) none:=fun X o=>World.grownBy_alloc X o none
 have bel:∀{X Y:World},Below n₀ W X→X.grownBy Y none→Below n₀ W Y:=fun {X Y} h g =>
  ⟨g.os.trans h.os,g.tape.trans h.tape,g.output.trans h.output,Nat.le_trans h.size g.size,fun k hk=>(g.block k (Nat.lt_of_lt_of_le (Nat.lt_of_lt_of_le hk hn₀) h.size) (by simp)).trans (h.block k hk)⟩
 have hc:∀{X:World},Below n₀ W X→X.heap[bb]?=some (.cells #[flo,fhi,ga,.slice ubase ul uc,.slice lbase ll lc,.slice cbase cl cc,.slice kbase kl kc] te (0,0)):=fun h=>(h.block bb hbb).trans hb0;refine callsIn_of_wp Tryz.func191 rfl trivial ?_ rfl;simp only[Tryz.ntmps191,List.size_toArray,List.length_cons,List.length_nil,Nat.reduceAdd,Nat.reduceSub,Array.replicate_succ,Array.replicate_zero,List.push_toArray,List.append_toArray,List.nil_append,List.cons_append]
 have hb3:W.cell? ⟨bb,3,none⟩=some (.slice ubase ul uc):=by simp[World.cell?,hb0]
 gi_wp2
 gi_loopw [14] (fun i wr=>∃k:Nat,k≤ul∧i=.int .i64 k∧J (upE eU k) wr∧Below n₀ W wr)
  (fun i _=>ul-(intOf i).toNat)
 case atStart=>exact⟨0,Nat.zero_le _,rfl,h0,Below.refl _ _⟩
 case round =>
  obtain⟨k,hk,rfl,hJs,hnx⟩:=hrel
  by_cases hlt:k<ul
  ·obtain⟨rfl,hlu⟩:=hub (by omega);have hu1:=(hnx.cell (p:=⟨ub,uo+k*2,none⟩) hlu).trans (hU k hlt).1;have hu2:=(hnx.cell (p:=⟨ub,uo+k*2+1,none⟩) hlu).trans (hU k hlt).2;have ht':=(hnx.cell (p:=⟨tb,0,none⟩) htb).trans ht;have hta:∀o,(wr.alloc o).cell? ⟨tb,0,none⟩=some (.func (.func 188) #[] #[.pointer (some ⟨sb,0,none⟩)]):=fun o=>Lib.cell?_alloc_some _ ht'
   gi_wp2
   refine⟨trivial,(cU k hlt _ (bel hnx (grown_alloc _ _))).mono ?_⟩;rintro e W2 ⟨rfl,hg2⟩;obtain⟨fn,tmps,assign,body,hy,hR⟩:=hY _ (eU k) W2 (hJ _ _ _ (hJ _ _ _ hJs (grown_alloc _ _)) hg2) (by rw[ap2]; omega);have hb2:=bel (bel hnx (grown_alloc _ _)) hg2
   gi_wp2
   refine hR.mono ?_;rintro e W3 (⟨rfl,hJ3,hk3⟩|⟨rfl,hJx3⟩)
   ·gi_wp2
    go_roundw
    case rel=>exact⟨k+1,by omega,by simp,by rw[ajg]; exact hJ3,hb2.trans hk3⟩
    case measure=>simp[intOf]; omega
   ·gi_wp2
    refine bodyPost_ret (results_none rfl _ _ _) rfl ?_;refine⟨⟨_,rfl⟩,.inr ⟨_,?_,hJx3⟩⟩;rw[←ajg];exact(aBA eU (by omega)).trans (List.prefix_append _ _)
  ·obtain rfl:ul=k:=by omega
   have hb4:wr.cell? ⟨bb,4,none⟩=some (.slice lbase ll lc):=by simp[World.cell?,hc hnx]
   gi_wp2
   gi_loopw [31] (fun i wr=>∃k:Nat,k≤ll∧i=.int .i64 k∧J (upE eU ul++upE eL k) wr∧Below n₀ W wr)
    (fun i _=>ll-(intOf i).toNat)
   case atStart=>exact⟨0,Nat.zero_le _,rfl,by simpa[upE] using hJs,hnx⟩
   case round =>
    clear hJs hnx;obtain⟨k,hk,rfl,hJs,hnx⟩:=hrel
    by_cases hlt:k<ll
    ·have q0:wr.cell? ⟨bb,0,none⟩=some flo:=by simp[World.cell?,hc hnx]
     have q1:wr.cell? ⟨bb,1,none⟩=some fhi:=by simp[World.cell?,hc hnx]
     have q2:wr.cell? ⟨bb,2,none⟩=some ga:=by simp[World.cell?,hc hnx]
     have q3:wr.cell? ⟨bb,3,none⟩=some (.slice ubase ul uc):=by simp[World.cell?,hc hnx]
     have q4:wr.cell? ⟨bb,4,none⟩=some (.slice lbase ll lc):=by simp[World.cell?,hc hnx]
     have q5:wr.cell? ⟨bb,5,none⟩=some (.slice cbase cl cc):=by simp[World.cell?,hc hnx]
     have q6:wr.cell? ⟨bb,6,none⟩=some (.slice kbase kl kc):=by simp[World.cell?,hc hnx]
     have hs':=(hnx.cell (p:=⟨sb,0,none⟩) hsb).trans hs
     gi_wp2
     refine⟨trivial,(cL k hlt _ hnx).mono ?_⟩;rintro e W2 ⟨rfl,hg2⟩;obtain⟨fn,tmps,assign,body,hy,hR⟩:=hY _ (eL k) W2 (hJ _ _ _ hJs hg2) (by simp only[List.length_append,ap2]; omega);have hb2:=bel hnx hg2
     gi_wp2
     refine hR.mono ?_;rintro e W3 (⟨rfl,hJ3,hk3⟩|⟨rfl,hJx3⟩)
     ·gi_wp2
      go_roundw
      case rel=>exact⟨k+1,by omega,by simp,by rw[ajg,←List.append_assoc]; exact hJ3,hb2.trans hk3⟩
      case measure=>simp[intOf]; omega
     ·gi_wp2
      refine bodyPost_ret (results_none rfl _ _ _) rfl ?_;refine⟨⟨_,rfl⟩,.inr ⟨_,?_,hJx3⟩⟩;rw[List.append_assoc,←ajg];exact(List.prefix_append_right_inj _).2 ((aBA eL (by omega)).trans (List.prefix_append _ _))
    ·obtain rfl:ll=k:=by omega
     have hb5:wr.cell? ⟨bb,5,none⟩=some (.slice cbase cl cc):=by simp[World.cell?,hc hnx]
     gi_wp2
     gi_loopw [45] (fun i wr=>∃k:Nat,k≤cl∧i=.int .i64 k∧J (upE eU ul++upE eL ll++upE eC k) wr∧Below n₀ W wr)
      (fun i _=>cl-(intOf i).toNat)
     case atStart=>exact⟨0,Nat.zero_le _,rfl,by simpa[upE] using hJs,hnx⟩
     case round =>
      clear hJs hnx;obtain⟨k,hk,rfl,hJs,hnx⟩:=hrel
      by_cases hlt:k<cl
      ·have q0:wr.cell? ⟨bb,0,none⟩=some flo:=by simp[World.cell?,hc hnx]
       have q1:wr.cell? ⟨bb,1,none⟩=some fhi:=by simp[World.cell?,hc hnx]
       have q2:wr.cell? ⟨bb,2,none⟩=some ga:=by simp[World.cell?,hc hnx]
       have q3:wr.cell? ⟨bb,3,none⟩=some (.slice ubase ul uc):=by simp[World.cell?,hc hnx]
       have q4:wr.cell? ⟨bb,4,none⟩=some (.slice lbase ll lc):=by simp[World.cell?,hc hnx]
       have q5:wr.cell? ⟨bb,5,none⟩=some (.slice cbase cl cc):=by simp[World.cell?,hc hnx]
       have q6:wr.cell? ⟨bb,6,none⟩=some (.slice kbase kl kc):=by simp[World.cell?,hc hnx]
       have hs':=(hnx.cell (p:=⟨sb,0,none⟩) hsb).trans hs
       gi_wp2
       refine⟨trivial,(cC k hlt _ hnx).mono ?_⟩;rintro e W2 ⟨rfl,hg2⟩;obtain⟨fn,tmps,assign,body,hy,hR⟩:=hY _ (eC k) W2 (hJ _ _ _ hJs hg2) (by simp only[List.length_append,ap2]; omega);have hb2:=bel hnx hg2
       gi_wp2
       refine hR.mono ?_;rintro e W3 (⟨rfl,hJ3,hk3⟩|⟨rfl,hJx3⟩)
       ·gi_wp2
        go_roundw
        case rel=>exact⟨k+1,by omega,by simp,by rw[ajg,←List.append_assoc]; exact hJ3,hb2.trans hk3⟩
        case measure=>simp[intOf]; omega
       ·gi_wp2
        refine bodyPost_ret (results_none rfl _ _ _) rfl ?_;refine⟨⟨_,rfl⟩,.inr ⟨_,?_,hJx3⟩⟩;rw[List.append_assoc,←ajg]
        exact by rw[List.append_assoc]; exact(List.prefix_append_right_inj _).2 ((List.prefix_append_right_inj _).2 ((aBA eC (by omega)).trans (List.prefix_append _ _)))
      ·obtain rfl:cl=k:=by omega
       have hb6:wr.cell? ⟨bb,6,none⟩=some (.slice kbase kl kc):=by simp[World.cell?,hc hnx]
       gi_wp2
       gi_loopw [59] (fun i wr=>∃k:Nat,k≤kl∧i=.int .i64 k∧J ((upE eU ul++upE eL ll++upE eC cl)++upE eK k) wr∧Below n₀ W wr)
        (fun i _=>kl-(intOf i).toNat)
       case atStart=>exact⟨0,Nat.zero_le _,rfl,by simpa[upE] using hJs,hnx⟩
       case round =>
        clear hJs hnx;obtain⟨k,hk,rfl,hJs,hnx⟩:=hrel
        by_cases hlt:k<kl
        ·obtain⟨rfl,hlk⟩:=hkb (by omega);have hu1:=(hnx.cell (p:=⟨kb,ko+k*2,none⟩) hlk).trans (hK k hlt).1;have hu2:=(hnx.cell (p:=⟨kb,ko+k*2+1,none⟩) hlk).trans (hK k hlt).2;have ht':=(hnx.cell (p:=⟨tb,0,none⟩) htb).trans ht;have hta:∀o,(wr.alloc o).cell? ⟨tb,0,none⟩=some (.func (.func 188) #[] #[.pointer (some ⟨sb,0,none⟩)]):=fun o=>Lib.cell?_alloc_some _ ht'
         gi_wp2
         refine⟨trivial,(cK k hlt _ (bel hnx (grown_alloc _ _))).mono ?_⟩;rintro e W2 ⟨rfl,hg2⟩;obtain⟨fn,tmps,assign,body,hy,hR⟩:=hY _ (eK k) W2 (hJ _ _ _ (hJ _ _ _ hJs (grown_alloc _ _)) hg2) (by simp only[List.length_append,ap2]; omega);have hb2:=bel (bel hnx (grown_alloc _ _)) hg2
         gi_wp2
         refine hR.mono ?_;rintro e W3 (⟨rfl,hJ3,hk3⟩|⟨rfl,hJx3⟩)
         ·gi_wp2
          go_roundw
          case rel=>exact⟨k+1,by omega,by simp,by rw[ajg,←List.append_assoc]; exact hJ3,hb2.trans hk3⟩
          case measure=>simp[intOf]; omega
         ·gi_wp2
          refine bodyPost_ret (results_none rfl _ _ _) rfl ?_;refine⟨⟨_,rfl⟩,.inr ⟨_,?_,hJx3⟩⟩;rw[List.append_assoc,←ajg,List.append_assoc,List.append_assoc];exact(List.prefix_append_right_inj _).2 ((List.prefix_append_right_inj _).2 ((List.prefix_append_right_inj _).2 (aBA eK (by omega))))
        ·obtain rfl:kl=k:=by omega
         gi_wp2
         go_end0
         exact⟨⟨_,rfl⟩,.inl ⟨_,rfl,by simpa[List.append_assoc] using hJs⟩⟩
end Go.Proofs
end
noncomputable section
set_option maxRecDepth 100000
namespace Go.Proofs.ZzM
open Go Go.Am Go.RowKit
def aTl (p:String):Code:=.region 10 #[{dst:=some 5,op:=.assign (.tmp 49),type:=35,pos:=p,after:=#[],guard:=none}] false
def a04 (q r:String):Code:=.block 1 (.seq (.region 11 #[{dst:=some 50,op:=.move (.tmp 5),type:=35,pos:=q,after:=#[],guard:=none},{dst:=some 51,op:=.binOp .neq 35 (.tmp 50) (.const (.int .i64 0)) 35,type:=4,pos:=q,after:=#[{on:=0,ground:=.data}],guard:=none}] false)
 (.cond (.tmp 51) (.seq (.region 12 #[{dst:=some 52,op:=.move (.tmp 5),type:=35,pos:=r,after:=#[],guard:=none},{dst:=none,op:=.store 35 (.tmp 2) (.tmp 52),type:=0,pos:=r,after:=#[{on:=0,ground:=.data},{on:=0,ground:=.phase}],guard:=none}] false) .ret) .skip))
section
variable {P:Program} {F:Fence} {n:Nat}
theorem aul {ops:Array Oper} {i d:Nat} {o:Oper} {u:Value} {w w':World} {a:Act} {next:Act→World→Prop} {Q:Exit→Act→World→Prop} (hF:∀f,F.fn f) (ho:ops[i]?=some o) (hg:o.guard=none) (hd:o.dst=some d) (hdf:∀c,o.op≠.defer c)
 (hrun:(execOp a.eval o).run P w=.ok (.value u) w') (k:next (a.put (some d) u) w'):wpOpIn F n P ops Q i next a w:=by
 unfold wpOpIn;rw[ho]
 have hw:Region.wanted o (yielded ops a.tmps)=true:=by simp[Region.wanted,hg]
 simp only[hw,if_true];refine⟨fun _ _=>hF _,?_⟩;rw[Oper.semAt_eq _ _ _ hdf,hrun];rw[←hd] at k;exact k
theorem aUR {ops:Array Oper} {i:Nat} {o:Oper} {w w':World} {a:Act} {next:Act→World→Prop} {Q:Exit→Act→World→Prop} (hF:∀f,F.fn f) (ho:ops[i]?=some o) (hg:o.guard=none) (hd:o.dst=none) (hdf:∀c,o.op≠.defer c)
 (hrun:(execOp a.eval o).run P w=.ok .skip w') (k:next a w'):wpOpIn F n P ops Q i next a w:=by
 unfold wpOpIn;rw[ho]
 have hw:Region.wanted o (yielded ops a.tmps)=true:=by simp[Region.wanted,hg]
 simp only[hw,if_true];refine⟨fun _ _=>hF _,?_⟩;rw[Oper.semAt_eq _ _ _ hdf,hrun];show next (a.put o.dst undef) w';rw[hd];exact k
end
theorem aeu (T:Array Value) (i j:Nat) (v:Value):(T.setIfInBounds i v).getD j undef=if i=j∧i<T.size then v else T.getD j undef:=by
 simp only[Array.getD_eq_getD_getElem?,Array.getElem?_setIfInBounds]
 by_cases h:i=j
 ·subst h
  by_cases h2:i<T.size
  ·simp[h2]
  ·simp[h2]
 ·simp[h]
def aTG (D:Nat):Deferred:={target:=.collected D,args:=#[]}
structure Put1 (n₀ rb:Nat) (x:Int) (w W:World):Prop where
 os:W.os=w.os
 tape:W.tape=w.tape
 output:W.output=w.output
 size:w.heap.size≤W.heap.size
 block:∀k,k<n₀→k≠rb→W.heap[k]?=w.heap[k]?
 cell:∃e,W.heap[rb]?=some (.cells #[.int .i64 x] e (0,0))
set_option maxHeartbeats 4000000 in
theorem a1C {a:Act} {w:World} {Q:Exit→Act→World→Prop} {lb:Array Value} {L:List Int} {rb:Nat} {e0:TypeId} {v0:Value} {p q r:String}
 (hseq:SeqStopsK Fence.wide 1 Tryz.prog 191 lb (fun x:Int=>#[.int .i64 x]) (Below w.heap.size) (fun xs=>xs=L) (fun pre=>pre <+: L) L.length w)
 (hg:a.tmps.getD 48 undef=.func (.func 191) #[] lb) (h2:a.tmps.getD 2 undef=.pointer (some ⟨rb,0,none⟩)) (hsz:78≤a.tmps.size)
 (hrb:w.heap[rb]?=some (.cells #[v0] e0 (0,0)))
 (hdone:∀D W,(∀x∈L,x=0)→Below w.heap.size w W→w.heap.size≤D→W.heap[D]?=some (.deferred (some []))→Q .normal {a with defers:=aTG D::a.defers} W)
 (hstop:∀D W x,L.find? (fun e=>e != 0)=some x→Put1 w.heap.size rb x w W→w.heap.size≤D→W.heap[D]?=some (.deferred (some []))→Q .ret {a with defers:=aTG D::a.defers} W) :
 (Code.rangeFunc (.tmp 48) #[49] (aTl p) (a04 q r)).wpIn Fence.wide 2 Tryz.prog Q a w:=by
 have hT:∀f,Fence.wide.fn f:=fun _=>trivial;have hrl:=Ę hrb
 refine wpIn_rangeFunc_ownF (α:=Int) (encs:=fun x=>#[.int .i64 x]) (Kp:=Below w.heap.size) (S:=fun xs=>xs=L) (Sp:=fun pre=>pre <+: L) (N:=L.length) (w0:=w) rfl (by omega) hg trivial (fun args w=>?eg) hseq
  (fun h k=>h.trans k) (fun W l o o' hl ho hc hw=>belowK_b (Nat.le_refl _) W l o o' hl ho hc hw) (Below.refl _ _) (fun _=>rfl)
  (fun pre W=>(∀x∈pre,x=0)∧Below w.heap.size w W)
  (fun c pre W=>c=.ret∧∃pre' x,pre=pre'++[x]∧(∀x∈pre',x=0)∧x≠0∧Put1 w.heap.size rb x w W)
  ?hI ?hIx ⟨by simp,Below.refl _ _⟩ (fun x=>{tmps:=(a.tmps.setIfInBounds 49 (.int .i64 x)).setIfInBounds 5 (.int .i64 x),defers:=[]}) ?hassign ?hbody ?hdone ?hstop
 case eg=>simp[callFunc,Sem.run_bind,run_program,Result.andThen_ok,Tryz.func191,plain 191 _ Tryz.func191,show Tryz.f191.body.isNone=false from rfl]; rfl
 case hI =>
  intro s W W' row ⟨h1,h2⟩ hgr hr;exact⟨h1,hgr.os.trans h2.os,hgr.tape.trans h2.tape,hgr.output.trans h2.output,Nat.le_trans h2.size hgr.size,fun k hk=>(hgr.block k (Nat.lt_of_lt_of_le hk h2.size) (fun e=>by have:=(hr k e.symm).1; omega)).trans (h2.block k hk)⟩
 case hIx =>
  intro c s W W' row ⟨h1,pre',x,h3,h4,h5,h6⟩ hgr hr;have hb:∀k,k<w.heap.size→W'.heap[k]?=W.heap[k]?:=fun k hk=>hgr.block k (Nat.lt_of_lt_of_le hk h6.size) (fun e=>by have:=(hr k e.symm).1; omega)
  exact⟨h1,pre',x,h3,h4,h5,hgr.os.trans h6.os,hgr.tape.trans h6.tape,hgr.output.trans h6.output,Nat.le_trans h6.size hgr.size,fun k hk hne=>(hb k hk).trans (h6.block k hk hne),by
   obtain⟨e,he⟩:=h6.cell
   exact⟨e,(hb rb hrl).trans he⟩⟩
 case hassign =>
  intro l x W K hK
  have hf:((#[49]:Array Tmp).zip #[Value.int .i64 x]).foldl (fun t (p,v)=>t.setIfInBounds p v) a.tmps=a.tmps.setIfInBounds 49 (.int .i64 x):=by simp
  rw[hf];refine wpIn_region ?_;rw[show ∀o:Oper,List.range (#[o]:Array Oper).size=[0] from fun _=>rfl,wpOpsIn_cons];refine aul (d:=5) (u:=.int .i64 x) (w':=W) hT rfl rfl rfl (by simp) ?_ hK;show Result.ok (Next.value ((a.tmps.setIfInBounds 49 (.int .i64 x)).getD 49 undef)) W=_;rw[aeu,if_pos ⟨rfl,by omega⟩]
 case hbody =>
  intro l pre x W ⟨h1,hbel⟩ hpre;refine wpIn_block (wpIn_seq (wpIn_region ?_));rw[show ∀o p:Oper,List.range (#[o,p]:Array Oper).size=[0,1] from fun _ _=>rfl,wpOpsIn_cons]
  refine aul (d:=50) (u:=.int .i64 x) (w':=W) hT rfl rfl rfl (by simp) (by
   show Result.ok (Next.value (((a.tmps.setIfInBounds 49 (.int .i64 x)).setIfInBounds 5 (.int .i64 x)).getD 5 undef)) W=_
   rw[aeu,if_pos ⟨rfl,by simp; omega⟩]) ?_
  rw[wpOpsIn_cons]
  refine aul (d:=51) (u:=.bool (x != 0)) (w':=W) hT rfl rfl rfl (by simp) (by
   show((do let u ←(do eqGuard .neq 35 (.tmp 50) (.const (.int .i64 0)) ((((a.tmps.setIfInBounds 49 (.int .i64 x)).setIfInBounds 5 (.int .i64 x)).setIfInBounds 50 (.int .i64 x)).getD 50 undef) (.int .i64 0); binOp .neq 35 ((((a.tmps.setIfInBounds 49 (.int .i64 x)).setIfInBounds 5 (.int .i64 x)).setIfInBounds 50 (.int .i64 x)).getD 50 undef) (.int .i64 0)); pure (.value u)):Sem Next).run Tryz.prog W=_;rw[aeu,if_pos ⟨rfl,by simp; omega⟩]
   simp[eqGuard,binOp,Op.intCmp]) ?_
  show Code.wpIn (Fence.wide.inRound l) (2-1-1) Tryz.prog (Code.cond (.tmp 51) _ .skip) _ {tmps:=((((a.tmps.setIfInBounds 49 (.int .i64 x)).setIfInBounds 5 (.int .i64 x)).setIfInBounds 50 (.int .i64 x)).setIfInBounds 51 (.bool (x != 0))),defers:=[]} W;obtain⟨T,hTd⟩:∃T,T=((((a.tmps.setIfInBounds 49 (.int .i64 x)).setIfInBounds 5 (.int .i64 x)).setIfInBounds 50 (.int .i64 x)).setIfInBounds 51 (.bool (x != 0))):=⟨_,rfl⟩;rw[←hTd]
  have t51:T.getD 51 undef=.bool (x != 0):=by rw[hTd,aeu,if_pos ⟨rfl,by simp; omega⟩]
  have t5:T.getD 5 undef=.int .i64 x:=by rw[hTd,aeu,if_neg (by simp),aeu,if_neg (by simp),aeu,if_pos ⟨rfl,by simp; omega⟩]
  have t2:T.getD 2 undef=.pointer (some ⟨rb,0,none⟩):=by rw[hTd,aeu,if_neg (by simp),aeu,if_neg (by simp),aeu,if_neg (by simp),aeu,if_neg (by simp),h2]
  have tsz:78≤T.size:=by rw[hTd]; simpa using hsz
  clear hTd
  by_cases hx:x=0
  ·have e51:Act.eval {tmps:=T,defers:=[]} (.tmp 51)=.bool false:=t51.trans (by simp[hx]);refine wpIn_cond_false e51 (wpIn_skip ?_);simp only[Exit.inBlock,ownPostK];exact⟨KeepsOthers.refl _,Below.refl _ _,fun y hy=>(List.mem_append.1 hy).elim (h1 y) (fun h=>by rw[List.mem_singleton] at h; rw[h,hx]),hbel⟩
  ·have e51:Act.eval {tmps:=T,defers:=[]} (.tmp 51)=.bool true:=t51.trans (by simp[hx]);refine wpIn_cond_true e51 (wpIn_seq (wpIn_region ?_));rw[show ∀o p:Oper,List.range (#[o,p]:Array Oper).size=[0,1] from fun _ _=>rfl,wpOpsIn_cons]
   have e5:(execOp (Act.eval {tmps:=T,defers:=[]}) {dst:=some 52,op:=.move (.tmp 5),type:=35,pos:=r,after:=#[],guard:=none}).run Tryz.prog W=.ok (.value (.int .i64 x)) W:=by
    show Result.ok (Next.value (T.getD 5 undef)) W=_;rw[t5]
   refine aul (d:=52) (u:=.int .i64 x) (w':=W) hT rfl rfl rfl (by simp) e5 ?_;rw[wpOpsIn_cons];have hW:W.heap[rb]?=some (.cells #[v0] e0 (0,0)):=(hbel.block rb hrl).trans hrb
   letI:ù:=⟨fun _=>False,[],none⟩
   have hst:=ajj (P:=Tryz.prog) (w:=W) (t:=35) (u:=.int .i64 x) (n:=1) (b:=rb) (o:=0) (by kernel_rfl) rfl hW (by simp) (by simp[Value.cells,Value.oneCell'])
   have hst':(storeVar 35 ⟨rb,0,none⟩ (.int .i64 x)).run Tryz.prog W=.ok () (W.setRow rb #[.int .i64 x]):=by simpa[Value.cells] using hst
   have t52:(T.setIfInBounds 52 (.int .i64 x)).getD 52 undef=.int .i64 x:=by rw[aeu,if_pos ⟨rfl,by omega⟩]
   have t2':(T.setIfInBounds 52 (.int .i64 x)).getD 2 undef=.pointer (some ⟨rb,0,none⟩):=by rw[aeu,if_neg (by simp),t2]
   have e6:(execOp (Act.eval {tmps:=T.setIfInBounds 52 (.int .i64 x),defers:=[]}) {dst:=none,op:=.store 35 (.tmp 2) (.tmp 52),type:=0,pos:=r,after:=#[{on:=0,ground:=.data},{on:=0,ground:=.phase}],guard:=none}).run Tryz.prog W=.ok .skip (W.setRow rb #[.int .i64 x]):=by
    show((do Instr.storeAt 35 ((T.setIfInBounds 52 (.int .i64 x)).getD 2 undef) ((T.setIfInBounds 52 (.int .i64 x)).getD 52 undef); pure .skip):Sem Next).run Tryz.prog W=_;rw[t52,t2'];simp[Instr.storeAt,Instr.sureAddr,hst']
   refine aUR (w':=W.setRow rb #[.int .i64 x]) hT rfl rfl rfl (by simp) e6 ?_;refine wpIn_ret ?_;simp only[Exit.inBlock,ownPostK];refine⟨⟨by simp,fun k o hk ho=>?_⟩,trivial,pre,x,rfl,h1,hx,hbel.os,hbel.tape,hbel.output,by simpa using hbel.size,fun k hk hne=>(setRow_other _ _ _ _ hne).trans (hbel.block k hk),⟨_,setRow_heap _ _ _ _ _ _ hW⟩⟩
   by_cases hk2:k=rb
   ·subst hk2; rw[hW] at hk; cases hk; simp[Obj.isCells] at ho
   ·rw[setRow_other _ _ _ _ hk2]; exact hk
 case hdone =>
  intro D xs W hD hS ⟨h1,hbel⟩ hDo;subst hS;exact hdone D W h1 hbel hD hDo
 case hstop =>
  intro D c pre W hD hS ⟨hc,pre',x,h3,h4,h5,h6⟩ hDo;subst hc;refine wpIn_ret (hstop D W x ?_ h6 hD hDo);obtain⟨t,rfl⟩:=hS;rw[h3,List.append_assoc,List.find?_append]
  have:List.find? (fun e=>e != 0) pre'=none:=List.find?_eq_none.2 fun y hy=>by simp[h4 y hy]
  rw[this];simp[h5]
end Go.Proofs.ZzM
end
noncomputable section
set_option maxRecDepth 100000
namespace Go.Proofs.ZzM
open Go Go.Am Go.RowKit
def fstC:Code→Code
 |.seq a _=>a
 |c=>c
def sndC:Code→Code
 |.seq _ b=>b
 |c=>c
def aWS:Nat→Code→Code
 |0,c=>fstC c
 |n+1,c=>aWS n (sndC c)
def a0h:Nat→Code→Code
 |0,c=>c
 |n+1,c=>a0h n (sndC c)
def ckB:Code:=Tryz.f66.body.getD .skip
def ckA5:Code:=fstC (a0h 5 ckB |> fstC)
def ckRF:Code:=sndC (a0h 5 ckB |> fstC)
def aJp:Code:=sndC (a0h 5 ckB)
def ckPre:Code:=.seq (aWS 0 ckB) (.seq (aWS 1 ckB) (.seq (aWS 2 ckB) (.seq (aWS 3 ckB) (.seq (aWS 4 ckB) ckA5))))
theorem a1m:Tryz.f66.body=some (.seq (aWS 0 ckB) (.seq (aWS 1 ckB) (.seq (aWS 2 ckB) (.seq (aWS 3 ckB) (.seq (aWS 4 ckB) (.seq (.seq ckA5 ckRF) aJp)))))):=by kernel_rfl
def ck_pt:List (Nat×Ü):=[(135,auj),(133,asB),(131,akU),(132,aob)]
def ckE (ρ:Type):Env ρ:=Ý ck_pt []
abbrev ckR:Type:=Int ⊕ (List AV×List Blk)
def aX5 (S:St):Option Int:=match aiy Tryz.prog Tryz.f66 S with
 |some v=>Č [tI] S.h v
 |none=>none
def ckK (e:Exit) (S:St):Option ckR:=match e with
 |.ret=>match aX5 S with
  |some n=>some (.inl n)
  |none=>none
 |.normal=>match decide (78≤S.t.length) with
  |true=>some (.inr ([lk S.t 1,lk S.t 2,lk S.t 48],S.h))
  |false=>none
 |_=>none
def ckH (x:Val Å) (s:Val (.map tI Ó)) (n:Int):List Blk :=
 [.cells (flat Å x),.cells [.int .i64 n],.cells (flat Å x),.cells [.mp tI Ó s],.cells [.fn (.func 188) [] [.box 3 0]]]
def ckM (x:Val Å):Option ckR :=
 Â (Λ x.1 (0:Int) (1000000:Int)) fun r1=>ifb (!r1) (some (.inl 1)) (ifb (igt (Û x.2.1) (12:Int)) (some (.inl 2)) (ifb (igt (Û x.2.2.1) (40:Int)) (some (.inl 2)) (ifb (igt (Û x.2.2.2.1) (12:Int)) (some (.inl 2)) (ifb (igt (Û x.2.2.2.2.1) (40:Int)) (some (.inl 2)) (ifb (igt (Û x.2.2.2.2.2) (10:Int)) (some (.inl 2))
  (Â (ź x) fun r2=>ifb (ine r2 (0:Int)) (some (.inl r2)) (Â (ι x) fun r3=>some (.inr ([.box 0 0,.box 1 0,.fn (.func 191) [] [.box 2 0,.box 4 0,.box 3 0]],ckH x r3 0)))))))))
theorem ck_pre (x:Val Å):goC (ckE ckR) (aeS (ckE ckR) 10) 66 [] 0 0 ckPre {t:=Ć [Å] x++List.replicate 77 .any,h:=[]} ckK=ckM x:=by kernel_rfl
def a0u (ρ:Type):Env ρ:={ckE ρ with inl:=fun _=>false}
def ckS (x:Val Å):Option Int :=
 Â (ai8 x) fun r5=>ifb (igt (Û r5) (59:Int)) (some (2:Int)) (ck ((2:Int)*(Û x.2.1)) fun n6=>ck ((Û r5)-(Û x.2.1)) fun n7=>ck ((2:Int)*n7) fun n8=>ck (n6+n8) fun n9=>ck ((2:Int)*(Û x.2.2.2.2.1)) fun n10=>ck (n9+n10) fun n11=>ifb (igt n11 (300:Int)) (some (2:Int)) (some (0:Int)))
def ckK2 (e:Exit) (S:St):Option Int:=match e with
 |.ret=>match lk S.t 2 with
  |.box 1 0=>match lkB S.h 1 with
   |.cells [.int .i64 n]=>some n
   |_=>none
  |_=>none
 |_=>none
theorem ck_suf (x:Val Å) (s:Val (.map tI Ó)):goC (a0u Int) (aeS (a0u Int) 10) 66 [] 0 0 aJp {t:=[.any,.box 0 0,.box 1 0]++List.replicate 75 .any,h:=ckH x s 0} ckK2=ckS x:=by kernel_rfl
theorem a0t (x:Val Å):ā x=match ckM x with
 |none=>none
 |some (.inl n)=>some n
 |some (.inr _)=>Â (ι x) fun s=>aNH (ahj x s) some (ckS x):=by
 unfold ā aE3 ckM ckS
 cases Λ x.1 (0:Int) (1000000:Int) with
 |none=>rfl
 |some r1 =>
 cases r1 with
 |false=>rfl
 |true =>
 simp only[Â,ifb,Bool.not_true]
 cases igt (Û x.2.1) (12:Int) with
 |true=>rfl
 |false =>
 cases igt (Û x.2.2.1) (40:Int) with
 |true=>rfl
 |false =>
 cases igt (Û x.2.2.2.1) (12:Int) with
 |true=>rfl
 |false =>
 cases igt (Û x.2.2.2.2.1) (40:Int) with
 |true=>rfl
 |false =>
 cases igt (Û x.2.2.2.2.2) (10:Int) with
 |true=>rfl
 |false =>
 cases ź x with
 |none=>rfl
 |some r2 =>
 simp only
 cases ine r2 (0:Int) with
 |true=>rfl
 |false =>
 cases ι x with
 |none=>rfl
 |some r3=>rfl
theorem a2e {x:Val Å} {q:List AV×List Blk} (h:ckM x=some (.inr q)):((x.2.2.1:List (Val Ã)).length≤1000∧(x.2.2.2.1:List (Val Ō)).length≤1000∧(x.2.2.2.2.1:List (Val Í)).length≤1000∧(x.2.2.2.2.2:List (Val Ã)).length≤1000) ∧
 ∃s,ι x=some s∧q=([.box 0 0,.box 1 0,.fn (.func 191) [] [.box 2 0,.box 4 0,.box 3 0]],ckH x s 0):=by
 unfold ckM at h
 cases h0:Λ x.1 (0:Int) (1000000:Int) with
 |none=>rw[h0] at h; cases h
 |some r1 =>
 rw[h0] at h
 cases r1 with
 |false=>cases h
 |true =>
 simp only[Â,ifb,Bool.not_true] at h
 cases h1:igt (Û x.2.1) (12:Int) with
 |true=>rw[h1] at h; cases h
 |false =>
 rw[h1] at h
 cases h2:igt (Û x.2.2.1) (40:Int) with
 |true=>rw[h2] at h; cases h
 |false =>
 rw[h2] at h
 cases h3:igt (Û x.2.2.2.1) (12:Int) with
 |true=>rw[h3] at h; cases h
 |false =>
 rw[h3] at h
 cases h4:igt (Û x.2.2.2.2.1) (40:Int) with
 |true=>rw[h4] at h; cases h
 |false =>
 rw[h4] at h
 cases h5:igt (Û x.2.2.2.2.2) (10:Int) with
 |true=>rw[h5] at h; cases h
 |false =>
 rw[h5] at h
 cases h6:ź x with
 |none=>rw[h6] at h; cases h
 |some r2 =>
 rw[h6] at h;simp only at h
 cases h7:ine r2 (0:Int) with
 |true=>rw[h7] at h; cases h
 |false =>
 rw[h7] at h
 cases h8:ι x with
 |none=>rw[h8] at h; cases h
 |some r3 =>
 rw[h8] at h
 have lt:∀{α:Type} (l:List α) (n:Nat),igt (Û l) (n:Int)=false→l.length≤n:=by
  intro α l n h;unfold Û at h;rw[aCH] at h;simp only[igt,gt_iff_lt,decide_eq_false_iff_not] at h;omega
 simp only[Option.some.injEq,Sum.inr.injEq] at h;exact⟨⟨by have:=lt x.2.2.1 40 h2; omega,by have:=lt x.2.2.2.1 12 h3; omega,by have:=lt x.2.2.2.2.1 40 h4; omega,by have:=lt x.2.2.2.2.2 10 h5; omega⟩,r3,rfl,h.symm⟩
theorem aut {α β:Type} {f:α→Option β}:∀{l:List α} {m:List β},aCL f l=some m→m.length=l.length∧∀(i:Nat) (a:α),l[i]?=some a→∃b,m[i]?=some b∧f a=some b
 |[],m,h=>by cases h; exact⟨rfl,fun i a ha=>by simp at ha⟩
 |a::l,m,h=>by
  unfold aCL at h
  cases ha:f a with
  |none=>rw[ha] at h; cases h
  |some b =>
   rw[ha] at h
   cases hl:aCL f l with
   |none=>rw[hl] at h; cases h
   |some m' =>
    rw[hl] at h;cases h;obtain⟨h1,h2⟩:=aut hl;refine⟨by simp[h1],fun i c hc=>?_⟩
    cases i with
    |zero=>simp at hc; subst hc; exact⟨b,by simp,ha⟩
    |succ i=>simpa using h2 i c (by simpa using hc)
theorem aBB (l:List Int):upE (fun j=>l[j]?.getD 0) l.length=l:=by
 unfold upE;refine List.ext_getElem (by simp) fun i h1 h2=>?_;simp at h1;simp[h1]
theorem CR.below {n₀:Nat} {w W:World} {av:Nat→Prop} (hb:Below n₀ w W) (hn:w.heap.size≤n₀) {t:Ty} {x:Val t} {vs:List Value} (h:CR w av t x vs):CR W av t x vs :=
 h.keep fun b hlt ha=>⟨hb.block b (Nat.lt_of_lt_of_le hlt hn),ha⟩
theorem aCf {w:World} {av:Nat→Prop} {xs:List (Int×Int)} {v:Value} (h:CR w av (.slice Ã) xs [v]):∃base cap b off,v=.slice base xs.length cap∧(0<xs.length→base=some ⟨b,off,none⟩∧b<w.heap.size) ∧
 ∀j,j<xs.length→w.cell? ⟨b,off+j*2,none⟩=some (.int .i64 (xs[j]?.getD (0,0)).1)∧w.cell? ⟨b,off+j*2+1,none⟩=some (.int .i64 (xs[j]?.getD (0,0)).2):=by
 obtain⟨base,cap,e,hc,hx⟩:=h;cases e;rcases hx with hx|⟨b,off,hb,hav,hlt,hx⟩
 ·refine⟨base,cap,0,0,rfl,fun h=>?_,fun j hj=>?_⟩
  ·rw[show xs=[] from hx] at h; simp at h
  ·rw[show xs=[] from hx] at hj; simp at hj
 ·refine⟨base,cap,b,off,rfl,fun _=>⟨hb,hlt⟩,fun j hj=>?_⟩;obtain⟨us,h1,h2⟩:=hx j xs[j] (List.getElem?_eq_getElem hj);obtain⟨u1,u2,e1,h3,h4⟩:=h1;have e3:u1=[.int .i64 xs[j].1]:=h3;have e4:u2=[.int .i64 xs[j].2]:=h4;subst e3 e4 e1;have s:(Ã).size=2:=rfl;rw[s] at h2;have c1:=h2 0 _ rfl;have c2:=h2 1 _ rfl;rw[List.getElem?_eq_getElem hj];exact⟨by simpa using c1,by simpa[Nat.add_assoc] using c2⟩
end Go.Proofs.ZzM
end
noncomputable section
set_option maxRecDepth 100000
namespace Go.Proofs.ZzM
open Go Go.Am Go.RowKit
section
variable {w W W':World}
abbrev noG:Nat→Prop:=fun _=>False
theorem aMs (w:World) (n:Int):aft w noG tI n (.int .i64 n):=⟨[.int .i64 n],rfl,rfl⟩
theorem a1S {sb:Nat} {mv:Value} {e:TypeId} {s:Val (.map tI Ó)} (h:w.heap[sb]?=some (.cells #[mv] e (0,0))) (hm:CR w noG (.map tI Ó) s [mv]):aft w noG (.ptr (.map tI Ó)) s (.pointer (some ⟨sb,0,none⟩)):=by
 letI:ù:=⟨fun _=>False,[],none⟩
 exact⟨[.pointer (some ⟨sb,0,none⟩)],⟨sb,0,[mv],rfl,id,Ę h,hm,ŋ.of_cells h⟩,rfl⟩
theorem a1D {y:Int} {u:Value} (h:RR w noG [tI] y u):u=.int .i64 y:=by
 obtain⟨us,h1,rfl⟩:=h;have:us=[.int .i64 y]:=h1;rw[this]; rfl
theorem aZ6 (h1:∀b,b<W.heap.size→W'.heap[b]?=W.heap[b]?) (h2:W.heap.size≤W'.heap.size) (h3:W'.os=W.os) (h4:W'.tape=W.tape) (h5:W'.output=W.output):W.grownBy W' none :=
 ⟨h3,h4,h5,h2,fun b hb _=>h1 b hb⟩
theorem aML {f:Nat} {p:Ü} (hp:Ò Tryz.prog f p) (hrs:p.rs=[tI]) {x:Val (tyL p.ts)} {y:Int} (hF:p.F x=some (hrs▸(show Val (tyL [tI]) from y))) {vals:List Value} (ha:AL W noG p.ts x vals) :
 CallsIn Fence.wide 0 Tryz.prog f vals.toArray W fun e W''=>e=.returned (.int .i64 y)∧W.grownBy W'' none:=by
 obtain⟨ts,rs,F⟩:=p;dsimp only at hrs hF ha x;subst hrs;refine(hp noG x y hF W vals (fun _ h=>h.elim) ha).2.mono fun e w' ⟨u,h0,h1,h2,h3,h4,h5,h6⟩=>⟨?_,aZ6 h2 h3 h4 h5 h6⟩;rw[h0,a1D h1]
theorem aNe {s:Val (.map tI Ó)} {a b y:Int} (hF:ń a b s=some y) {sb:Nat} {mv:Value} {e:TypeId} (h:W.heap[sb]?=some (.cells #[mv] e (0,0))) (hm:CR W noG (.map tI Ó) s [mv]) :
 CallsIn Fence.wide 0 Tryz.prog 188 #[.int .i64 a,.int .i64 b,.pointer (some ⟨sb,0,none⟩)] W fun e W''=>e=.returned (.int .i64 y)∧W.grownBy W'' none :=
 aML aSG rfl (x:=(a,b,s)) (y:=y) hF (vals:=[.int .i64 a,.int .i64 b,.pointer (some ⟨sb,0,none⟩)]) ⟨_,_,rfl,aMs _ _,_,_,rfl,aMs _ _,_,rfl,a1S h hm⟩
theorem aW5 {mv:Value} {s:Val (.map tI Ó)} (hm:CR W noG (.map tI Ó) s [mv]):aft W noG (.map tI Ó) s mv:=⟨[mv],hm,rfl⟩
theorem aUi {x:Val Å} {cs:Array Value} (hb:CR W noG Å x cs.toList):aft W noG Å x (.agg cs):=⟨cs.toList,hb,by show Value.agg cs=Value.agg cs.toList.toArray; rw[Array.toArray_toList]⟩
theorem aXh {x:Val Å} {s:Val (.map tI Ó)} {i y:Int} (hF:Υ x s i=some y) {mv:Value} {cs:Array Value} (hb:CR W noG Å x cs.toList) (hm:CR W noG (.map tI Ó) s [mv]) :
 CallsIn Fence.wide 0 Tryz.prog 192 #[.agg cs,mv,.int .i64 i] W fun e W''=>e=.returned (.int .i64 y)∧W.grownBy W'' none :=
 aML aMU rfl (x:=(x,s,i)) (y:=y) hF (vals:=[.agg cs,mv,.int .i64 i]) ⟨_,_,rfl,aUi hb,_,_,rfl,aW5 hm,_,rfl,aMs _ _⟩
theorem aQl {x:Val Å} {s:Val (.map tI Ó)} {i y:Int} (hF:ň x s i=some y) {mv:Value} {cs:Array Value} (hb:CR W noG Å x cs.toList) (hm:CR W noG (.map tI Ó) s [mv]) :
 CallsIn Fence.wide 0 Tryz.prog 193 #[.agg cs,mv,.int .i64 i] W fun e W''=>e=.returned (.int .i64 y)∧W.grownBy W'' none :=
 aML aBw rfl (x:=(x,s,i)) (y:=y) hF (vals:=[.agg cs,mv,.int .i64 i]) ⟨_,_,rfl,aUi hb,_,_,rfl,aW5 hm,_,rfl,aMs _ _⟩
end
theorem aiw {w:World} {av:Nat→Prop} {t:Ty} {xs:List (Val t)} {vs:List Value} (h:CR w av (.slice t) xs vs):∃base cap,vs=[.slice base xs.length cap]:=by
 obtain⟨base,cap,e,_⟩:=h;exact⟨base,cap,e⟩
theorem aZx {x:Val Å} {s:Val (.map tI Ó)} {l1 l2 l3 l4:List Int} (h1:aCL (fun u=>ń u.1 u.2 s) (x.2.2.1:List (Int×Int))=some l1) (h2:aCL (fun i=>Υ x s i) (anY (x.2.2.2.1:List (Val Ō)).length)=some l2)
 (h3:aCL (fun i=>ň x s i) (anY (x.2.2.2.2.1:List (Val Í)).length)=some l3) (h4:aCL (fun u=>ń u.1 u.2 s) (x.2.2.2.2.2:List (Int×Int))=some l4)
 (hlen:(x.2.2.1:List (Val Ã)).length≤1000∧(x.2.2.2.1:List (Val Ō)).length≤1000∧(x.2.2.2.2.1:List (Val Í)).length≤1000∧(x.2.2.2.2.2:List (Val Ã)).length≤1000)
 {w:World} {bb tb sb:Nat} {te te2 te3:TypeId} {cb:Array Value} {mv:Value} (hbb:w.heap[bb]?=some (.cells cb te (0,0))) (hbk:CR w noG Å x cb.toList) (htb:w.heap[tb]?=some (.cells #[.func (.func 188) #[] #[.pointer (some ⟨sb,0,none⟩)]] te2 (0,0)))
 (hsb:w.heap[sb]?=some (.cells #[mv] te3 (0,0))) (hmv:CR w noG (.map tI Ó) s [mv]) :
 SeqStopsK Fence.wide 1 Tryz.prog 191 #[.pointer (some ⟨bb,0,none⟩),.pointer (some ⟨tb,0,none⟩),.pointer (some ⟨sb,0,none⟩)] (fun x:Int=>#[.int .i64 x]) (Below w.heap.size) (fun xs=>xs=l1++(l2++(l3++l4))) (fun pre=>pre <+: (l1++(l2++(l3++l4)))) (l1++(l2++(l3++l4))).length w:=by
 intro l J Jx W hbel hJ hJx hY h0;obtain⟨fl,r0,e0,hfl,hr0⟩:=id hbk;obtain⟨ga,r1,e1,hga,hr1⟩:=hr0;obtain⟨us,r2,e2,hus,hr2⟩:=hr1;obtain⟨lo,r3,e3,hlo,hr3⟩:=hr2;obtain⟨co,ko,e4,hco,hko⟩:=hr3;obtain⟨f1,f2,e5,hf1,hf2⟩:=hfl;have e6:f1=[.int .i64 x.1.1]:=hf1;have e7:f2=[.int .i64 x.1.2]:=hf2;obtain⟨gab,gac,e8⟩:=aiw hga;obtain⟨lob,loc,e9⟩:=aiw hlo;obtain⟨cob,coc,e10⟩:=aiw hco;obtain⟨usb0,usc0,e11⟩:=aiw hus;obtain⟨kob0,koc0,e12⟩:=aiw hko;rw[e11] at hus;rw[e12] at hko;obtain⟨usb,usc,ub,uo,e13,hub,hU⟩:=aCf hus;obtain⟨kob,koc,kb,kof,e14,hkb,hK⟩:=aCf hko;rw[e13] at e11;rw[e14] at e12
 have hcb:cb=#[.int .i64 x.1.1,.int .i64 x.1.2,.slice gab (x.2.1:List (Val Ó)).length gac,.slice usb (x.2.2.1:List (Val Ã)).length usc,.slice lob (x.2.2.2.1:List (Val Ō)).length loc,.slice cob (x.2.2.2.2.1:List (Val Í)).length coc,.slice kob (x.2.2.2.2.2:List (Val Ã)).length koc]:=by
  rw[←Array.toList_inj,e0,e1,e2,e3,e4,e5,e6,e7,e8,e9,e10,e11,e12];rfl
 obtain⟨g1,q1⟩:=aut h1;obtain⟨g2,q2⟩:=aut h2;obtain⟨g3,q3⟩:=aut h3;obtain⟨g4,q4⟩:=aut h4
 have gl2:l2.length=(x.2.2.2.1:List (Val Ō)).length:=by rw[g2]; simp[anY]
 have gl3:l3.length=(x.2.2.2.2.1:List (Val Í)).length:=by rw[g3]; simp[anY]
 have up1:upE (fun j=>l1[j]?.getD 0) (x.2.2.1:List (Val Ã)).length=l1:=by rw[←g1]; exact aBB l1
 have up2:upE (fun j=>l2[j]?.getD 0) (x.2.2.2.1:List (Val Ō)).length=l2:=by rw[←gl2]; exact aBB l2
 have up3:upE (fun j=>l3[j]?.getD 0) (x.2.2.2.2.1:List (Val Í)).length=l3:=by rw[←gl3]; exact aBB l3
 have up4:upE (fun j=>l4[j]?.getD 0) (x.2.2.2.2.2:List (Val Ã)).length=l4:=by rw[←g4]; exact aBB l4
 have at1:∀{xs:List (Int×Int)} {ls:List Int},(∀(i:Nat) (a:Int×Int),xs[i]?=some a→∃b,ls[i]?=some b∧ń a.1 a.2 s=some b)→∀j,j<xs.length→ń (xs[j]?.getD (0,0)).1 (xs[j]?.getD (0,0)).2 s=some (ls[j]?.getD 0):=by
  intro xs ls hq j hj;obtain⟨b,hb,hf⟩:=hq j xs[j] (List.getElem?_eq_getElem hj);rw[List.getElem?_eq_getElem hj,hb];exact hf
 have at2:∀{n:Nat} {ls:List Int} {f:Int→Option Int},(∀(i:Nat) (a:Int),(anY n)[i]?=some a→∃b,ls[i]?=some b∧f a=some b)→∀j,j<n→f (j:Int)=some (ls[j]?.getD 0):=by
  intro n ls f hq j hj;obtain⟨b,hb,hf⟩:=hq j j (by simp[anY,hj]);rw[hb]; exact hf
 have hbel':∀{W':World},Below w.heap.size W W'→Below w.heap.size w W':=fun h=>hbel.trans h;have hcell:∀{W':World} {p:Addr} {v:Value},Below w.heap.size w W'→w.cell? p=some v→p.block<w.heap.size→W'.cell? p=some v:=fun {W'} {p} {v} h hc hp=>(h.cell (p:=p) hp).trans hc;have lb:=Ę hbb;have lt:=Ę htb;have ls:=Ę hsb
 have:=aZG te 1 (by omega) l w.heap.size bb tb sb (.int .i64 x.1.1) (.int .i64 x.1.2) (.slice gab (x.2.1:List (Val Ó)).length gac) mv lb lt ls
  ub uo (x.2.2.1:List (Val Ã)).length usc kb kof (x.2.2.2.2.2:List (Val Ã)).length koc usb kob lob cob (x.2.2.2.1:List (Val Ō)).length loc (x.2.2.2.2.1:List (Val Í)).length coc hub hkb
  (fun j=>(x.2.2.1:List (Int×Int))[j]?.getD (0,0)) (fun j=>(x.2.2.2.2.2:List (Int×Int))[j]?.getD (0,0)) (fun j=>l1[j]?.getD 0) (fun j=>l2[j]?.getD 0) (fun j=>l3[j]?.getD 0) (fun j=>l4[j]?.getD 0)
  hlen.1 hlen.2.1 hlen.2.2.1 hlen.2.2.2 W ((hbel.block bb lb).trans (by rw[hbb,hcb])) (hcell hbel (by simp[World.cell?,htb]) lt) (hcell hbel (by simp[World.cell?,hsb]) ls)
  (fun j hj=>⟨hcell hbel (hU j hj).1 (hub (by omega)).2,hcell hbel (hU j hj).2 (hub (by omega)).2⟩) (fun j hj=>⟨hcell hbel (hK j hj).1 (hkb (by omega)).2,hcell hbel (hK j hj).2 (hkb (by omega)).2⟩)
  (fun j hj W' hW=>aNe (at1 q1 j hj) (((hbel' hW).block sb ls).trans hsb) (CR.below (hbel' hW) (Nat.le_refl _) hmv))
  (fun j hj W' hW=>aNe (at1 q4 j hj) (((hbel' hW).block sb ls).trans hsb) (CR.below (hbel' hW) (Nat.le_refl _) hmv))
  (fun j hj W' hW=>aXh (at2 q2 j hj) (by have:=CR.below (hbel' hW) (Nat.le_refl _) hbk; rwa [hcb] at this) (CR.below (hbel' hW) (Nat.le_refl _) hmv))
  (fun j hj W' hW=>aQl (at2 q3 j hj) (by have:=CR.below (hbel' hW) (Nat.le_refl _) hbk; rwa [hcb] at this) (CR.below (hbel' hW) (Nat.le_refl _) hmv))
  J Jx (fun pre W1 W2 hj hg=>hJ pre W1 W2 none hj hg (fun r e=>by cases e)) (fun pre W1 W2 hj hg=>hJx pre W1 W2 none hj hg (fun r e=>by cases e))
  (fun pre y W1 hj hl=>hY pre y W1 hj (by simp only[List.length_append]; omega)) h0 hbel.size
 rw[up1,up2,up3,up4] at this;exact this
end Go.Proofs.ZzM
end
noncomputable section
set_option maxRecDepth 100000
namespace Go.Proofs.ZzM
open Go Go.Am Go.RowKit
section
variable [ù] {ρ:Type} {ν:Nat→Value} {w:World}
theorem peel (hq:ù.Q=none) {E:Env ρ} {call:List Nat→Bool→Nat→List AV→List Blk→(AV→List Blk→Option ρ)→Option ρ} {L:Nat} (hE:af7 E L call) (hD:agn E L call) (hj:E.joins=fun _ _ _ _=>none) {fid:Nat} {path:List Nat} (hp:path.length+2=L) {x y c:Code} {bid n:Nat} {S:St} {K:Exit→St→Option ρ} {r:ρ} {a:Act} {Q:Exit→Act→World→Prop}
 (hL:∀z∈ó bid x,ahO E path fid z.1 z.2) (e:goC E call fid path 0 bid (.seq x y) S K=some r) (H:Sim ν S a w)
 (hn:∀ν' S' a' w',Sim ν' S' a' w'→Ev 0 ν S.h w ν' S'.h w'→goC E call fid path 0 bid y S' K=some r→c.wpIn Fence.wide n E.P Q a' w')
 (hx:∀ν' S' a' w' e,e≠.normal→Sim ν' S' a' w'→Ev 0 ν S.h w ν' S'.h w'→K e S'=some r→Q e a' w'):(Code.seq x c).wpIn Fence.wide n E.P Q a w:=by
 simp only[goC,hj] at e;have hgo:=afX hE hD hp x bid S _ ν a w hL e H (Nat.zero_le _);rw[awu hq] at hgo;refine wpIn_seq (wpIn_wide.2 (wpIn_wide.1 (wpIn_mono hgo fun e' a' w' ha=>?_)));obtain⟨ν',S',h1,h2,h3,h4,h5⟩:=ha
 cases e' with
 |normal=>exact hn ν' S' a' w' h1 h2 h5
 |exit id=>exact hx ν' S' a' w' _ (by simp) h1 h2 h5
 |goto l=>exact hx ν' S' a' w' _ (by simp) h1 h2 h5
 |ret=>exact hx ν' S' a' w' _ (by simp) h1 h2 h5
 |panic ch=>exact hx ν' S' a' w' _ (by simp) h1 h2 h5
 |outgrown=>exact hx ν' S' a' w' _ (by simp) h1 h2 h5
end
theorem aWy {T:Array Value} {rb:Nat} {n:Int} {e:TypeId} {W:World} (h2:T.getD 2 undef=.pointer (some ⟨rb,0,none⟩)) (hc:W.heap[rb]?=some (.cells #[.int .i64 n] e (0,0))):(results Tryz.f66 T).run Tryz.prog W=.ok (.int .i64 n) W:=by
 letI:ù:=⟨fun _=>False,[],none⟩
 have hl:(loadVar 35 ⟨rb,0,none⟩).run Tryz.prog W=.ok (.int .i64 n) W:=by
  have:=alS (P:=Tryz.prog) (w:=W) (t:=35) (agg:=false) (n:=1) (by kernel_rfl) (us:=[.int .i64 n]) rfl (fun _=>rfl) (a:=⟨rb,0,none⟩) (fun j v hj=>by
   have:=ŋ.of_cells hc j v (by simpa using hj)
   cases j with
   |zero=>simpa[Addr.add] using this
   |succ j=>simp at hj)
  exact this
 have hr:Tryz.f66.results=#[.cell 2 35]:=by kernel_rfl
 unfold results;rw[hr,Array.mapM_eq_mapM_toList];simp only[Sem.run_bind,Sem.run_map,List.mapM_cons,List.mapM_nil,h2,asAddr,Sem.run_pure,Result.andThen_ok,hl];rfl
theorem HR_ghost {G:Nat→Prop} {D D':List Deferred} {Q Q':Option Nat} {ν:Nat→Value} {h:List Blk} {w:World} (H:@HR ⟨G,D,Q⟩ ν h w):@HR ⟨G,D',Q'⟩ ν h w :=
 @HR.mk ⟨G,D',Q'⟩ ν h w (@HR.blk ⟨G,D,Q⟩ ν h w H) (@HR.inj ⟨G,D,Q⟩ ν h w H) (@HR.ghlt ⟨G,D,Q⟩ ν h w H) (@HR.ghne ⟨G,D,Q⟩ ν h w H)
theorem a2l [ù] {ν:Nat→Value} {h:List Blk} {w:World} {x:Val Å} {us:List Value} (hv:ĉ (VRc ν h w) (flat Å x) us):CR w noG Å x us:=by
 have h1:ê Å (flat Å x)=some x:=rfl;have h2:ĉ (VRs w (Av ν h)) (flat Å x) us:=hv.mono fun c u hu=>hu.1.data;exact CR.mono (fun _ hf=>hf.elim) (ŭ h1 h2)
def asg (G:Nat→Prop) (y:Int) (w:World) (e:Ending) (w':World):Prop :=
 ∃u,e=.returned u∧RR w' G [tI] y u∧(∀b,b<w.heap.size→w'.heap[b]?=w.heap[b]?)∧w.heap.size≤w'.heap.size∧w'.os=w.os∧w'.tape=w.tape∧w'.output=w.output
theorem aT6 {G:Nat→Prop} {y:Int} {w0 w:World} {a:Act} {D rb:Nat} {e:TypeId} (hd:a.defers=[aTG D]) (hD:w.heap[D]?=some (.deferred (some []))) (h2:a.tmps.getD 2 undef=.pointer (some ⟨rb,0,none⟩)) (hc:w.heap[rb]?=some (.cells #[.int .i64 y] e (0,0)))
 (hb:∀b,b<w0.heap.size→w.heap[b]?=w0.heap[b]?) (hDl:w0.heap.size≤D) (hsz:w0.heap.size≤w.heap.size) (h3:w.os=w0.os) (h4:w.tape=w0.tape) (h5:w.output=w0.output):LeavesInM Fence.wide 2 Tryz.prog Tryz.f66 a.tmps (asg G y w0) a.defers .returning w:=by
 rw[hd]
 have hne:rb≠D:=fun h=>by rw[h,hD] at hc; cases hc
 have ho:∀b,b≠D→(w.putObj D (.deferred none)).heap[b]?=w.heap[b]?:=fun b hb=>by
  simp only[World.putObj,Array.getElem?_setIfInBounds];rw[if_neg (fun h=>hb h.symm)]
 refine⟨by simp,.inl ⟨D,_,rfl,run_takeDeferred hD,?_⟩⟩;refine⟨.int .i64 y,aWy h2 ((ho rb hne).trans hc),.int .i64 y,rfl,⟨[.int .i64 y],rfl,rfl⟩,fun b hlt=>(ho b (by omega)).trans (hb b hlt),by simpa[World.putObj] using hsz,h3,h4,h5⟩
theorem a2f (S:St):ckK .ret S=(aX5 S).map .inl:=by
 unfold ckK
 cases aX5 S<;>rfl
theorem aVw (S:St):ckK .normal S=if decide (78≤S.t.length)=true then some (.inr ([lk S.t 1,lk S.t 2,lk S.t 48],S.h)) else none:=by
 unfold ckK
 cases decide (78≤S.t.length)<;>rfl
theorem aem [ù] {ρ:Type} {E:Env ρ} (h0:E.loops=ah3 []) {path:List Nat} {fid bid:Nat} {b:Code}:ahO E path fid bid b:=fun m S K r ν a w e=>by
 rw[h0] at e;cases e
def a1H:Code→String
 | .region _ ops _ => ((ops[0]?).map fun o => o.pos).getD ""
 | _ => ""
def rfA:Code→Code
 |.block _ (.rangeFunc _ _ a _)=>a
 |_=>.skip
def rfB:Code→Code
 |.block _ (.rangeFunc _ _ _ (.block _ (.seq a _)))=>a
 |_=>.skip
def rfC:Code→Code
 |.block _ (.rangeFunc _ _ _ (.block _ (.seq _ (.cond _ (.seq a _) _))))=>a
 |_=>.skip
theorem a2d:ckRF=Code.block 0 (Code.rangeFunc (.tmp 48) #[49] (aTl (a1H (rfA ckRF))) (a04 (a1H (rfB ckRF)) (a1H (rfC ckRF)))):=by kernel_rfl
theorem a1l:∀e∈ck_pt,Ò Tryz.prog e.1 e.2:=Á aFV (Á aFU (Á aqH (Á aFX Ç)))
theorem aX6 {e:Exit} {S:St} {n:Int} (h:ckK2 e S=some n):e=.ret∧lk S.t 2=.box 1 0∧lkB S.h 1=.cells [.int .i64 n]:=by
 unfold ckK2 at h
 split at h
 ·split at h
  ·rename_i h2
   split at h
   ·rename_i h3;cases h;exact⟨rfl,h2,h3⟩
   ·cases h
  ·cases h
 ·cases h
theorem aPU [ù] {ν:Nat→Value} {h:List Blk} {w:World} {n:Int} {id:Nat} (H:HR ν h w) (hl:lkB h id=.cells [.int .i64 n]):∃b e,ν id=.pointer (some ⟨b,0,none⟩)∧w.heap[b]?=some (.cells #[.int .i64 n] e (0,0)):=by
 have hB:=H.blk id;rw[hl] at hB;obtain⟨b,c,e,h1,h2,h3⟩:=hB;obtain⟨u,h4,h5⟩:=h3.one;have h6:u=.int .i64 n:=h5.1;refine⟨b,e,h1,?_⟩;rw[h2]
 have:c=#[.int .i64 n]:=by rw[←Array.toList_inj,h4,h6]
 rw[this]
theorem apU [ù] {ν:Nat→Value} {h:List Blk} {w:World} {id off:Nat} {v:Value} {b:Nat} (hv:VR ν h w (.box id off) v) (hb:ν id=.pointer (some ⟨b,0,none⟩)):v=.pointer (some ⟨b,off,none⟩):=by
 obtain⟨cs,b',h1,h2,h3⟩:=hv;rw[hb] at h2;cases h2;exact h3
theorem a2c {G:Nat→Prop} {x:Val Å} {s:Val (.map tI Ó)} {y:Int} (hS:ckS x=some y) {ν:Nat→Value} {w0 w6 W:World} {a:Act} {D:Nat} (H:@HR ⟨G,[],none⟩ ν (ckH x s 0) w6) (hb:Below w6.heap.size w6 W) (hD:w6.heap.size≤D) (hDo:W.heap[D]?=some (.deferred (some []))) (hd:a.defers=[aTG D]) (hlen:78≤a.tmps.size)
 (t1:@VR ⟨G,[],none⟩ ν (ckH x s 0) w6 (.box 0 0) (a.tmps.getD 1 undef)) (t2:@VR ⟨G,[],none⟩ ν (ckH x s 0) w6 (.box 1 0) (a.tmps.getD 2 undef))
 (h0:∀b,b<w0.heap.size→w6.heap[b]?=w0.heap[b]?∧¬aSS ν (ckH x s 0) b) (hsz:w0.heap.size≤w6.heap.size) (h3:w6.os=w0.os) (h4:w6.tape=w0.tape) (h5:w6.output=w0.output) :
 aJp.wpIn Fence.wide 2 Tryz.prog (bodyPostM Fence.wide 2 Tryz.prog Tryz.f66 (asg G y w0)) a W:=by
 have hlive:∀b,aSS ν (ckH x s 0) b→b<w6.heap.size:=fun b hl=>@HR.ltA ⟨G,[],none⟩ _ _ _ H b (.inl hl)
 have t1':∃b,ν 0=.pointer (some ⟨b,0,none⟩)∧a.tmps.getD 1 undef=.pointer (some ⟨b,0,none⟩):=by
  obtain⟨cs,b,_,h2,h3⟩:=t1;exact⟨b,h2,h3⟩
 have t2':∃b,ν 1=.pointer (some ⟨b,0,none⟩)∧a.tmps.getD 2 undef=.pointer (some ⟨b,0,none⟩):=by
  obtain⟨cs,b,_,h2,h3⟩:=t2;exact⟨b,h2,h3⟩
 letI:ù:=⟨G,[aTG D],none⟩
 have H1:HR ν (ckH x s 0) w6:=HR_ghost H;have H2:HR ν (ckH x s 0) W:=(H1.grow (fun b hlt=>hb.block b hlt) hb.size hb.os hb.tape hb.output 0).2;have hlib:aBz (a0u Int):=aE7 a1l (a0u Int) rfl rfl rfl rfl rfl (adm rfl);have hdraw:∀L call,af7 (a0u Int) L call→agn (a0u Int) L call:=atx hmix;have hl0:(a0u Int).loops=ah3 []:=rfl;have hcall:=agJ (.inr fun _=>rfl) hlib hdraw (fun n hn hE path f fn c _ _ _ z _=>aem hl0) 10 (Nat.le_refl _);have hEnv:af7 (a0u Int) 2 (aeS (a0u Int) 10):=⟨.inr (aja 9),hcall,hlib.plain,hlib.clone,hlib.joins⟩;have law:=ck_suf x s;rw[hS] at law
 have sim:Sim ν {t:=[.any,.box 0 0,.box 1 0]++List.replicate 75 .any,h:=ckH x s 0} a W:=by
  refine⟨hd,by simpa using hlen,fun i=>?_,H2⟩;simp only[aE5];rcases i with _|_|_|i
  ·trivial
  ·obtain⟨b,g1,g2⟩:=t1';exact⟨_,b,rfl,g1,g2⟩
  ·obtain⟨b,g1,g2⟩:=t2';exact⟨_,b,rfl,g1,g2⟩
  ·trivial
 refine wpIn_wide.2 (wpIn_wide.1 (wpIn_mono (afX hEnv (hdraw _ _ hEnv) rfl aJp 0 _ _ ν a W (fun z _=>aem hl0) law sim (Nat.zero_le _)) fun e a' w' ha=>?_));obtain⟨ν',S',g1,g2,_,_,g5⟩:=ha;obtain⟨rfl,k2,k3⟩:=aX6 g5;obtain⟨rb,te,r1,r2⟩:=aPU g1.heap k3;have r3:=g1.tmps 2;rw[k2] at r3;have r4:=apU r3 r1;have hDlt:=Ę hDo;refine aT6 (w:=w') (a:=a') (G:=G) (y:=y) (w0:=w0) (D:=D) (rb:=rb) g1.defers ((g2.keep D hDlt fun hl=>by have:=hlive D hl; omega).1.trans hDo) r4 r2 (fun b hlt=>?_) (by omega) (by have:=g2.size; have:=hb.size; omega) (g2.os.trans (hb.os.trans h3)) (g2.tape.trans (hb.tape.trans h4)) (g2.output.trans (hb.output.trans h5));have h01:=h0 b hlt
 have hlt6:b<w6.heap.size:=by omega
 have hltW:b<W.heap.size:=by have:=hb.size; omega
 exact(g2.keep b hltW h01.2).1.trans ((hb.block b hlt6).trans h01.1)
set_option maxHeartbeats 2000000 in
theorem aVx (G:Nat→Prop) (x:Val Å) (y:Int) (hF':ā x=some y) (w:World) (vals:List Value) (hG:∀b,G b→b<w.heap.size) (hAL:AL w G [Å] x vals) :
 (∃fn c,Tryz.prog.funcs[66]?=some fn∧fn.body=some c)∧CallsIn Fence.wide 0 Tryz.prog 66 vals.toArray w (asg G y w):=by
 rw[a0t] at hF'
 letI:ù:=⟨G,[],none⟩
 have hpt:=a1l;have hlib:aBz (ckE ckR):=aE7 hpt (ckE ckR) rfl rfl rfl rfl rfl (adm rfl);have hdraw:∀L call,af7 (ckE ckR) L call→agn (ckE ckR) L call:=atx hmix;have h0:(ckE ckR).loops=ah3 []:=rfl;have hcall:=agJ (.inl ⟨rfl,rfl⟩) hlib hdraw (fun n hn hE path f fn c _ _ _ z _=>aem h0) 10 (Nat.le_refl _);have hEnv:af7 (ckE ckR) 2 (aeS (ckE ckR) 10):=⟨.inr (aja 9),hcall,hlib.plain,hlib.clone,hlib.joins⟩;have hD:=hdraw _ _ hEnv;have H:HR (fun _=>undef) [] w:=⟨fun _=>trivial,fun _ _ _ h=>(by cases h),hG,fun _ _ h=>(by cases h)⟩;have hav:∀b,Av (fun _=>undef) [] b→G b:=fun b hb=>hb.elim (fun⟨_,h,_⟩=>by cases h) id;have hargs:ĉ (VR (fun _=>undef) [] w) (Ć [Å] x) vals:=AL.VR (hAL.mono hav);refine⟨⟨Tryz.f66,_,Tryz.func66,a1m⟩,?_⟩
 have hlen:vals.length=1:=by
  have:=hargs.length;simpa[Ć,aXR] using this.symm
 cases hM:ckM x with
 |none=>rw[hM] at hF'; cases hF'
 |some r0 =>
 rw[hM] at hF';have law:=ck_pre x;rw[hM] at law;refine callsIn_wide.2 (callsIn_wide.1 (callsIn_of_wp_marks (n:=2) Tryz.func66 a1m trivial ?_ (R:=asg G y w)))
 have hS:Sim (fun _=>undef) {t:=Ć [Å] x++List.replicate 77 .any,h:=[]} {tmps:=vals.toArray++Array.replicate (Tryz.f66.ntmps-vals.toArray.size) undef,defers:=[]} w:=by
  refine⟨rfl,?_,fun i=>?_,H⟩
  ·have:Tryz.f66.ntmps=78:=by kernel_rfl
   have hl2:(Ć [Å] x).length=1:=rfl;simp[this,hlen,hl2]
  ·simp only[aE5];rcases Nat.lt_or_ge i (Ć [Å] x).length with hi|hi
   ·have:=ĉ.lk (R:=VR (fun _=>undef) [] w) (fun _=>trivial) i hargs
    have hv:i<vals.length:=by rw[←hargs.length]; exact hi
    have h2:(vals.toArray++Array.replicate (Tryz.f66.ntmps-vals.toArray.size) undef).getD i undef=vals.getD i undef:=by
     simp[Array.getD_eq_getD_getElem?,Array.getElem?_append,hv]
    rw[h2]; exact this
   ·rw[aXl _ _ hi]; trivial
 -- the ways out ahead of the loop
 have out:∀ν' S' a' w' e,e≠.normal→Sim ν' S' a' w'→Ev 0 (fun _=>undef) [] w ν' S'.h w'→ckK e S'=some r0→bodyPostM Fence.wide 2 Tryz.prog Tryz.f66 (asg G y w) e a' w':=by
  intro ν' S' a' w' e hne hS' hE' hk
  cases e with
  |normal=>exact(hne rfl).elim
  |ret =>
   rw[a2f] at hk
   cases hr:aX5 S' with
   |none=>rw[hr] at hk; cases hk
   |some n =>
    rw[hr,Option.map_some] at hk;cases hk
    have hyn:n=y:=by simpa using hF'
    subst hyn;unfold aX5 at hr
    split at hr
    ·rename_i v hv;obtain⟨u,q1,q2⟩:=axd hS' hv;show LeavesInM _ _ _ _ _ _ a'.defers _ _;rw[show a'.defers=[] from hS'.defers];exact⟨u,q1,u,rfl,aJP hS'.heap [tI] q2 hr,fun b hb=>(hE'.keep b hb fun⟨_,h,_⟩=>by cases h).1,hE'.size,hE'.os,hE'.tape,hE'.output⟩
    ·cases hr
  |exit id=>cases hk
  |goto l=>cases hk
  |panic ch=>cases hk
  |outgrown=>cases hk
 have outT:∀{ν₁:Nat→Value} {h₁:List Blk} {w₁:World},Ev 0 (fun _=>undef) [] w ν₁ h₁ w₁→∀ν' S' a' w' e,e≠.normal→Sim ν' S' a' w'→Ev 0 ν₁ h₁ w₁ ν' S'.h w'→ckK e S'=some r0→bodyPostM Fence.wide 2 Tryz.prog Tryz.f66 (asg G y w) e a' w' :=
  fun hE ν' S' a' w' e hne hS' hE' hk=>out ν' S' a' w' e hne hS' (hE.trans hE' (Nat.le_refl _)) hk
 refine peel rfl hEnv hD rfl rfl (fun z _=>aem h0) law hS (fun ν1 S1 a1 w1 s1 e1 k1=>?_) out;refine peel rfl hEnv hD rfl rfl (fun z _=>aem h0) k1 s1 (fun ν2 S2 a2 w2 s2 e2 k2=>?_) (outT e1);have t2:=e1.trans e2 (Nat.le_refl _);refine peel rfl hEnv hD rfl rfl (fun z _=>aem h0) k2 s2 (fun ν3 S3 a3 w3 s3 e3 k3=>?_) (outT t2);have t3:=t2.trans e3 (Nat.le_refl _);refine peel rfl hEnv hD rfl rfl (fun z _=>aem h0) k3 s3 (fun ν4 S4 a4 w4 s4 e4 k4=>?_) (outT t3);have t4:=t3.trans e4 (Nat.le_refl _);refine peel rfl hEnv hD rfl rfl (fun z _=>aem h0) k4 s4 (fun ν5 S5 a5 w5 s5 e5 k5=>?_) (outT t4);have t5:=t4.trans e5 (Nat.le_refl _);refine wpIn_seq (wpIn_seq (wpIn_wide.2 (wpIn_wide.1 (wpIn_mono (afX hEnv hD rfl ckA5 0 S5 _ ν5 a5 w5 (fun z _=>aem h0) k5 s5 (Nat.zero_le _)) fun e' a6 w6 ha=>?_))));obtain⟨ν,S,s6,e6,_,_,k6⟩:=ha;have t6:=t5.trans e6 (Nat.le_refl _)
 have other:∀e,e≠.normal→ckK e S=some r0→Exit.then (Code.wpIn Fence.wide 2 Tryz.prog aJp (bodyPostM Fence.wide 2 Tryz.prog Tryz.f66 (asg G y w))) (bodyPostM Fence.wide 2 Tryz.prog Tryz.f66 (asg G y w)) e a6 w6:=by
  intro e hne hk;have:=out ν S a6 w6 e hne s6 t6 hk
  cases e<;>first|exact(hne rfl).elim|exact this
 cases e' with
 |exit id=>exact other _ (by simp) k6
 |goto l=>exact other _ (by simp) k6
 |ret=>exact other _ (by simp) k6
 |panic ch=>exact other _ (by simp) k6
 |outgrown=>exact other _ (by simp) k6
 |normal =>
 clear other;rw[aVw] at k6
 split at k6<;>try (cases k6; done)
 rename_i h78
 have h78':78≤S.t.length:=by simpa using h78
 cases k6;obtain⟨hlens,s,hs,hq⟩:=a2e hM;simp only[Prod.mk.injEq,List.cons.injEq,and_true] at hq;obtain⟨⟨q1,q2,q48⟩,qh⟩:=hq
 have hF2:aNH (ahj x s) some (ckS x)=some y:=by
  simp only at hF';rw[hs] at hF';exact hF'
 -- what the errors are
 obtain⟨L,hL,hLy⟩:∃L,ahj x s=some L∧(match L.find? (fun e=>e != 0) with|some e=>some e|none=>ckS x)=some y:=by
  unfold aNH at hF2
  cases hl:ahj x s with
  |none=>rw[hl] at hF2; cases hF2
  |some L=>rw[hl] at hF2; exact⟨L,rfl,hF2⟩
 obtain⟨l1,l2,l3,l4,m1,m2,m3,m4,rfl⟩:∃l1 l2 l3 l4,aCL (fun u=>ń u.1 u.2 s) (x.2.2.1:List (Int×Int))=some l1∧aCL (fun i=>Υ x s i) (anY (x.2.2.2.1:List (Val Ō)).length)=some l2 ∧
  aCL (fun i=>ň x s i) (anY (x.2.2.2.2.1:List (Val Í)).length)=some l3∧aCL (fun u=>ń u.1 u.2 s) (x.2.2.2.2.2:List (Int×Int))=some l4∧L=l1++(l2++(l3++l4)):=by
  unfold ahj at hL
  cases m1:aCL (fun u=>ń u.1 u.2 s) (x.2.2.1:List (Int×Int)) with
  |none=>rw[m1] at hL; cases hL
  |some l1 =>
  rw[m1] at hL
  cases m2:aCL (fun i=>Υ x s i) (anY (x.2.2.2.1:List (Val Ō)).length) with
  |none=>simp only[Â,m2] at hL; cases hL
  |some l2 =>
  cases m3:aCL (fun i=>ň x s i) (anY (x.2.2.2.2.1:List (Val Í)).length) with
  |none=>simp only[Â,m2,m3] at hL; cases hL
  |some l3 =>
  cases m4:aCL (fun u=>ń u.1 u.2 s) (x.2.2.2.2.2:List (Int×Int)) with
  |none=>simp only[Â,m2,m3,m4] at hL; cases hL
  |some l4 =>
  simp only[Â,m2,m3,m4] at hL;cases hL;exact⟨l1,l2,l3,l4,rfl,rfl,rfl,rfl,rfl⟩
 -- the blocks
 obtain⟨T,Hh⟩:=S;dsimp only at q1 q2 q48 qh h78';subst qh;have p1:=s6.tmps 1;have p2:=s6.tmps 2;have p48:=s6.tmps 48;dsimp only at p1 p2 p48;rw[q1] at p1;rw[q2] at p2;rw[q48] at p48;obtain⟨rb,te1,n1,hrb⟩:=aPU (id:=1) (n:=0) s6.heap rfl;have hB2:BR ν (ckH x s 0) w6 2 (.cells (flat Å x)):=s6.heap.blk 2;have hB3:BR ν (ckH x s 0) w6 3 (.cells [.mp tI Ó s]):=s6.heap.blk 3;have hB4:BR ν (ckH x s 0) w6 4 (.cells [.fn (.func 188) [] [.box 3 0]]):=s6.heap.blk 4;obtain⟨bb,cb,te,n2,hbb,hb2⟩:=hB2;obtain⟨sb,cs3,te3,n3,hsb,hb3⟩:=hB3;obtain⟨tb,cs4,te2,n4,htb,hb4⟩:=hB4;obtain⟨mv,z3,hm3⟩:=hb3.one;obtain⟨fv,z4,hm4⟩:=hb4.one;have hmv:CR w6 noG (.map tI Ó) s [mv]:=CR.mono (fun _ hf=>hf.elim) (show CR w6 (Av ν (ckH x s 0)) (.map tI Ó) s [mv] from hm3.1)
 have hc3:cs3=#[mv]:=by rw[←Array.toList_inj,z3]
 have hfv:fv=.func (.func 188) #[] #[.pointer (some ⟨sb,0,none⟩)]:=by
  obtain⟨fs,cs,h1,h2,h3⟩:=hm4.1
  have e1:fs=#[]:=by rw[←Array.toList_inj]; exact h2.nil_left
  obtain⟨u,e2,h4⟩:=h3.one;have e3:u=.pointer (some ⟨sb,0,none⟩):=apU (w:=w6) (id:=3) (off:=0) h4 n3
  have e4:cs=#[.pointer (some ⟨sb,0,none⟩)]:=by rw[←Array.toList_inj,e2,e3]
  rw[h1,e1,e4]
 have hc4:cs4=#[fv]:=by rw[←Array.toList_inj,z4]
 rw[hc3] at hsb;rw[hc4,hfv] at htb
 have hg:a6.tmps.getD 48 undef=.func (.func 191) #[] #[.pointer (some ⟨bb,0,none⟩),.pointer (some ⟨tb,0,none⟩),.pointer (some ⟨sb,0,none⟩)]:=by
  obtain⟨fs,cs,h1,h2,h3⟩:=p48
  have e1:fs=#[]:=by rw[←Array.toList_inj]; exact h2.nil_left
  have hl:=h3.length
  obtain⟨u1,u2,u3,e2⟩:∃u1 u2 u3,cs.toList=[u1,u2,u3]:=by
   rcases hcs:cs.toList with _|⟨u1,_|⟨u2,_|⟨u3,_|⟨u4,t⟩⟩⟩⟩<;>rw[hcs] at hl<;>simp at hl
   exact⟨u1,u2,u3,rfl⟩
  rw[e2] at h3;have e3:u1=.pointer (some ⟨bb,0,none⟩):=apU (w:=w6) (id:=2) (off:=0) h3.1 n2;have e4:u2=.pointer (some ⟨tb,0,none⟩):=apU (w:=w6) (id:=4) (off:=0) h3.2.1 n4;have e5:u3=.pointer (some ⟨sb,0,none⟩):=apU (w:=w6) (id:=3) (off:=0) h3.2.2.1 n3;rw[h1,e1];congr 1;rw[←Array.toList_inj,e2,e3,e4,e5]
 have hseq:=aZx m1 m2 m3 m4 hlens hbb (a2l hb2) htb hsb hmv;have h2:=apU p2 n1;have hsz:78≤a6.tmps.size:=Nat.le_trans h78' s6.len
 have hkeep:∀b,b<w.heap.size→w6.heap[b]?=w.heap[b]?∧¬aSS ν (ckH x s 0) b:=fun b hb=>t6.keep b hb fun⟨_,h,_⟩=>by cases h
 have hdef:a6.defers=[]:=s6.defers;show ckRF.wpIn Fence.wide 2 Tryz.prog (Exit.then (aJp.wpIn Fence.wide 2 Tryz.prog (bodyPostM Fence.wide 2 Tryz.prog Tryz.f66 (asg G y w))) (bodyPostM Fence.wide 2 Tryz.prog Tryz.f66 (asg G y w))) a6 w6;rw[a2d];refine wpIn_block (a1C hseq hg h2 hsz hrb (fun D W hall hbel hDl hDo=>?_) (fun D W z hz hput hDl hDo=>?_))
 ·have hck:ckS x=some y:=by
   have:(l1++(l2++(l3++l4))).find? (fun e=>e != 0)=none:=List.find?_eq_none.2 fun z hz=>by rw[hall z hz]; simp
   rw[this] at hLy;exact hLy
  exact a2c (s:=s) hck s6.heap hbel hDl hDo (by show aTG D::a6.defers=_; rw[hdef]) hsz p1 p2 hkeep t6.size t6.os t6.tape t6.output
 ·have hzy:z=y:=by
   rw[hz] at hLy;simpa using hLy
  subst hzy;obtain⟨te5,hcell⟩:=hput.cell;have hlb:=Ę hrb;have hlive:aSS ν (ckH x s 0) rb:=⟨1,rfl,by rw[n1]; rfl⟩
  exact aT6 (a:={a6 with defers:=aTG D::a6.defers}) (w:=W) (by show aTG D::a6.defers=_; rw[hdef]) hDo h2 hcell
   (fun b hb=>(hput.block b (by have:=t6.size; omega) (fun e=>(hkeep b hb).2 (e▸hlive))).trans (hkeep b hb).1) (by have:=t6.size; omega) (by have:=t6.size; have:=hput.size; omega) (hput.os.trans t6.os) (hput.tape.trans t6.tape) (hput.output.trans t6.output)
theorem Ŝ:Ò Tryz.prog 66 ŗ:=fun G x y hF w vals hG hAL=>aVx G x y hF w vals hG hAL
end Go.Proofs.ZzM
end
noncomputable section
set_option maxRecDepth 100000
namespace Go.Proofs.ZzM
open Go Go.Am Go.RowKit
abbrev cP:Type:=Val (tyL adX)
abbrev cV:Type:=Val (tyL agC)
abbrev cS (p:cP) (v:cV):St:=ad8 ak7 adX agC p v
abbrev cU (p:cP) (v:cV) (x:Val Ó):St:=ad8 aDU adX aqb p (as2 v x)
theorem a0n (im:List (Int×Bool)) (n:Int):ahD Tryz.prog [.map tI .bool im] 184 (.omp 0) (.int .i64 n) false some=(match (akW (k:=tI) (v:=.bool) n im:Option Bool) with|some y=>some (.bool y)|none=>some (.bool false)):=by kernel_rfl
noncomputable def MapAt (W:World) (mb:Nat) (im:List (Int×Bool)):Prop:=∃(entries:Array MapEntry) (clock:Nat),W.heap[mb]?=some (.map entries clock)∧entries.size=im.length∧∀(i:Nat) (e:Int×Bool),im[i]?=some e→∃m,entries[i]?=some m∧m.key=.int .i64 e.1∧m.val=.bool e.2
noncomputable def aAw (im:List (Int×Bool)) (n:Int):Bool:=((akW (k:=tI) (v:=.bool) n im:Option Bool)).getD false
theorem aZU {W:World} {mb:Nat} {im:List (Int×Bool)} (h:MapAt W mb im) (n:Int):(Instr.lookup 184 (.map (some mb)) (.int .i64 n) false).run Tryz.prog W=.ok (.bool (aAw im n)) W:=by
 letI:ù:=⟨fun _=>False,[],none⟩
 obtain⟨entries,clock,h1,h2,h3⟩:=h
 have H:HR (fun _=>.map (some mb)) [.map tI .bool im] W:=by
  refine⟨fun id=>?_,fun i j b hi hj _ _=>?_,fun b hb=>hb.elim,fun id b _ _ hb=>hb.elim⟩
  ·rcases id with _|id
   ·refine⟨mb,entries,clock,rfl,h1,h2,fun i e he=>?_⟩;obtain⟨m,q1,q2,q3⟩:=h3 i e he;exact⟨m,[.bool e.2],q1,by rw[q2]; rfl,rfl,by rw[q3]; rfl⟩
   ·rw[aI0 _ _ (by simp)]; trivial
  ·have one:∀i,(lkB [Blk.map tI .bool im] i).live=true→i=0:=fun i hi=>by
    rcases i with _|i
    ·rfl
    ·rw[aI0 _ _ (by simp)] at hi; cases hi
   rw[one i hi,one j hj]
 have hom:VR (fun _=>.map (some mb)) [.map tI .bool im] W (.omp 0) (.map (some mb)):=⟨rfl,_,_,_,rfl,rfl⟩
 have hk:ahD Tryz.prog [.map tI .bool im] 184 (.omp 0) (.int .i64 n) false some=some (.bool (aAw im n)):=by
  rw[a0n];unfold aAw
  cases(akW (k:=tI) (v:=.bool) n im:Option Bool)<;>rfl
 obtain⟨u,q1,q2⟩:=aPK H hk hom (ui:=.int .i64 n) rfl;rw[q1];have:u=.bool (aAw im n):=q2;rw[this]
noncomputable def gz (l:List (Val Ó)) (j:Nat):Val Ó:=l[j]?.getD (0,0,0,(0,0),(0,0),0)
theorem aSj {w:World} {av:Nat→Prop} {g:Val Ó} {us:List Value} (h:CR w av Ó g us) :
 us=[.int .i64 g.1,.int .i64 g.2.1,.int .i64 g.2.2.1,.int .i64 g.2.2.2.1.1,.int .i64 g.2.2.2.1.2,.int .i64 g.2.2.2.2.1.1,.int .i64 g.2.2.2.2.1.2,.int .i64 g.2.2.2.2.2]:=by
 obtain⟨a1,r1,rfl,h1,a2,r2,rfl,h2,a3,r3,rfl,h3,a4,r4,rfl,⟨b1,b2,rfl,h4,h5⟩,⟨b3,r5,rfl,⟨b5,b6,rfl,h6,h7⟩,h8⟩⟩:=h;have e1:a1=[.int .i64 g.1]:=h1;have e2:a2=[.int .i64 g.2.1]:=h2;have e3:a3=[.int .i64 g.2.2.1]:=h3;have e4:b1=[.int .i64 g.2.2.2.1.1]:=h4;have e5:b2=[.int .i64 g.2.2.2.1.2]:=h5;have e6:b5=[.int .i64 g.2.2.2.2.1.1]:=h6;have e7:b6=[.int .i64 g.2.2.2.2.1.2]:=h7;have e8:r5=[.int .i64 g.2.2.2.2.2]:=h8;subst e1 e2 e3 e4 e5 e6 e7 e8;rfl
noncomputable def KNd (w1:World) (R:Nat→Prop) (tb:Nat) (im:List (Int×Bool)) (W:World):Prop:=w1.heap.size≤W.heap.size∧(∀b,R b→W.heap[b]?=w1.heap[b]?)∧tb<w1.heap.size∧∃mb,mb<w1.heap.size∧W.cell? ⟨tb,0,none⟩=some (.map (some mb))∧MapAt W mb im
theorem KNd.below {w1 W W':World} {R:Nat→Prop} {tb:Nat} {im:List (Int×Bool)} (hR:∀b,R b→b<w1.heap.size) (h:KNd w1 R tb im W) (hz:W.heap.size≤W'.heap.size) (hb:∀b,b<w1.heap.size→W'.heap[b]?=W.heap[b]?):KNd w1 R tb im W':=by
 obtain⟨h1,h2,h3,mb,h4,h5,en,cl,h6,h7,h8⟩:=h;exact⟨Nat.le_trans h1 hz,fun b hr=>(hb b (hR b hr)).trans (h2 b hr),h3,mb,h4,by rw[World.cell?_of_block (w:=W) (hb tb h3)]; exact h5,en,cl,(hb mb h4).trans h6,h7,h8⟩
theorem KNd.grown {w1 W W':World} {R:Nat→Prop} {tb:Nat} {im:List (Int×Bool)} (hR:∀b,R b→b<w1.heap.size) (h:KNd w1 R tb im W) (hg:W.grownBy W' none):KNd w1 R tb im W' :=
 h.below hR hg.size fun b hb=>hg.block b (Nat.lt_of_lt_of_le hb h.1) (by simp)
theorem aPN {f:AV→Bool} (h0:f .any=true):∀(l:List AV),l.all f=true→∀i,f (lk l i)=true
 |[],_,i=>by cases i<;>exact h0
 |x::l,h,0=>by simp only[List.all_cons,Bool.and_eq_true] at h; exact h.1
 |x::l,h,i+1=>by simp only[List.all_cons,Bool.and_eq_true] at h; exact aPN h0 l h.2 i
theorem aMm {f:Blk→Bool} (h0:f .dead=true):∀(l:List Blk),l.all f=true→∀i,f (lkB l i)=true
 |[],_,i=>by cases i<;>exact h0
 |x::l,h,0=>by simp only[List.all_cons,Bool.and_eq_true] at h; exact h.1
 |x::l,h,i+1=>by simp only[List.all_cons,Bool.and_eq_true] at h; exact aMm h0 l h.2 i
theorem cS_mf (p:cP) (v:cV):(cS p v).h.all mfB=true:=by kernel_rfl
theorem cU_mf (p:cP) (v:cV) (x:Val Ó):(cU p v x).h.all mfB=true:=by kernel_rfl
theorem cU_mft (p:cP) (v:cV) (x:Val Ó):(cU p v x).t.all mfV3=true:=by kernel_rfl
theorem cR_mf (y:Val Å):(ad8 aiM [] aer () (afm y)).h.all mfB=true:=by kernel_rfl
theorem cR_mft (y:Val Å):(ad8 aiM [] aer () (afm y)).t.all mfV3=true:=by kernel_rfl
noncomputable def pin0 (m:Nat):AV→Bool
 |.any=>true
 |.box id _=>Nat.blt id m
 |_=>false
noncomputable def pin3 (m:Nat):AV→Bool
 |.fn _ a b=>a.all (pin0 m)&&b.all (pin0 m)
 |a=>pin0 m a
section
variable [ù] {ν ν':Nat→Value} {h h':List Blk} {w w':World} {m:Nat}
theorem VR0.pin (e:Ev m ν h w ν' h' w') {a:AV} {v:Value} (hp:pin0 m a=true) (hv:VR0 ν h w a v):VR0 ν' h' w' a v:=by
 cases a with
 |any=>trivial
 |box id off =>
  obtain⟨cs,b,hl,h1,h2⟩:=hv;have hlt:id<m:=Nat.le_of_ble_eq_true hp;have hb:=e.blk id hlt;rw[hl] at hb;obtain⟨⟨cs',hl'⟩,he⟩:=hb;exact⟨cs',b,hl',by rw[he]; exact h1,h2⟩
 |_=>cases hp
theorem VR.pin (e:Ev m ν h w ν' h' w') {a:AV} {v:Value} (hp:pin3 m a=true) (hv:VR ν h w a v):VR ν' h' w' a v:=by
 cases a with
 |fn f fa fb =>
  obtain⟨fs,cs,h1,h2,h3⟩:=hv;simp only[pin3,Bool.and_eq_true,List.all_eq_true] at hp;exact⟨fs,cs,h1,h2.mem fun a ha _=>VR0.pin e (hp.1 a ha),h3.mem fun a ha _=>VR0.pin e (hp.2 a ha)⟩
 |any=>trivial
 |box id off=>exact VR0.pin (a:=.box id off) e (show pin0 m (.box id off)=true from hp) hv
 |_=>cases hp
end
theorem a1n (p:cP) (v:cV):(cS p v).t.all (pin3 9)=true:=by kernel_rfl
theorem cS_len (p:cP) (v:cV):(cS p v).h.length=10:=by kernel_rfl
theorem cU_len (p:cP) (v:cV) (x:Val Ó):(cU p v x).h.length=11:=by kernel_rfl
theorem cS_t (p:cP) (v:cV) (z:List (Val Ó)):(cS p (ġ v z)).t=(cS p v).t:=by kernel_rfl
theorem cS_5 (p:cP) (v:cV):∃a b us lo co ko,lkB (cS p v).h 5=.cells [.int .i64 a,.int .i64 b,.slc Ó (ö v),.slc Ã us,.slc Ō lo,.slc Í co,.slc Ã ko]:=⟨_,_,_,_,_,_,rfl⟩
theorem cS_6 (p:cP) (v:cV):lkB (cS p v).h 6=.cells [.omp 7]:=by kernel_rfl
theorem cS_7 (p:cP) (v:cV):lkB (cS p v).h 7=.map tI .bool (Š v):=by kernel_rfl
theorem cS_59 (p:cP) (v:cV):lk (cS p v).t 59=.fn (.func 186) [] [.box 5 0,.box 6 0]:=by kernel_rfl
noncomputable def aPS:Blk→Bool
 |.map _ _ _=>true
 |_=>false
theorem aSJ (p:cP) (v:cV):(cS p v).h.map aPS=[false,false,false,false,false,false,false,true,true,false]:=by kernel_rfl
theorem a2i (p:cP) (v:cV) (x:Val Ó):(cU p v x).h.map aPS=[false,false,false,false,false,false,false,true,true,false,false]:=by kernel_rfl
theorem ayz:∀(l:List Blk) (i:Nat),aPS (lkB l i)=true→(l.map aPS)[i]?=some true
 |[],i,h=>by cases i<;>cases h
 |x::l,0,h=>by have:aPS x=true:=h; simp[this]
 |x::l,i+1,h=>by simpa using ayz l i h
theorem aTH {l:List Blk} {t:List Bool} (hl:l.map aPS=[false,false,false,false,false,false,false,true,true]++t) (ht:∀b∈t,b=false) {id:Nat} {k u:Ty} {es:List (Val k×Val u)} (h:lkB l id=.map k u es):id=7∨id=8:=by
 have:=ayz l id (by rw[h]; rfl);rw[hl] at this
 rcases id with _|_|_|_|_|_|_|_|_|id<;>simp at this ⊢
 have:=ht _ (List.mem_of_getElem? this);cases this
noncomputable def a1g {ρ:Type}:List (Val Ó)→Option ρ→Option ρ
 |[],x=>x
 |_::_,_=>none
theorem aSv {ρ:Type} {l:List (Val Ó)} {x:Option ρ} {r:ρ} (h:a1g l x=some r):l=[]∧x=some r:=by
 cases l with
 |nil=>exact⟨rfl,h⟩
 |cons=>cases h
noncomputable def cutK (p:cP) (v:cV):Option (Val Å):=a1g (amj v) (Â (aqk (ö v) (Š v)) fun z=>ahd p (ġ v z) some)
theorem aXt {l:List (Val Ó)} {im:List (Int×Bool)} {z:List (Val Ó)} (h:aqk l im=some z):ì l.length=true∧z=(aGg (fun j=>aAw im (gz l j).1) l.length).map (gz l):=by
 unfold aqk at h;simp only[ï] at h
 split at h
 ·rename_i ho;cases h;refine⟨ho,?_⟩
  have key:∀(n:Nat),n≤l.length→(l.take n).filter (fun g=>((akW (k:=tI) (v:=.bool) g.1 im:Option Bool)).getD false)=(aGg (fun j=>aAw im (gz l j).1) n).map (gz l):=by
   intro n
   induction n with
   |zero=>intro _; rfl
   |succ n ih =>
    intro hn
    have hg:l[n]?=some (gz l n):=by simp[gz,List.getElem?_eq_getElem (show n<l.length from hn)]
    rw[List.take_succ,List.filter_append,ih (by omega),atN,hg];have:((akW (k:=tI) (v:=.bool) (gz l n).1 im:Option Bool)).getD false=aAw im (gz l n).1:=rfl;simp only[Option.toList_some,List.filter_cons,List.filter_nil,this]
    split<;>simp
  have:=key l.length (Nat.le_refl _)
  rwa [List.take_length] at this
 ·cases h
theorem aZJ {n m:Nat} (h:ì n=true) (hm:m≤n):ì m=true:=by
 unfold ì at h ⊢;simp only[Bool.and_eq_true,decide_eq_true_eq] at h ⊢
 first|omega|(constructor<;>omega)
theorem aUq {G:Nat→Prop} {D D':List Deferred} {Q Q':Option Nat} {ν:Nat→Value} {h:List Blk} {w:World} {a:AV} {v:Value} (hv:@VR ⟨G,D,Q⟩ ν h w a v):@VR ⟨G,D',Q'⟩ ν h w a v:=hv
theorem aqa [ù] {ν2 ν':Nat→Value} {h1 h':List Blk} {w1 W:World} (H1:HR ν2 h1 w1) (ev:Ev 9 ν2 h1 w1 ν' h' W) (hl1:∀id,id=7∨id=8→∃k u es,lkB h1 id=.map k u es)
 {t:List Bool} (hl:h'.map aPS=[false,false,false,false,false,false,false,true,true]++t) (ht:∀b∈t,b=false):aYZ w1.heap.size ν' h':=by
 intro id k u es b hm hν
 have h9:id<9:=by rcases aTH hl ht hm with rfl|rfl<;>omega
 obtain⟨k1,u1,es1,h7⟩:=hl1 id (aTH hl ht hm);have hb:=ev.blk id h9;rw[h7] at hb;obtain⟨_,he⟩:=hb;have hB:=H1.blk id;rw[h7] at hB;obtain⟨b0,_,_,q1,q2,_⟩:=hB;rw[he,q1] at hν;cases hν;exact Ę q2
theorem a0K (p:cP) (v:cV):∀id,id=7∨id=8→∃k u es,lkB (cS p v).h id=.map k u es:=by
 rintro id (rfl|rfl)
 ·exact⟨_,_,_,rfl⟩
 ·exact⟨_,_,_,rfl⟩
noncomputable def CI (G:Nat→Prop) (p:cP) (v:cV) (ν2:Nat→Value) (w1:World) (pre:List Nat) (W:World):Prop :=
 ∃ν',@HR ⟨G,[],none⟩ ν' (cS p (ġ v (pre.map (gz (ö v))))).h W∧Ev 9 ν2 (cS p v).h w1 ν' (cS p (ġ v (pre.map (gz (ö v))))).h W
theorem CI.own {G:Nat→Prop} {p:cP} {v:cV} {ν2:Nat→Value} {w1:World} (H1:@HR ⟨G,[],none⟩ ν2 (cS p v).h w1):OwnFrom w1.heap.size (CI G p v ν2 w1):=by
 intro pre W W' row hI hg hr
 letI:ù:=⟨G,[],none⟩
 obtain⟨ν',H,ev⟩:=hI;have hml:=aqa H1 ev (a0K p v) (aSJ _ _) (t:=[false]) (by simp);refine⟨ν',H.ckeep (aFJ hg hr) (fun id k u es b hl hν=>?_) (aMm rfl _ (cS_mf _ _)),ev.own hg fun r e=>(hr r e).1⟩;have hb:=hml id k u es b hl hν
 exact hg.block b (Nat.lt_of_lt_of_le hb ev.size) fun e=>by have:=(hr b e.symm).1; omega
theorem CI.nd {G:Nat→Prop} {p:cP} {v:cV} {ν2:Nat→Value} {w1 W:World} {pre:List Nat} {R:Nat→Prop} {tb:Nat} (H1:@HR ⟨G,[],none⟩ ν2 (cS p v).h w1) (hR:∀b,R b→b<w1.heap.size∧¬aSS ν2 (cS p v).h b) (htb:ν2 6=.pointer (some ⟨tb,0,none⟩)) (hI:CI G p v ν2 w1 pre W):KNd w1 R tb (Š v) W:=by
 letI:ù:=⟨G,[],none⟩
 obtain⟨ν',H,ev⟩:=hI;have h6:=H1.blk 6;rw[cS_6] at h6;obtain⟨b6,_,_,q1,q2,_⟩:=h6;rw[htb] at q1;cases q1;have h7:=H1.blk 7;rw[cS_7] at h7;obtain⟨mb,_,_,r1,r2,_⟩:=h7;have e6:=ev.blk 6 (by omega);rw[cS_6] at e6;have e7:=ev.blk 7 (by omega);rw[cS_7] at e7;have k6:=H.blk 6;rw[show lkB (cS p (ġ v (pre.map (gz (ö v))))).h 6=.cells [.omp 7] from cS_6 _ _] at k6;obtain⟨b,c,e,s1,s2,s3⟩:=k6;rw[e6.2,htb] at s1;cases s1;obtain⟨mv,s4,s5⟩:=s3.one;obtain⟨_,k,u,es,_,s6⟩:=s5.1;have k7:=H.blk 7;rw[show lkB (cS p (ġ v (pre.map (gz (ö v))))).h 7=.map tI .bool (Š v) from cS_7 _ _] at k7;obtain⟨mb',en,cl,t1,t2,t3,t4⟩:=k7;have e1:mv=.map (some mb'):=s6.trans t1
 have e2:mb'=mb:=by rw[e7.2,r1] at t1; cases t1; rfl
 subst e2;refine⟨ev.size,fun b hb=>(ev.keep b (hR b hb).1 (hR b hb).2).1,Ę q2,mb',Ę r2,?_,en,cl,t2,t3,fun i x hx=>?_⟩
 ·have hc:c=#[mv]:=by rw[←Array.toList_inj,s4]
  rw[hc,e1] at s2;simp[World.cell?,s2]
 ·obtain⟨m,us,u1,u2,u3,u4⟩:=t4 i x hx;have v1:[m.key]=[.int .i64 x.1]:=u2;have v2:us=[.bool x.2]:=u3;refine⟨m,u1,by simpa using v1,?_⟩;rw[u4,v2];rfl
theorem aVs:drawn (Am.rfA (Am.rfC 7 Ģ))=false:=by kernel_rfl
theorem aVr:drawn (Am.rfB (Am.rfC 7 Ģ))=false:=by kernel_rfl
theorem aVq:ó 4 (Am.rfA (Am.rfC 7 Ģ))=[]:=by kernel_rfl
theorem aVp:ó 4 (Am.rfB (Am.rfC 7 Ģ))=[]:=by kernel_rfl
theorem aMI [ù] (ρ:Type):af7 (Ğ ρ) 2 (aeS (Ğ ρ) 10):=by
 have hlib:aBz (Ğ ρ):=aE7 aDT (Ğ ρ) rfl rfl rfl rfl rfl (adm rfl);have hdraw:∀L call,af7 (Ğ ρ) L call→agn (Ğ ρ) L call:=atx hmix;have hcall:=agJ (.inr fun _=>rfl) hlib hdraw (fun n hn hE path f fn c hp hf hc=>awg (tab:=ajH ρ) rfl azF hn hE (hdraw _ _ hE) hp hf hc) 10 (Nat.le_refl _);exact⟨.inr (aja 9),hcall,hlib.plain,hlib.clone,hlib.joins⟩
theorem aX1 {G:Nat→Prop} {p:cP} {v:cV} {ν2:Nat→Value} {a:Act} {w1:World} (H1:@Sim ⟨G,[],none⟩ ν2 (cS p v) a w1) (l:Nat) (pre:List Nat) (x:Nat) (W:World) (hl:w1.heap.size≤l) (hI:CI G p v ν2 w1 pre W) (hok:ì (pre.length+1)=true) {u:Value} (hu:∀[ù] (ν:Nat→Value) (h:List Blk) (w:World),VR ν h w (.agg (flat Ó (gz (ö v) x))) u) :
 (Am.rfA (Am.rfC 7 Ģ)).wpIn (Fence.wide.inRound l) 0 Tryz.prog (Exit.then (fun a' Wa=>KeepsFrom w1.heap.size W Wa∧∀r',(∃r,Wa.heap[l]?=some (.loop r)) →
  (Am.rfB (Am.rfC 7 Ģ)).wpIn (Fence.wide.inRound l) 0 Tryz.prog (Exit.then (fun _ W3=>KeepsFrom w1.heap.size (Wa.putObj l (.loop r')) W3∧CI G p v ν2 w1 (pre++[x]) W3) (fun _ _ _=>False)) a' (Wa.putObj l (.loop r'))) (fun _ _ _=>False)) {tmps:=a.tmps.setIfInBounds 60 u,defers:=[]} W:=by
 letI:ù:=⟨G,[],some l⟩
 have H1h:HR ν2 (cS p v).h w1:=HR_ghost (@Sim.heap ⟨G,[],none⟩ _ _ _ _ H1);obtain⟨ν',H0,ev⟩:=hI;have H:HR ν' (cS p (ġ v (pre.map (gz (ö v))))).h W:=HR_ghost H0;obtain⟨v',hv'⟩:∃v',v'=ġ v (pre.map (gz (ö v))):=⟨_,rfl⟩;rw[←hv'] at H ev
 have ht:(cS p v').t=(cS p v).t:=by rw[hv']; exact cS_t _ _ _
 have hml:=aqa H1h ev (a0K p v) (aSJ _ _) (t:=[false]) (by simp)
 have simA:Sim ν' (cS p v') {tmps:=a.tmps,defers:=[]} W:=by
  refine⟨rfl,?_,fun i=>?_,H⟩
  ·rw[ht]; show _≤a.tmps.size; exact @Sim.len ⟨G,[],none⟩ _ _ _ _ H1
  ·rw[ht]; exact VR.pin ev (aPN rfl _ (a1n p v) i) (aUq (@Sim.tmps ⟨G,[],none⟩ _ _ _ _ H1 i))
 have sim0:=simA.put (Ev.refl _ _ _ _) H (some 60) (hu ν' _ W);have hEnv:=aMI (cP×Val (tyL aqb));have hgo:=ayG hEnv (path:=[]) rfl (Am.rfA (Am.rfC 7 Ģ)) 4 _ _ ν' _ W (fun h=>by rw[aVs] at h; cases h) (fun z hz=>by rw[aVq] at hz; cases hz) (aU0 p v' (gz (ö v) x) fun p u=>some (p,u)) sim0 (Nat.le_trans (show 9≤10 by decide) (Nat.le_of_eq (cS_len p v').symm));refine wpIn_mono hgo fun e a' Wa ha=>?_;obtain⟨νa,Sa,sA,evA,lenA,ddA,kA⟩:=ha;obtain⟨rfl,p',u',hm',hk'⟩:=aur kA;cases hk';obtain⟨νb,sB,evB,lB,dB⟩:=auo _ _ _ _ _ _ _ νa a' Wa hm' sA;have evAB:Ev 9 ν' (cS p v').h W νb (cU p v' (gz (ö v) x)).h Wa:=evA.trans evB (Nat.le_refl _);have evT:=ev.trans evAB (Nat.le_refl _);have hmu:=aqa H1h evT (a0K p v) (a2i _ _ _) (t:=[false,false]) (by simp);refine⟨aAd H hml evAB,fun r' ⟨r,hr⟩=>?_⟩;have hlt:l<Wa.heap.size:=Ę hr
 have K:Χ Wa (Wa.putObj l (.loop r')):=⟨by simp[World.putObj],fun b c e q hb=>by
  rw[World.putObj_heap_other (fun e'=>by subst e'; rw[hr] at hb; cases hb)]; exact hb⟩
 have sC:Sim νb (cU p v' (gz (ö v) x)) a' (Wa.putObj l (.loop r')):=sB.ckeep K (fun id k q es b hb hν=>World.putObj_heap_other (by have:=hmu id k q es b hb hν; omega)) (aMm rfl _ (cU_mf _ _ _)) (aPN rfl _ (cU_mft _ _ _))
 have evO:Ev 9 ν2 (cS p v).h w1 νb (cU p v' (gz (ö v) x)).h (Wa.putObj l (.loop r')):=evT.own (grownBy_putObj' Wa l _) fun q e=>by cases e; exact hl
 have hEnv2:=aMI (cP×cV);have law:=aUZ p v' (gz (ö v) x) fun p v=>some (p,v)
 have hrow:amj v'=pre.map (gz (ö v)):=by rw[hv']; rfl
 rw[hrow] at law;simp only[List.length_map,List.length_cons,List.length_nil,Nat.zero_add,hok,ï] at law;have hgo2:=ayG hEnv2 (path:=[]) rfl (Am.rfB (Am.rfC 7 Ģ)) 4 _ _ νb _ _ (fun h=>by rw[aVr] at h; cases h) (fun z hz=>by rw[aVp] at hz; cases hz) law sC (Nat.le_trans (show 9≤11 by decide) (Nat.le_of_eq (cU_len p v' (gz (ö v) x)).symm));refine wpIn_mono hgo2 fun e a3 W3 hb=>?_;obtain⟨νc,Sc,sD,evC,lenC,ddC,kC⟩:=hb;obtain⟨rfl,p',u',hm',hk'⟩:=aur kC;cases hk';obtain⟨νd,sE,evD,lD,dD⟩:=auo _ _ _ _ _ _ _ νc a3 W3 hm' sD;have evCD:=evC.trans evD (Nat.le_refl _);refine⟨aAd sC.heap hmu evCD,νd,?_⟩
 have hput:ġ v' (pre.map (gz (ö v))++[gz (ö v) x])=ġ v ((pre++[x]).map (gz (ö v))):=by
  rw[hv',List.map_append]; rfl
 rw[←hput];exact⟨HR_ghost sE.heap,evO.trans evCD (Nat.le_refl _)⟩
noncomputable def aSU (G:Nat→Prop) (y:Val Å) (w:World) (e:Ending) (w':World):Prop :=
 ∃u,e=.returned u∧RR w' G [Å] y u∧(∀b,b<w.heap.size→w'.heap[b]?=w.heap[b]?)∧w.heap.size≤w'.heap.size∧w'.os=w.os∧w'.tape=w.tape∧w'.output=w.output
noncomputable def aSw (u:Val (tyL aer)):Val Å:=((u.1,u.2.1),u.2.2.1,u.2.2.2.1,u.2.2.2.2.1,u.2.2.2.2.2.1,u.2.2.2.2.2.2)
theorem a0p (p:cP) (v:cV):ahd p v (fun y=>(fun u=>some (aSw u)) (afm y))=ahd p v some:=by kernel_rfl
theorem aX0 (u:Val (tyL aer)):afm (aSw u)=u:=by kernel_rfl
theorem a2j (y:Val Å):(ad8 aiM [] aer () (afm y)).h.map aPS=[false]:=by kernel_rfl
theorem a0m {G:Nat→Prop} {p:cP} {v:cV} {y:Val Å} {ν:Nat→Value} {a:Act} {w0 W:World} {D:Nat} (H:@Sim ⟨G,[],none⟩ ν (cS p v) a W) (hB:ahd p v some=some y) (hD:W.heap[D]?=some (.deferred (some []))) (hnl:¬aSS ν (cS p v).h D)
 (hev:Ev 0 (fun _=>undef) [] w0 ν (cS p v).h W) (hDl:w0.heap.size≤D) :
 (Am.postC 7 Ģ).wpIn Fence.wide 2 Tryz.prog (bodyPostM Fence.wide 2 Tryz.prog Tryz.f62 (aSU G y w0)) {a with defers:=aTG D::a.defers} W:=by
 have hdf:a.defers=[]:=@Sim.defers ⟨G,[],none⟩ _ _ _ _ H
 letI:ù:=⟨G,[aTG D],none⟩
 have sim:Sim ν (cS p v) {a with defers:=aTG D::a.defers} W:=⟨by show aTG D::a.defers=[aTG D]; rw[hdf],(show _≤a.tmps.size from @Sim.len ⟨G,[],none⟩ _ _ _ _ H),fun i=>aUq (@Sim.tmps ⟨G,[],none⟩ _ _ _ _ H i),HR_ghost (@Sim.heap ⟨G,[],none⟩ _ _ _ _ H)⟩;have hEnv:=aMI (Val Å);have hdraw:∀L call,af7 (Ğ (Val Å)) L call→agn (Ğ (Val Å)) L call:=atx hmix;have law:=aOZ p v fun u=>some (aSw u);rw[a0p,hB] at law
 have hL:∀z∈ó 0 (Am.postC 7 Ģ),ahO (Ğ (Val Å)) [] 62 z.1 z.2:=fun z hz =>
  awg (E:=Ğ (Val Å)) (tab:=ajH _) rfl azF (n:=10) (Nat.le_refl _) hEnv (hdraw _ _ hEnv) rfl Tryz.func62 ajI z (aTK 7 Ģ 0 avf hz)
 have hgo:=afX hEnv (hdraw _ _ hEnv) rfl (Am.postC 7 Ģ) 0 _ _ ν _ W hL law sim (Nat.zero_le _);rw[awu rfl] at hgo;refine wpIn_wide.2 (wpIn_wide.1 (wpIn_mono hgo fun e a' W' ha=>?_));obtain⟨νa,Sa,sA,evA,_,_,kA⟩:=ha;obtain⟨rfl,u,hm,hk⟩:=aW3 kA;cases hk;obtain⟨νb,sB,evB,_,_⟩:=auo _ _ _ _ _ _ _ νa a' W' hm sA
 have hu:ad8 aiM [] aer () u=ad8 aiM [] aer () (afm (aSw u)):=by rw[aX0]
 rw[hu] at sB evB;have evT:=(evA.trans evB (Nat.le_refl _));have hD':W'.heap[D]?=some (.deferred (some [])):=(evT.keep D (Ę hD) hnl).1.trans hD;have hd':a'.defers=[aTG D]:=sB.defers;show LeavesInM _ _ _ _ _ _ a'.defers _ _;rw[hd'];refine⟨by simp,.inl ⟨D,_,rfl,run_takeDeferred hD',?_⟩⟩;have hlt:=Ę hD'
 have K:Χ W' (W'.putObj D (.deferred none)):=⟨by simp[World.putObj],fun b c e q hb=>by
  rw[World.putObj_heap_other (fun e'=>by subst e'; rw[hD'] at hb; cases hb)]; exact hb⟩
 have sC:=sB.ckeep K (fun id k q es b hb hν=>by
  have:=ayz _ id (by rw[hb]; rfl);rw[a2j] at this
  rcases id with _|id<;>simp at this) (aMm rfl _ (cR_mf _)) (aPN rfl _ (cR_mft _))
 obtain⟨uu,q1,q2⟩:=axd sC (aRH (aSw u));have hall:=hev.trans evT (Nat.le_refl _);refine⟨uu,q1,uu,rfl,aJP sC.heap [Å] q2 (show Č [Å] _ (enc Å (aSw u))=some (aSw u) from rfl),fun b hb=>?_,?_,hall.os,hall.tape,hall.output⟩
 ·rw[World.putObj_heap_other (by omega)];exact(hall.keep b hb fun⟨_,h,_⟩=>by cases h).1
 ·have:=hall.size;simpa[World.putObj] using this
theorem a0q (x:Val (.pair Å (.pair (.slice Ã) (.slice Ã)))):avg x.1 x.2.1 x.2.2 cutK=aiB.F x:=by kernel_rfl
noncomputable def encG (g:Val Ó):Value:=.agg #[.int .i64 g.1,.int .i64 g.2.1,.int .i64 g.2.2.1,.int .i64 g.2.2.2.1.1,.int .i64 g.2.2.2.1.2,.int .i64 g.2.2.2.2.1.1,.int .i64 g.2.2.2.2.1.2,.int .i64 g.2.2.2.2.2]
theorem a13 [ù] (g:Val Ó) (ν:Nat→Value) (h:List Blk) (w:World):VR ν h w (.agg (flat Ó g)) (encG g) :=
 ⟨_,rfl,⟨rfl,rfl⟩,⟨rfl,rfl⟩,⟨rfl,rfl⟩,⟨rfl,rfl⟩,⟨rfl,rfl⟩,⟨rfl,rfl⟩,⟨rfl,rfl⟩,⟨rfl,rfl⟩,trivial⟩
theorem a0o (G:Nat→Prop) (x:Val (tyL aiB.ts)) (y:Val Å) (hF:aiB.F x=some y) (w:World) (vals:List Value) (hG:∀b,G b→b<w.heap.size) (hAL:AL w G aiB.ts x vals) :
 (∃fn c,Tryz.prog.funcs[62]?=some fn∧fn.body=some c)∧CallsIn Fence.wide 0 Tryz.prog 62 vals.toArray w (aSU G y w):=by
 letI:ù:=⟨G,[],none⟩
 have hlib:aBz (Ÿ (Val Å)):=aE7 aDT _ rfl rfl rfl rfl rfl (adm rfl);have hdraw:∀L call,af7 (Ÿ (Val Å)) L call→agn (Ÿ (Val Å)) L call:=atx hmix;have hloops:aSR (Ÿ (Val Å)):=fun n hn hE hD path f fn c hp hf hc=>awg (tab:=as1 _) rfl aRJ hn hE hD hp hf hc;have hcall:=agJ (.inl ⟨rfl,rfl⟩) hlib hdraw (fun n hn hE=>hloops n hn hE (hdraw _ _ hE)) 10 (Nat.le_refl _);have hEnv:af7 (Ÿ (Val Å)) 2 (aeS (Ÿ (Val Å)) 10):=⟨.inr (aja 9),hcall,hlib.plain,hlib.clone,hlib.joins⟩;have H:HR (fun _=>undef) [] w:=⟨fun _=>trivial,fun _ _ _ h=>(by cases h),hG,fun _ _ h=>(by cases h)⟩;have hav:∀b,Av (fun _=>undef) [] b→G b:=fun b hb=>hb.elim (fun⟨_,h,_⟩=>by cases h) id;have hargs:ĉ (VR (fun _=>undef) [] w) (Ć aiB.ts x) vals:=AL.VR (hAL.mono hav);refine⟨⟨Tryz.f62,_,Tryz.func62,ajI⟩,?_⟩;have hlen:vals.length=3:=hargs.length.symm;refine callsIn_wide.2 (callsIn_wide.1 (callsIn_of_wp_marks (n:=2) Tryz.func62 ajI trivial ?_ (R:=aSU G y w)))
 have hS:Sim (fun _=>undef) {t:=Ć aiB.ts x++List.replicate 127 .any,h:=[]} {tmps:=vals.toArray++Array.replicate (Tryz.f62.ntmps-vals.toArray.size) undef,defers:=[]} w:=by
  refine⟨rfl,?_,fun i=>?_,H⟩
  ·have:Tryz.f62.ntmps=130:=by kernel_rfl
   have hl2:(Ć aiB.ts x).length=3:=rfl;simp[this,hlen,hl2]
  ·simp only[aE5];rcases Nat.lt_or_ge i (Ć aiB.ts x).length with hi|hi
   ·have:=ĉ.lk (R:=VR (fun _=>undef) [] w) (fun _=>trivial) i hargs
    have hv:i<vals.length:=by rw[←hargs.length]; exact hi
    have h2:(vals.toArray++Array.replicate (Tryz.f62.ntmps-vals.toArray.size) undef).getD i undef=vals.getD i undef:=by
     simp[Array.getD_eq_getD_getElem?,Array.getElem?_append,hv]
    rw[h2]; exact this
   ·rw[aXl _ _ hi]; trivial
 have law:=(aRI x cutK).trans ((a0q x).trans hF);refine peelN rfl hEnv (hdraw _ _ hEnv) rfl (path:=[]) rfl (fun e S hne h=>hne (aur h).1) 7 Ģ _ _ _ _ avf (fun z hz=>hloops 10 (Nat.le_refl _) hEnv (hdraw _ _ hEnv) [] 62 Tryz.f62 Ģ rfl Tryz.func62 ajI z hz) law hS (fun ν1 S1 a1 w1 s1 e1 k1=>?_);obtain⟨_,p,v,hm,hk⟩:=aur k1;obtain⟨hrow,hk⟩:=aSv hk
 cases hz:aqk (ö v) (Š v) with
 |none=>rw[hz] at hk; cases hk
 |some z =>
 rw[hz] at hk;have hB:ahd p (ġ v z) some=some y:=hk;obtain⟨hzl,hzs⟩:=aXt hz;obtain⟨ν2,s2,e2,_,_⟩:=auo _ _ _ _ _ _ _ ν1 a1 w1 hm s1;have evw:=e1.trans e2 (Nat.le_refl _)
 have hv0:ġ v []=v:=by rw[←hrow]; rfl
 have s2':Sim ν2 (cS p v) a1 w1:=s2
 -- the blocks
 obtain⟨fa,fb,us,lo,co,ko,h5⟩:=cS_5 p v;have hB5:=s2'.heap.blk 5;rw[h5] at hB5;obtain⟨bb,cb,te,n5,hbb,hc5⟩:=hB5;have hB6:=s2'.heap.blk 6;rw[cS_6] at hB6;obtain⟨tb,ct,tt,n6,htb,hc6⟩:=hB6;have hl5:=hc5.length
 obtain⟨u1,u2,u3,u4,u5,u6,u7,hcb⟩:∃u1 u2 u3 u4 u5 u6 u7,cb.toList=[u1,u2,u3,u4,u5,u6,u7]:=by
  rcases hcs:cb.toList with _|⟨u1,_|⟨u2,_|⟨u3,_|⟨u4,_|⟨u5,_|⟨u6,_|⟨u7,_|⟨u8,t⟩⟩⟩⟩⟩⟩⟩⟩<;>rw[hcs] at hl5<;>simp at hl5
  exact⟨u1,u2,u3,u4,u5,u6,u7,rfl⟩
 rw[hcb] at hc5;obtain⟨_,_,hc3,_⟩:=hc5;have hg3:CR w1 (Av ν2 (cS p v).h) (.slice Ó) (ö v) [u3]:=hc3.1;obtain⟨base,cap,eu3,hcap,hgl⟩:=hg3
 have eu3:u3=.slice base (ö v).length cap:=by simpa using eu3
 obtain⟨gb,go,hgb⟩:∃gb go,0<(ö v).length→base=some ⟨gb,go,none⟩∧¬Av ν2 (cS p v).h gb∧gb<w1.heap.size∧∀(i:Nat) (g:Val Ó),(ö v)[i]?=some g→∃us,CR w1 (Av ν2 (cS p v).h) Ó g us∧ŋ w1 gb (go+i*8) us:=by
  rcases hgl with hgl|⟨gb,go,q1,q2,q3,q4⟩
  ·exact⟨0,0,fun h=>by rw[show(ö v)=[] from hgl] at h; simp at h⟩
  ·exact⟨gb,go,fun _=>⟨q1,q2,q3,q4⟩⟩
 obtain⟨gl,hgle⟩:∃gl,gl=ö v:=⟨_,rfl⟩;rw[←hgle] at hgb eu3
 have hR:∀b,(0<gl.length∧b=gb)→b<w1.heap.size∧¬aSS ν2 (cS p v).h b:=fun b ⟨h,e⟩=>by subst e; obtain⟨_,q2,q3,_⟩:=hgb h; exact⟨q3,fun hl=>q2 (.inl hl)⟩
 have hnd:∀pre W,CI G p v ν2 w1 pre W→KNd w1 (fun b=>0<gl.length∧b=gb) tb (Š v) W:=fun pre W hI=>hI.nd s2'.heap hR n6
 have hI0:CI G p v ν2 w1 [] w1:=by
  refine⟨ν2,?_,?_⟩
  ·rw[show ġ v (([]:List Nat).map (gz (ö v)))=v from hv0]; exact s2'.heap
  ·rw[show ġ v (([]:List Nat).map (gz (ö v)))=v from hv0]; exact Ev.refl _ _ _ _
 have hp59:=s2'.tmps 59;rw[cS_59] at hp59
 have hg:a1.tmps.getD 59 undef=.func (.func 186) #[] #[.pointer (some ⟨bb,0,none⟩),.pointer (some ⟨tb,0,none⟩)]:=by
  obtain⟨fs,cs,h1,h2,h3⟩:=hp59
  have e1:fs=#[]:=by rw[←Array.toList_inj]; exact h2.nil_left
  have hl:=h3.length
  obtain⟨v1,v2,e2⟩:∃v1 v2,cs.toList=[v1,v2]:=by
   rcases hcs:cs.toList with _|⟨v1,_|⟨v2,_|⟨v3,t⟩⟩⟩<;>rw[hcs] at hl<;>simp at hl
   exact⟨v1,v2,rfl⟩
  rw[e2] at h3;have e3:v1=.pointer (some ⟨bb,0,none⟩):=apU (w:=w1) (id:=5) (off:=0) h3.1 n5;have e4:v2=.pointer (some ⟨tb,0,none⟩):=apU (w:=w1) (id:=6) (off:=0) h3.2.1 n6;rw[h1,e1];congr 1;rw[←Array.toList_inj,e2,e3,e4]
 have hcbe:cb=#[u1,u2,.slice base gl.length cap,u4,u5,u6,u7]:=by rw[←Array.toList_inj,hcb,eu3]
 have hseq:SeqStopsK Fence.wide 1 Tryz.prog 186 #[.pointer (some ⟨bb,0,none⟩),.pointer (some ⟨tb,0,none⟩)] (fun j:Nat=>#[encG (gz gl j)]) (fun A B=>KNd w1 (fun b=>0<gl.length∧b=gb) tb (Š v) A→KNd w1 (fun b=>0<gl.length∧b=gb) tb (Š v) B)
  (fun xs=>xs=aGg (fun j=>aAw (Š v) (gz gl j).1) gl.length) (fun _=>True) (aGg (fun j=>aAw (Š v) (gz gl j).1) gl.length).length w1:=by
  intro l J Jx W hbel hJ hJx hY h0
  refine a1U te 1 (by omega) l bb tb u1 u2 u4 u5 u6 u7 gb go gl.length cap base (fun h=>(hgb h).1) (fun j=>(gz gl j).1) (fun j=>(gz gl j).2.1) (fun j=>(gz gl j).2.2.1) (fun j=>(gz gl j).2.2.2.1.1) (fun j=>(gz gl j).2.2.2.1.2) (fun j=>(gz gl j).2.2.2.2.1.1) (fun j=>(gz gl j).2.2.2.2.1.2) (fun j=>(gz gl j).2.2.2.2.2)
   (fun j=>aAw (Š v) (gz gl j).1) ?len (KNd w1 (fun b=>0<gl.length∧b=gb) tb (Š v)) W ((hbel.block bb (Ę hbb)).trans (by rw[hbb,hcbe])) ?cells ?maps (fun W1 W2 h hg=>h.grown (fun b hb=>(hR b hb).1) hg) ((hnd [] w1 hI0).below (fun b hb=>(hR b hb).1) hbel.size hbel.block)
   J Jx (fun pre W1 W2 hj hg=>hJ pre W1 W2 none hj hg (fun r e=>by cases e)) (fun pre W1 W2 hj hg=>hJx pre W1 W2 none hj hg (fun r e=>by cases e)) (fun pre j W1 hj hl=>hY pre j W1 hj hl) h0
  case len =>
   have:=hzl;rw[←hgle] at this;simp only[ì,decide_eq_true_eq] at this;omega
  case cells =>
   intro W' hW j hj;obtain⟨q1,q2,q3,q4⟩:=hgb (by omega);obtain⟨vs,r1,r2⟩:=q4 j (gz gl j) (by simp[gz,List.getElem?_eq_getElem hj]);have r2:=r2.keep (w':=W') (hW.2.1 gb ⟨by omega,rfl⟩);rw[aSj r1] at r2;refine⟨?_,?_,?_,?_,?_,?_,?_,?_⟩
   ·simpa using r2 0 _ rfl
   ·simpa[Nat.add_assoc] using r2 1 _ rfl
   ·simpa[Nat.add_assoc] using r2 2 _ rfl
   ·simpa[Nat.add_assoc] using r2 3 _ rfl
   ·simpa[Nat.add_assoc] using r2 4 _ rfl
   ·simpa[Nat.add_assoc] using r2 5 _ rfl
   ·simpa[Nat.add_assoc] using r2 6 _ rfl
   ·simpa[Nat.add_assoc] using r2 7 _ rfl
  case maps =>
   intro W' hW;obtain⟨_,_,h3,mb,h4,h5,h6⟩:=id hW;refine⟨.map (some mb),fun W'' hg=>?_⟩;obtain⟨k1,_,k3,mb',k4,k5,k6⟩:=hW.grown (fun b hb=>(hR b hb).1) hg
   have:mb'=mb:=by
    have e:=World.cell?_of_block (a:=⟨tb,0,none⟩) (hg.block tb (Nat.lt_of_lt_of_le h3 hW.1) (by simp));rw[e,h5] at k5;cases k5; rfl
   subst this;exact⟨k5,fun j _=>aZU k6 _⟩
 rw[aUY];refine wpIn_block (aGi (n:=2) rfl (by omega) hg trivial (fun args w=>?eg) hseq (fun h k=>fun q=>k (h q)) (fun W l o o' hl ho _ _ hW=>?kb) (Below.refl _ _) (fun _=>rfl) (CI G p v ν2 w1) (CI.own s2'.heap) hI0 (fun l pre j W hl _ hI hlt=>?round) (fun D xs W hD hxs hI hDo=>?done))
 case eg=>simp[callFunc,Sem.run_bind,run_program,Result.andThen_ok,Tryz.func186,plain 186 _ Tryz.func186,show Tryz.f186.body.isNone=false from rfl]; rfl
 case kb=>exact hW.below (fun b hb=>(hR b hb).1) (by simp[World.putObj]) fun b hb=>World.putObj_heap_other (by omega)
 case round =>
  have hf:∀u:Value,((#[60]:Array Tmp).zip #[u]).foldl (fun t (p,v)=>t.setIfInBounds p v) a1.tmps=a1.tmps.setIfInBounds 60 u:=fun u=>by simp
  show Code.wpIn (Fence.wide.inRound l) 0 Tryz.prog _ _ ⟨((#[60]:Array Tmp).zip #[encG (gz gl j)]).foldl (fun t (p,v)=>t.setIfInBounds p v) a1.tmps,[]⟩ W;rw[hf];refine wpIn_mono (aX1 s2' l pre j W hl hI ?_ (u:=encG (gz gl j)) (by rw[hgle]; exact fun ν h w=>a13 _ ν h w)) fun e a' Wa ha=>?_
  ·refine aZJ hzl ?_;have:=aQ7 (fun j=>aAw (Š v) (gz gl j).1) gl.length;rw[←hgle];omega
  ·cases e with
   |normal =>
    refine⟨ha.1,fun r' hr=>wpIn_mono (ha.2 r' hr) fun e a3 W3 hb=>?_⟩
    cases e with
    |normal=>exact⟨hb.1,fun _=>hnd _ _ hb.2,hb.2⟩
    |_=>exact hb
   |_=>exact ha
 case done =>
  subst hxs;obtain⟨ν',Hd,evd⟩:=hI
  have hzz:(aGg (fun j=>aAw (Š v) (gz gl j).1) gl.length).map (gz (ö v))=z:=by rw[hzs,hgle]
  rw[hzz] at Hd evd;have hml:=aqa s2'.heap evd (a0K p v) (aSJ _ _) (t:=[false]) (by simp);have ht:(cS p (ġ v z)).t=(cS p v).t:=cS_t _ _ _
  have simD:Sim ν' (cS p (ġ v z)) a1 W:=by
   refine⟨s2'.defers,?_,fun i=>?_,Hd⟩
   ·rw[ht]; exact s2'.len
   ·rw[ht]; exact VR.pin evd (aPN rfl _ (a1n p v) i) (s2'.tmps i)
  exact a0m simD hB hDo (aI1 Hd hml hD hDo rfl) (evw.trans (evd.mono (Nat.zero_le _)) (Nat.le_refl _)) (Nat.le_trans evw.size hD)
theorem aYl:Ò Tryz.prog 62 aiB:=fun G x y hF w vals hG hAL=>a0o G x y hF w vals hG hAL
end Go.Proofs.ZzM
end
noncomputable section
set_option maxRecDepth 100000
namespace Go.Proofs.ZzM
open Go Go.Am
theorem aVC:Ò Tryz.prog 30 aIm:=È (azj _) (fun {_}=>ĕ Ç _) hmix (tab:=aq9 _) rfl Ç (Æ fun x=>aGn x some)
theorem a0y:Ò Tryz.prog 10 aTp:=È (axs _) (fun {_}=>ĕ (Á aVC Ç) _) hmix (tab:=azi _) rfl (Á aGm Ç) (Æ fun x=>aOu x some)
theorem aej:Ò Tryz.prog 136 Ŵ:=È (Ť _) (fun {_}=>ĕ Ç _) hmix (tab:=adh _) rfl (Á afD Ç) (Æ fun x=>agu x some)
theorem aeT:Ò Tryz.prog 67 aeH:=È (aE1 _) (fun {_}=>ĕ (Á Ŝ (Á aFV (Á aej Ç))) _) hmix (tab:=awf _) rfl Ç (Æ fun x=>aMi x some)
theorem agL:Ò Tryz.prog 50 ae2:=È (au2 _) (fun {_}=>ĕ (Á aeT Ç) _) hmix (tab:=aoQ _) rfl Ç (Æ fun x=>aDL x some)
theorem apR:Ò Tryz.prog 117 ajl:=È (δ _) (fun {_}=>ĕ Ç _) hmix (tab:=anC _) rfl (Á avy (Á avx (Á avv (Á avw (Á avu Ç))))) (Æ fun x=>aBf x some)
theorem aMR:Ò Tryz.prog 139 aBI:=È (aIP _) (fun {_}=>ĕ Ç _) hmix (tab:=azM _) rfl Ç (Æ fun x=>aPb x some)
theorem apS:Ò Tryz.prog 138 akS:=È (atb _) (fun {_}=>ĕ (Á aMR Ç) _) hmix (tab:=avF _) rfl (Á aEo Ç) (Æ fun x=>aLC x some)
theorem aQv:Ò Tryz.prog 112 aCz:=È (ata _) (fun {_}=>ĕ (Á apR (Á apS (Á aMR Ç))) _) hmix (tab:=avB _) rfl (Á aEd Ç) (Æ fun x=>aLz x some)
theorem aJr:Ò Tryz.prog 120 axk:=È (aee _) (fun {_}=>ĕ Ç _) hmix (tab:=arM _) rfl (Á aBl (Á aBk (Á aBj (Á aBh (Á aBi Ç))))) (Æ fun x=>aHl x some)
theorem aFS:Ò Tryz.prog 114 auf:=È (aEu _) (fun {_}=>ĕ (Á aQv (Á aJr Ç)) _) hmix (tab:=avJ _) rfl Ç (Æ fun x=>aLE x some)
theorem agZ:Ò Tryz.prog 51 aeG:=È (ant _) (fun {_}=>ĕ (Á aFS Ç) _) hmix (tab:=ajE _) rfl Ç (Æ fun x=>au1 x some)
theorem ase:Ò Tryz.prog 64 akh:=È (anr _) (fun {_}=>ĕ (Á agL (Á agZ Ç)) _) hmix (tab:=ajD _) rfl Ç (Æ fun x=>au0 x some)
theorem alO:Ò Tryz.prog 65 agr:=È (aiI _) (fun {_}=>ĕ (Á agL (Á agZ Ç)) _) hmix (tab:=ahc _) rfl Ç (Æ fun x=>aoP x some)
theorem agK:Ò Tryz.prog 48 ael:=È (ae9 _) (fun {_}=>aE7 (Á ase (Á alO Ç)) (ae9 _) rfl rfl rfl rfl rfl (adm rfl)) hmix (tab:=ahb _) rfl Ç (Æ fun x=>aoO x some)
theorem aAo:Ò Tryz.prog 198 aoa:=È (ar4 _) (fun {_}=>ĕ (Á aej Ç) _) hmix (tab:=anK _) rfl Ç (Æ fun x=>aBp x some)
theorem aBv:Ò Tryz.prog 263 anm:=È (ajZ _) (fun {_}=>ĕ Ç _) hmix (tab:=ahI _) rfl Ç (Æ fun x=>aqT x some)
theorem apT:Ò Tryz.prog 266 akT:=È (atc _) (fun {_}=>ĕ (Á awX Ç) _) hmix (tab:=avK _) rfl (Á aEw Ç) (Æ fun x=>aLF x some)
theorem aFT:Ò Tryz.prog 294 asA:=È (avL _) (fun {_}=>ĕ (Á aUb (Á aYs Ç)) _) hmix (tab:=apb _) rfl Ç (Æ fun x=>aEy x some)
theorem a2h:Ò Tryz.prog 283 aWC:=È (aPp _) (fun {_}=>ĕ (Á apT (Á aFT Ç)) _) hmix (tab:=aEF _) rfl Ç (Æ fun x=>aRW x some)
theorem aMT:Ò Tryz.prog 264 aui:=È (ape _) (fun {_}=>ĕ (Á a2h Ç) _) hmix (tab:=alp _) rfl Ç (Æ fun x=>ayo x some)
theorem aSF:Ò Tryz.prog 300 aRj:=È (aPn _) (fun {_}=>ĕ Ç _) hmix (tab:=aEC _) rfl Ç (Æ fun x=>aRU x some)
theorem asf:Ò Tryz.prog 295 aq7:=È (anH _) (fun {_}=>ĕ (Á apT (Á aSF Ç)) _) hmix (tab:=ajY _) rfl Ç (Æ fun x=>avP x some)
theorem aYu:Ò Tryz.prog 298 aWD:=È (aPr _) (fun {_}=>ĕ (Á apT (Á aFT Ç)) _) hmix (tab:=aEH _) rfl Ç (Æ fun x=>aRY x some)
theorem aYt:Ò Tryz.prog 284 aN9:=aNI (ate _) (aPq _) (fun {_}=>aE7 (Á awX (Á asf (Á aYu (Á aSF Ç)))) (ate _) rfl rfl rfl rfl rfl (adm rfl)) (fun {_}=>ĕ (Á awX (Á asf (Á aYu (Á aSF Ç)))) _) rfl hmix (tab:=amz _) rfl Ç (us:=azV) rfl (Á (by kernel_rfl) Ç) (Æ fun x=>aLK x some)
theorem aMS:Ò Tryz.prog 265 auh:=È (apd _) (fun {_}=>ĕ (Á aYt Ç) _) hmix (tab:=alo _) rfl Ç (Æ fun x=>ayn x some)
theorem aJt:Ò Tryz.prog 238 axm:=È (az4 _) (fun {_}=>ĕ (Á aFU (Á awY (Á aBv (Á aMT (Á aMS Ç))))) _) hmix (tab:=ar7 _) rfl Ç (Æ fun x=>aHP x some)
theorem aQy:Ò Tryz.prog 239 aCD:=È (aEY _) (fun {_}=>ĕ Ç _) hmix (tab:=av5 _) rfl Ç (Æ fun x=>aL6 x some)
theorem aQw:Ò Tryz.prog 267 aCA:=È (aEB _) (fun {_}=>ĕ Ç _) hmix (tab:=avM _) rfl Ç (Æ fun x=>aLI x some)
theorem aUc:Ò Tryz.prog 240 aJZ:=È (aIV _) (fun {_}=>ĕ (Á apT (Á aQw Ç)) _) hmix (tab:=azX _) rfl Ç (Æ fun x=>aPt x some)
theorem aQx:Ò Tryz.prog 241 aCB:=È (aEI _) (fun {_}=>ĕ (Á apT (Á aQw Ç)) _) hmix (tab:=avQ _) rfl Ç (Æ fun x=>aLL x some)
theorem aUd:Ò Tryz.prog 203 aJ0:=È (aIW _) (fun {_}=>ĕ (Á aJt (Á aQy (Á aUc (Á aQx Ç)))) _) hmix (tab:=azZ _) rfl Ç (Æ fun x=>aPw x some)
theorem a0H:Ò Tryz.prog 235 aTy:=È (aqg _) (fun {_}=>ĕ (Á agM Ç) _) hmix (tab:=az1 _) rfl (Á aHJ (Á aHI Ç)) (Æ fun x=>aPz x some)
theorem aUe:Ò Tryz.prog 137 aJ1:=È (alq _) (fun {_}=>ĕ (Á aFV (Á aUf (Á aAo (Á awY (Á aUd (Á a0H Ç)))))) _) hmix (tab:=az0 _) rfl (Á aHG (Á aHH (Á aHF Ç))) (Æ fun x=>aPy x some)
theorem ţ:Ò Tryz.prog 68 ş:=È (az8 _) (fun {_}=>ĕ (Á Ŝ (Á aUe Ç)) _) hmix (tab:=ar8 _) rfl Ç (Æ fun x=>aHU x some)
theorem akc:Ò Tryz.prog 110 ajm:=È (ayw _) (fun {_}=>ĕ (Á Ŝ Ç) _) hmix (tab:=aAa _) rfl (Á aHW Ç) (Æ fun x=>aPH x some)
theorem ŕ:Ò Tryz.prog 111 œ:=È (anE _) (fun {_}=>ĕ (Á apR (Á apS Ç)) _) hmix (tab:=ajR _) rfl Ç (Æ fun x=>avD x some)
theorem aAn:Ò Tryz.prog 12 an9:=È (akp _) (fun {_}=>ĕ (Á agK (Á Ŝ (Á aeT (Á ţ (Á akc (Á ŕ Ç)))))) _) hmix (tab:=anw _) rfl (Á avq Ç) (Æ fun x=>aA9 x some)
theorem aFQ:Ò Tryz.prog 14 asy:=È (ams _) (fun {_}=>ĕ (Á agL (Á agZ (Á Ŝ (Á aeT (Á ţ (Á akc (Á ŕ Ç))))))) _) hmix (tab:=ao3 _) rfl (Á ax6 Ç) (Æ fun x=>aD4 x some)
theorem atz:Ò Tryz.prog 57 asw:=È (auZ _) (fun {_}=>ĕ Ç _) hmix (tab:=aoM _) rfl Ç (Æ fun x=>aDJ x some)
theorem aYn:Ò Tryz.prog 21 aN4:=È (as5 _) (fun {_}=>ĕ (Á agK (Á atz (Á Ŝ (Á aeT (Á ţ (Á akc (Á ŕ Ç))))))) _) hmix (tab:=avo _) rfl (Á aDY Ç) (Æ fun x=>aLs x some)
theorem aQu:Ò Tryz.prog 122 aCy:=È (aye _) (fun {_}=>ĕ Ç _) hmix (tab:=aPc _) rfl (Á aRQ (Á aRO (Á aRN (Á aRP Ç)))) (Æ fun x=>aW7 x some)
theorem aYr:Ò Tryz.prog 61 aN8:=È (aiP _) (fun {_}=>ĕ (Á aFS (Á aQu Ç)) _) hmix (tab:=avI _) rfl (Á aEs (Á aEq (Á aEr Ç))) (Æ fun x=>aLD x some)
theorem aMQ:Ò Tryz.prog 60 aue:=È (ao2 _) (fun {_}=>ĕ (Á agL (Á aYr Ç)) _) hmix (tab:=alh _) rfl Ç (Æ fun x=>ax5 x some)
theorem aFP:Ò Tryz.prog 63 asx:=È (ame _) (fun {_}=>ĕ (Á ţ Ç) _) hmix (tab:=aoN _) rfl (Á axN Ç) (Æ fun x=>aDK x some)
theorem aSE:Ò Tryz.prog 24 aCx:=È (afU _) (fun {_}=>aE7 (Á aMQ (Á aYl (Á aFP (Á ase (Á alO (Á Ŝ (Á aeT (Á ţ (Á akc (Á ŕ Ç)))))))))) (afU _) rfl rfl rfl rfl rfl (adm rfl)) hmix (tab:=ao1 _) rfl (Á ax4 (Á ax3 Ç)) (Æ fun x=>aD3 x some)
theorem aFR:Ò Tryz.prog 140 asz:=È (amu _) (fun {_}=>ĕ Ç _) hmix (tab:=ao5 _) rfl (Á ayd Ç) (Æ fun x=>aD6 x some)
theorem aUa:Ò Tryz.prog 141 aJX:=È (ax7 _) (fun {_}=>ĕ Ç _) hmix (tab:=azL _) rfl (Á aHj Ç) (Æ fun x=>aPa x some)
theorem aH4:Ò Tryz.prog 69 aq6:=È (anG _) (fun {_}=>ĕ (Á apS (Á aMR (Á aFR (Á aUa Ç)))) _) hmix (tab:=ajU _) rfl Ç (Æ fun x=>avH x some)
theorem awW:Ò Tryz.prog 25 alV:=È (ao0 _) (fun {_}=>ĕ (Á Ŝ (Á aeT (Á ţ (Á aH4 Ç)))) _) hmix (tab:=alg _) rfl Ç (Æ fun x=>ax2 x some)
theorem aUg:Ò Tryz.prog 147 aJ4:=È (ayu _) (fun {_}=>ĕ (Á Ŝ Ç) _) hmix (tab:=az7 _) rfl (Á aHT Ç) (Æ fun x=>aPF x some)
theorem aYw:Ò Tryz.prog 200 aOb:=È (aEM _) (fun {_}=>ĕ (Á aJt (Á aQy (Á aUc (Á aQx Ç)))) _) hmix (tab:=avS _) rfl Ç (Æ fun x=>aLP x some)
theorem aSI:Ò Tryz.prog 146 aCE:=È (awd _) (fun {_}=>ĕ (Á aFS (Á aUe (Á aUg (Á aAo (Á awY (Á aYw Ç)))))) _) hmix (tab:=apr _) rfl Ç (Æ fun x=>aE0 x some)
theorem aYv:Ò Tryz.prog 202 aOa:=È (aEK _) (fun {_}=>ĕ (Á Ŝ Ç) _) hmix (tab:=avR _) rfl Ç (Æ fun x=>aLO x some)
theorem a0J:Ò Tryz.prog 148 aTA:=È (aIX _) (fun {_}=>ĕ (Á aYv (Á aUd Ç)) _) hmix (tab:=az9 _) rfl Ç (Æ fun x=>aPG x some)
theorem aJu:Ò Tryz.prog 149 axn:=È (aAb _) (fun {_}=>ĕ (Á awY (Á aJs Ç)) _) hmix (tab:=ar9 _) rfl Ç (Æ fun x=>aHX x some)
theorem aQt:Ò Tryz.prog 150 azh:=È (arE _) (fun {_}=>ĕ (Á agL Ç) _) hmix (tab:=anv _) rfl Ç (Æ fun x=>aA4 x some)
theorem aQs:Ò Tryz.prog 151 azg:=È (arD _) (fun {_}=>ĕ (Á agZ Ç) _) hmix (tab:=anu _) rfl Ç (Æ fun x=>aA3 x some)
theorem ayY:Ò Tryz.prog 76 axj:=È (ajG _) (fun {_}=>aE7 (Á agL (Á ţ (Á aSI (Á aUg (Á a0J (Á aJu (Á aQt (Á aQs Ç)))))))) (ajG _) rfl rfl rfl rfl rfl (adm rfl)) hmix (tab:=arC _) rfl (Á aA2 Ç) (Æ fun x=>aG7 x some)
theorem ane:Ò Tryz.prog 82 alU:=È (aoU _) (fun {_}=>ĕ Ç _) hmix (tab:=ak5 _) rfl Ç (Æ fun x=>axR x some)
theorem aVM:Ò Tryz.prog 154 aIw:=È (azE _) (fun {_}=>ĕ Ç _) hmix (tab:=arF _) rfl Ç (Æ fun x=>aG8 x some)
theorem akH:Ò Tryz.prog 86 akf:=È (anp _) (fun {_}=>ĕ (Á aVM Ç) _) hmix (tab:=ajB _) rfl Ç (Æ fun x=>auX x some)
theorem akI:Ò Tryz.prog 88 akg:=È (aeW _) (fun {_}=>ĕ Ç _) hmix (tab:=ajC _) rfl (Á aqP (Á aqQ Ç)) (Æ fun x=>auY x some)
theorem aFO:Ò Tryz.prog 77 an8:=È (agx _) (fun {_}=>ĕ (Á Ţ (Á ane (Á akH (Á akI Ç)))) _) hmix (tab:=aiE _) rfl (Á aoL Ç) (Æ fun x=>asU x some)
theorem aYm:Ò Tryz.prog 31 aN3:=È (as3 _) (fun {_}=>ĕ (Á Ŝ (Á aeT (Á ţ (Á ayY (Á aFO (Á akc (Á ŕ Ç))))))) _) hmix (tab:=avh _) rfl (Á aDV Ç) (Æ fun x=>aLn x some)
theorem awV:Ò Tryz.prog 83 auc:=È (aoX _) (fun {_}=>ĕ Ç _) hmix (tab:=ald _) rfl Ç (Æ fun x=>axY x some)
theorem awU:Ò Tryz.prog 84 aub:=È (aoV _) (fun {_}=>ĕ Ç _) hmix (tab:=ak6 _) rfl Ç (Æ fun x=>axS x some)
theorem aSD:Ò Tryz.prog 35 aCw:=aNI (amk _) (Ĕ _) (fun {_}=>aE7 (Á atz (Á Ŝ (Á aeT (Á ţ (Á ayY (Á Ţ (Á ane (Á awV (Á awU (Á akH (Á akI (Á akc (Á ŕ Ç))))))))))))) (amk _) rfl rfl rfl rfl rfl (adm rfl)) (fun {_}=>aE7 (Á atz (Á Ŝ (Á aeT (Á ţ (Á ayY (Á Ţ (Á ane (Á awV (Á awU (Á akH (Á akI (Á akc (Á ŕ Ç))))))))))))) (Ĕ _) rfl rfl rfl rfl rfl (adm rfl)) rfl hmix (tab:=aiN _) rfl (Á axX (Á axW Ç)) (us:=akn) rfl (Á (by kernel_rfl) Ç) (Æ fun x=>aDX x some)
theorem aYq:Ò Tryz.prog 91 aN7:=È (afb _) (fun {_}=>ĕ (Á apR (Á aQu (Á apS Ç))) _) hmix (tab:=avE _) rfl (Á aEm (Á aEi (Á aEj (Á aEk (Á aEl Ç))))) (Æ fun x=>aLB x some)
theorem aYo:Ò Tryz.prog 38 aN5:=È (aD1 _) (fun {_}=>ĕ (Á aYl (Á aFP (Á ţ (Á aYq Ç)))) _) hmix (tab:=avr _) rfl Ç (Æ fun x=>aLt x some)
theorem aQp:Ò Tryz.prog 44 azf:=È (aq8 _) (fun {_}=>ĕ Ç _) hmix (tab:=ann _) rfl Ç (Æ fun x=>aAC x some)
theorem a0E:Ò Tryz.prog 106 aTv:=È (aIO _) (fun {_}=>ĕ (Á aJu Ç) _) hmix (tab:=azC _) rfl Ç (Æ fun x=>aOV x some)
theorem aYk:Ò Tryz.prog 107 aN2:=È (aDR _) (fun {_}=>ĕ Ç _) hmix (tab:=ave _) rfl Ç (Æ fun x=>aLf x some)
theorem aYj:Ò Tryz.prog 108 aN1:=È (as0 _) (fun {_}=>ĕ (Á Ţ Ç) _) hmix (tab:=avd _) rfl (Á aDM Ç) (Æ fun x=>aLd x some)
theorem a0G:Ò Tryz.prog 45 aTx:=È (aqd _) (fun {_}=>ĕ (Á agK (Á Ŝ (Á aeT (Á ţ (Á a0E (Á aYk (Á aYj (Á akc (Á ŕ Ç))))))))) _) hmix (tab:=azK _) rfl (Á aHf (Á aHe Ç)) (Æ fun x=>aO7 x some)
theorem aH3:Ò Tryz.prog 92 aq5:=È (anF _) (fun {_}=>ĕ (Á apS (Á aFR (Á aUa Ç))) _) hmix (tab:=ajT _) rfl Ç (Æ fun x=>avG x some)
theorem aH2:Ò Tryz.prog 39 aq4:=È (anx _) (fun {_}=>ĕ (Á Ŝ (Á ţ (Á aH3 Ç))) _) hmix (tab:=ajN _) rfl Ç (Æ fun x=>avs x some)
theorem ahF:Ò Tryz.prog 248 adR:=È (ŏ _) (fun {_}=>ĕ Ç _) hmix (tab:=Ρ _) rfl (Á ae6 Ç) (Æ fun x=>afF x some)
theorem agf:Ò Tryz.prog 216 π:=È (Γ _) (fun {_}=>ĕ (Á ahF Ç) _) hmix (tab:=Ů _) rfl Ç (Æ fun x=>aeK x some)
theorem akG:Ò Tryz.prog 250 aeF:=È (ŵ _) (fun {_}=>ĕ Ç _) hmix (tab:=adS _) rfl (Á agt Ç) (Æ fun x=>ahx x some)
theorem aie:Ò Tryz.prog 219 ad3:=È (ads _) (fun {_}=>ĕ (Á akG Ç) _) hmix (tab:=χ _) rfl Ç (Æ fun x=>age x some)
theorem ajb:Ò Tryz.prog 252 ad9:=È (ť _) (fun {_}=>ĕ Ç _) hmix (tab:=adi _) rfl (Á afE Ç) (Æ fun x=>agv x some)
theorem ahp:Ò Tryz.prog 222 adq:=È (ψ _) (fun {_}=>ĕ (Á ajb Ç) _) hmix (tab:=Β _) rfl Ç (Æ fun x=>afv x some)
theorem a0F:Ò Tryz.prog 109 aTw:=È (Η _) (fun {_}=>ĕ (Á agf (Á aie (Á ahp Ç))) _) hmix (tab:=azD _) rfl (Á aG5 (Á aG2 (Á aG1 (Á aG3 (Á aG4 (Á aG0 (Á aGZ (Á aGY (Á aGX (Á aGW Ç)))))))))) (Æ fun x=>aOW x some)
theorem aVN:Ò Tryz.prog 46 aIx:=È (azJ _) (fun {_}=>ĕ (Á awW (Á aH2 (Á Ŝ (Á a0F Ç)))) _) hmix (tab:=arH _) rfl Ç (Æ fun x=>aHd x some)
theorem aSA:Ò Tryz.prog 11 aCr:=È (auu _) (fun {_}=>ĕ (Á aAn (Á aFQ (Á aYn (Á aSE (Á awW (Á aYm (Á aSD (Á aYo (Á aQp (Á a0G (Á aVN Ç))))))))))) _) hmix (tab:=aof _) rfl Ç (Æ fun x=>aCN x some)
theorem aYp:Ò Tryz.prog 49 aN6:=È (amy _) (fun {_}=>ĕ (Á aQv (Á aJr Ç)) _) hmix (tab:=avC _) rfl (Á aEg (Á aEf Ç)) (Æ fun x=>aLA x some)
theorem aMP:Ò Tryz.prog 13 aud:=È (aiO _) (fun {_}=>ĕ (Á aYp (Á Ŝ (Á ţ (Á ŕ Ç)))) _) hmix (tab:=ale _) rfl (Á as6 Ç) (Æ fun x=>axZ x some)
theorem akb:Ò Tryz.prog 94 ag0:=È (arc _) (fun {_}=>ĕ Ç _) hmix (tab:=ano _) rfl Ç (Æ fun x=>aAE x some)
theorem aFM:Ò Tryz.prog 164 axh:=È (aOH _) (fun {_}=>ĕ Ç _) hmix (tab:=aDm _) rfl Ç (Æ fun x=>aRt x some)
theorem aB3:Ò Tryz.prog 100 aua:=È (aII _) (fun {_}=>ĕ (Á aFM Ç) _) hmix (tab:=azs _) rfl Ç (Æ fun x=>aOK x some)
theorem aT8:Ò Tryz.prog 209 aJV:=È (axJ _) (fun {_}=>ĕ Ç _) hmix (tab:=azy _) rfl (Á aGR Ç) (Æ fun x=>aOR x some)
theorem aT9:Ò Tryz.prog 210 aJW:=È (aIN _) (fun {_}=>ĕ Ç _) hmix (tab:=azB _) rfl Ç (Æ fun x=>aOU x some)
theorem aVJ:Ò Tryz.prog 163 aIt:=È (azt _) (fun {_}=>ĕ (Á aT8 (Á aT9 Ç)) _) hmix (tab:=ary _) rfl Ç (Æ fun x=>aGP x some)
theorem aVG:Ò Tryz.prog 95 aIq:=È (azn _) (fun {_}=>ĕ (Á akb (Á aB3 (Á aVJ (Á aFM Ç)))) _) hmix (tab:=ari _) rfl Ç (Æ fun x=>aGt x some)
theorem awT:Ò Tryz.prog 166 an7:=È (asS _) (fun {_}=>ĕ Ç _) hmix (tab:=auQ _) rfl (Á aDo Ç) (Æ fun x=>aKJ x some)
theorem aqF:Ò Tryz.prog 101 akQ:=È (azp _) (fun {_}=>ĕ (Á awT Ç) _) hmix (tab:=arm _) rfl Ç (Æ fun x=>aGB x some)
theorem aX9:Ò Tryz.prog 96 aNR:=È (asH _) (fun {_}=>ĕ (Á aB3 (Á aqF Ç)) _) hmix (tab:=auy _) rfl (Á aCR Ç) (Æ fun x=>aKm x some)
theorem aVE:Ò Tryz.prog 97 aIo:=È (ag9 _) (fun {_}=>ĕ (Á akb (Á aqF (Á aFM Ç))) _) hmix (tab:=arf _) rfl (Á aAG (Á aAF (Á aAH Ç))) (Æ fun x=>aGr x some)
theorem aYd:Ò Tryz.prog 165 aNV:=È (asN _) (fun {_}=>ĕ (Á aFM Ç) _) hmix (tab:=auJ _) rfl (Á aC5 Ç) (Æ fun x=>aKA x some)
theorem aVD:Ò Tryz.prog 98 aIn:=È (azk _) (fun {_}=>ĕ (Á akb (Á aB3 (Á aFM (Á aYd Ç)))) _) hmix (tab:=ard _) rfl Ç (Æ fun x=>aGq x some)
theorem aQq:Ò Tryz.prog 167 aCt:=È (asP _) (fun {_}=>ĕ Ç _) hmix (tab:=auM _) rfl (Á aDh Ç) (Æ fun x=>aKE x some)
theorem a0z:Ò Tryz.prog 211 aTq:=È (axD _) (fun {_}=>ĕ Ç _) hmix (tab:=azq _) rfl (Á aGI Ç) (Æ fun x=>aOI x some)
theorem aQr:Ò Tryz.prog 168 aCu:=È (asQ _) (fun {_}=>ĕ (Á a0z Ç) _) hmix (tab:=auN _) rfl (Á aDj Ç) (Æ fun x=>aKF x some)
theorem aMO:Ò Tryz.prog 99 at7:=È (aeb _) (fun {_}=>ĕ (Á aqF (Á awT (Á aQq (Á aQr Ç)))) _) hmix (tab:=ak3 _) rfl (Á asK (Á asJ (Á asI Ç))) (Æ fun x=>axz x some)
theorem aMN:Ò Tryz.prog 158 aBH:=È (aIH _) (fun {_}=>ĕ (Á aQr Ç) _) hmix (tab:=azl _) rfl Ç (Æ fun x=>aOx x some)
theorem aYa:Ò Tryz.prog 169 aNS:=È (al9 _) (fun {_}=>ĕ (Á aMN Ç) _) hmix (tab:=auC _) rfl (Á aCY (Á aCX Ç)) (Æ fun x=>aKs x some)
theorem aqG:Ò Tryz.prog 102 akR:=È (adt _) (fun {_}=>ĕ (Á aYa Ç) _) hmix (tab:=aro _) rfl (Á aAO (Á aAN (Á aAM (Á aAJ (Á aAK (Á aAL Ç)))))) (Æ fun x=>aGD x some)
theorem ayX:Ò Tryz.prog 52 ap6:=È (aox _) (fun {_}=>ĕ (Á aqG Ç) _) hmix (tab:=art _) rfl (Á aAP Ç) (Æ fun x=>aGH x some)
theorem aYb:Ò Tryz.prog 212 aNT:=È (asL _) (fun {_}=>ĕ Ç _) hmix (tab:=auD _) rfl (Á aC0 Ç) (Æ fun x=>aKt x some)
theorem aYe:Ò Tryz.prog 170 aNW:=È (asO _) (fun {_}=>ĕ (Á awT (Á aQq (Á aYb Ç))) _) hmix (tab:=auK _) rfl (Á aDd Ç) (Æ fun x=>aKC x some)
theorem aFN:Ò Tryz.prog 285 asv:=È (auR _) (fun {_}=>ĕ (Á aT8 (Á aT9 Ç)) _) hmix (tab:=aoK _) rfl Ç (Æ fun x=>aDC x some)
theorem a0D:Ò Tryz.prog 268 aTu:=È (aIM _) (fun {_}=>ĕ (Á aFN Ç) _) hmix (tab:=azA _) rfl Ç (Æ fun x=>aOT x some)
theorem a0B:Ò Tryz.prog 269 aTs:=È (aIK _) (fun {_}=>ĕ Ç _) hmix (tab:=azw _) rfl Ç (Æ fun x=>aOP x some)
theorem a0A:Ò Tryz.prog 242 aTr:=È (aIJ _) (fun {_}=>ĕ (Á a0D (Á a0B Ç)) _) hmix (tab:=azu _) rfl Ç (Æ fun x=>aOO x some)
theorem aVF:Ò Tryz.prog 243 aIp:=È (azm _) (fun {_}=>ĕ (Á awT Ç) _) hmix (tab:=arh _) rfl Ç (Æ fun x=>aGs x some)
theorem aYh:Ò Tryz.prog 270 aNZ:=È (aDF _) (fun {_}=>ĕ Ç _) hmix (tab:=auT _) rfl Ç (Æ fun x=>aKP x some)
theorem a0C:Ò Tryz.prog 271 aTt:=È (aIL _) (fun {_}=>ĕ (Á aFN Ç) _) hmix (tab:=azx _) rfl Ç (Æ fun x=>aOQ x some)
theorem aVK:Ò Tryz.prog 244 aIu:=È (azv _) (fun {_}=>ĕ (Á aYh (Á a0C Ç)) _) hmix (tab:=arz _) rfl Ç (Æ fun x=>aGQ x some)
theorem aSC:Ò Tryz.prog 205 aCv:=È (auP _) (fun {_}=>ĕ (Á aMN (Á a0A (Á aVF (Á aVK Ç)))) _) hmix (tab:=aoy _) rfl Ç (Æ fun x=>aDn x some)
theorem aVH:Ò Tryz.prog 206 aIr:=È (azr _) (fun {_}=>ĕ Ç _) hmix (tab:=arv _) rfl Ç (Æ fun x=>aGL x some)
theorem a2g:Ò Tryz.prog 245 aWB:=È (aOL _) (fun {_}=>ĕ Ç _) hmix (tab:=aDB _) rfl Ç (Æ fun x=>aRx x some)
theorem aYi:Ò Tryz.prog 207 aN0:=È (aDH _) (fun {_}=>ĕ (Á a2g Ç) _) hmix (tab:=auV _) rfl Ç (Æ fun x=>aKY x some)
theorem aYg:Ò Tryz.prog 246 aNY:=È (aDD _) (fun {_}=>ĕ Ç _) hmix (tab:=auS _) rfl Ç (Æ fun x=>aKO x some)
theorem aVL:Ò Tryz.prog 208 aIv:=È (azz _) (fun {_}=>ĕ (Á aYg Ç) _) hmix (tab:=arA _) rfl Ç (Æ fun x=>aGS x some)
theorem aYc:Ò Tryz.prog 171 aNU:=È (aC3 _) (fun {_}=>ĕ (Á aSC (Á aVH (Á aYi (Á aVL Ç)))) _) hmix (tab:=auI _) rfl Ç (Æ fun x=>aKz x some)
theorem aT7:Ò Tryz.prog 103 aJU:=È (ak4 _) (fun {_}=>ĕ (Á ayX (Á aqG (Á aMN (Á aYe (Á aYc Ç))))) _) hmix (tab:=azo _) rfl (Á aGy (Á aGz (Á aGx Ç))) (Æ fun x=>aOA x some)
theorem aJq:Ò Tryz.prog 41 axi:=È (afl _) (fun {_}=>ĕ (Á akb (Á aVG (Á aX9 (Á aVE (Á aVD (Á aMO (Á aB3 (Á aqF (Á aqG (Á aT7 Ç)))))))))) _) hmix (tab:=arw _) rfl (Á aAT (Á aAR (Á aAS (Á aAQ Ç)))) (Æ fun x=>aGM x some)
theorem aSB:Ò Tryz.prog 43 aCs:=È (auH _) (fun {_}=>ĕ (Á aqG (Á aT7 Ç)) _) hmix (tab:=aop _) rfl Ç (Æ fun x=>aC2 x some)
theorem aYf:Ò Tryz.prog 53 aNX:=È (aDf _) (fun {_}=>ĕ (Á aJq Ç) _) hmix (tab:=auL _) rfl Ç (Æ fun x=>aKD x some)
theorem aVI:Ò Tryz.prog 54 aIs:=È (Τ _) (fun {_}=>ĕ Ç _) hmix (tab:=arx _) rfl (Á aAZ (Á aA0 (Á aAY (Á aAV (Á aAW (Á aAU (Á aAX Ç))))))) (Æ fun x=>aGN x some)
theorem aX8:Ò Tryz.prog 15 aNQ:=È (asG _) (fun {_}=>ĕ (Á aJq (Á aSB (Á ayX (Á aYf (Á aVI Ç))))) _) hmix (tab:=auw _) rfl (Á aCP Ç) (Æ fun x=>aKl x some)
theorem aty:Ò Tryz.prog 16 aiA:=È (ag7 _) (fun {_}=>ĕ Ç _) hmix (tab:=afJ _) rfl Ç (Æ fun x=>al6 x some)
theorem aMM:Ò Tryz.prog 17 at6:=È (aok _) (fun {_}=>ĕ (Á ayX Ç) _) hmix (tab:=ak2 _) rfl Ç (Æ fun x=>axu x some)
theorem awS:Ò Tryz.prog 18 ajk:=È (ahG _) (fun {_}=>ĕ Ç _) hmix (tab:=agl _) rfl Ç (Æ fun x=>anS x some)
theorem c_w6_SharpIntervals:Ò Tryz.prog 3 adz:=È (aea _) (fun {_}=>ĕ (Á a0y (Á aSA (Á aAn (Á aMP (Á aFQ (Á aX8 (Á aty (Á aMM (Á awS Ç))))))))) _) hmix (tab:=afC _) rfl (Á aki Ç) (Æ fun x=>al1 x some)
end Go.Proofs.ZzM
end