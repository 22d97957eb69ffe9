/- lemmas -/
import Derived.Test.YtmadligicacpkaaGreatAmD
import Derived.Test.YtmadligicacpkaaGreatAmE
import Derived.Ground.NamesProg
import Derived.Ground.Names2Prog
import Derived.KernelRfl
import Derived.Test.YtmadligicacpkaaGreatMdMA
import Derived.Test.YtmadligicacpkaaGreatMdKD
import Derived.RangeFuncBox
import Derived.Lib.SliceRun
import Derived.RangeFuncLeaves
import Derived.WalkKit
import Derived.OwnWalkIn
import Derived.TacticsInMore
import Derived.LoopNIn
import Derived.LoopIn
import Derived.Test.YtmadligicacpkaaGreatProg
import Derived.RangeFuncFrom
import Derived.RangeFuncRecord
import Derived.Test.YtmadligicacpkaaGreatMdKC
import Derived.Test.YtmadligicacpkaaGreatMdKB
import Derived.Test.YtmadligicacpkaaGreatMdKA
set_option linter.all false
set_option linter.unusedSectionVars false
set_option linter.unusedVariables false
set_option linter.unusedSimpArgs false
noncomputable section
namespace Go.Proofs
open Go.Shelf
def Tryz.laysSort_ren:Go.Shelf.Ren:=⟨fun|189=>232|125=>262|257=>261|128=>281|129=>282|294=>272|295=>273|296=>274|297=>275|298=>276|299=>277|216=>278|300=>279|301=>280|328=>286|329=>287|330=>288|331=>289|332=>290|215=>291|343=>299|n=>n,fun|28=>53|3=>3|46=>298|0=>0|51=>316|53=>293|4=>4|183=>309|182=>308|131=>265|5=>5|9=>9|218=>324|222=>328|228=>336|229=>337|n=>n,fun|n=>n⟩
def Tryz.laysSort:Go.Proofs.Lays.n189 Tryz.prog Tryz.laysSort_ren:={
 mixed:=by kernel_rfl
 f125:=Tryz.func262.trans (congrArg some (by kernel_rfl))
 f128:=Tryz.func281.trans (congrArg some (by kernel_rfl))
 f129:=Tryz.func282.trans (congrArg some (by kernel_rfl))
 f189:=Tryz.func232.trans (congrArg some (by kernel_rfl))
 f215:=Tryz.func291.trans (congrArg some (by kernel_rfl))
 f216:=Tryz.func278.trans (congrArg some (by kernel_rfl))
 f257:=Tryz.func261.trans (congrArg some (by kernel_rfl))
 f294:=Tryz.func272.trans (congrArg some (by kernel_rfl))
 f295:=Tryz.func273.trans (congrArg some (by kernel_rfl))
 f296:=Tryz.func274.trans (congrArg some (by kernel_rfl))
 f297:=Tryz.func275.trans (congrArg some (by kernel_rfl))
 f298:=Tryz.func276.trans (congrArg some (by kernel_rfl))
 f299:=Tryz.func277.trans (congrArg some (by kernel_rfl))
 f300:=Tryz.func279.trans (congrArg some (by kernel_rfl))
 f301:=Tryz.func280.trans (congrArg some (by kernel_rfl))
 f328:=Tryz.func286.trans (congrArg some (by kernel_rfl))
 f329:=Tryz.func287.trans (congrArg some (by kernel_rfl))
 f330:=Tryz.func288.trans (congrArg some (by kernel_rfl))
 f331:=Tryz.func289.trans (congrArg some (by kernel_rfl))
 f332:=Tryz.func290.trans (congrArg some (by kernel_rfl))
 f343:=Tryz.func299.trans (congrArg some (by kernel_rfl))
 t0:=Tryz.underlying0
 a0:=Tryz.isAgg0
 z0:=Tryz.sizeOf0
 v0:=Tryz.zeroValue0
 t3:=Tryz.underlying3
 a3:=Tryz.isAgg3
 z3:=Tryz.sizeOf3
 v3:=Tryz.zeroValue3
 t4:=Tryz.underlying4
 a4:=Tryz.isAgg4
 z4:=Tryz.sizeOf4
 v4:=Tryz.zeroValue4
 t5:=Tryz.underlying5
 a5:=Tryz.isAgg5
 z5:=Tryz.sizeOf5
 v5:=Tryz.zeroValue5
 t9:=Tryz.underlying9
 a9:=Tryz.isAgg9
 z9:=Tryz.sizeOf9
 v9:=Tryz.zeroValue9
 t28:=Tryz.underlying53
 a28:=Tryz.isAgg53
 z28:=Tryz.sizeOf53
 v28:=Tryz.zeroValue53
 t46:=Tryz.underlying298
 a46:=Tryz.isAgg298
 z46:=Tryz.sizeOf298
 v46:=Tryz.zeroValue298
 t51:=Tryz.underlying316
 a51:=Tryz.isAgg316
 z51:=Tryz.sizeOf316
 v51:=Tryz.zeroValue316
 t53:=Tryz.underlying293
 a53:=Tryz.isAgg293
 z53:=Tryz.sizeOf293
 v53:=Tryz.zeroValue293
 t131:=Tryz.underlying265
 a131:=Tryz.isAgg265
 z131:=Tryz.sizeOf265
 v131:=Tryz.zeroValue265
 t182:=Tryz.underlying308
 a182:=Tryz.isAgg308
 z182:=Tryz.sizeOf308
 v182:=Tryz.zeroValue308
 t183:=Tryz.underlying309
 a183:=Tryz.isAgg309
 z183:=Tryz.sizeOf309
 v183:=Tryz.zeroValue309
 t218:=Tryz.underlying324
 a218:=Tryz.isAgg324
 z218:=Tryz.sizeOf324
 v218:=Tryz.zeroValue324
 t222:=Tryz.underlying328
 a222:=Tryz.isAgg328
 z222:=Tryz.sizeOf328
 v222:=Tryz.zeroValue328
 t228:=Tryz.underlying336
 a228:=Tryz.isAgg336
 z228:=Tryz.sizeOf336
 v228:=Tryz.zeroValue336
 t229:=Tryz.underlying337
 a229:=Tryz.isAgg337
 z229:=Tryz.sizeOf337
 v229:=Tryz.zeroValue337}
def Tryz.laysCompact_ren:Go.Shelf.Ren:=⟨fun|20=>233|n=>n,fun|22=>53|3=>3|4=>4|0=>0|n=>n,fun|n=>n⟩
def Tryz.laysCompact:Go.Proofs.Lays2.n20 Tryz.prog Tryz.laysCompact_ren:={
 mixed:=by kernel_rfl
 f20:=Tryz.func233.trans (congrArg some (by kernel_rfl))
 t0:=Tryz.underlying0
 a0:=Tryz.isAgg0
 z0:=Tryz.sizeOf0
 v0:=Tryz.zeroValue0
 t3:=Tryz.underlying3
 a3:=Tryz.isAgg3
 z3:=Tryz.sizeOf3
 v3:=Tryz.zeroValue3
 t4:=Tryz.underlying4
 a4:=Tryz.isAgg4
 z4:=Tryz.sizeOf4
 v4:=Tryz.zeroValue4
 t22:=Tryz.underlying53
 a22:=Tryz.isAgg53
 z22:=Tryz.sizeOf53
 v22:=Tryz.zeroValue53
 i3:=by kernel_rfl}
end Go.Proofs
namespace Go.Proofs.ZzM
open Go Go.Am
def hmix:Tryz.prog.follows .mixedOrders=true:=by kernel_rfl
def plain_ : (Tryz.prog.funcs.toList.all fun fn => !(fn.name == "runtime.NumGoroutine")) = true := by kernel_rfl
def plain (f : Nat) (fn : Func) (h : Tryz.prog.funcs[f]? = some fn) : (fn.name == "runtime.NumGoroutine") = false := by
 have:=dF.1 plain_ fn (cY (i:=f) (by simpa using h));simpa using this
def anM:Tryz.laysSort_ren.f 189=232:=by kernel_rfl
def agQ:Tryz.laysCompact_ren.f 20=233:=by kernel_rfl
section
variable [ø] {ρ:Type}
def sortOk (f:Nat) (hf:abR f=true) (h:List Blk) (x:AV) (K:AV→List Blk→Option ρ) (q:ρ) (e:VO h x K=some q) (ν:Nat→Value) (w:World) (u:Value) (H:HR ν h w) (hx:VR ν h w x u):LU Tryz.prog f ν h w [u] K q:=by
 have h1:f=232:=by
  unfold abR at hf
  split at hf
  ·rfl
  ·cases hf
 subst h1;have:=anE Tryz.laysSort e H hx ⟨_,rfl⟩
 rwa [anM] at this
def aj4 (f:Nat) (hf:zw f=true) (h:List Blk) (x:AV) (K:AV→List Blk→Option ρ) (q:ρ) (e:oZ h x K=some q) (ν:Nat→Value) (w:World) (u:Value) (H:HR ν h w) (hx:VR ν h w x u):LU Tryz.prog f ν h w [u] K q:=by
 have h1:f=233:=by
  unfold zw at hf
  split at hf
  ·rfl
  ·cases hf
 subst h1;have:=ahx Tryz.laysCompact e H hx ⟨_,rfl⟩
 rwa [agQ] at this
def aoj:Kl Tryz.prog QQ:=by
 intro g hg fz S nid x v S' e ν w u H hx hn hd;unfold QQ at hg
 split at hg
 ·exact wp Tryz.func116 (T:=42) (by kernel_rfl) (by kernel_rfl) e H hx hn hd
 ·exact wp Tryz.func130 (T:=53) (by kernel_rfl) (by kernel_rfl) e H hx hn hd
 ·exact wp Tryz.func253 (T:=24) (by kernel_rfl) (by kernel_rfl) e H hx hn hd
 ·exact wp Tryz.func254 (T:=25) (by kernel_rfl) (by kernel_rfl) e H hx hn hd
 ·exact wp Tryz.func255 (T:=26) (by kernel_rfl) (by kernel_rfl) e H hx hn hd
 ·exact wp Tryz.func256 (T:=28) (by kernel_rfl) (by kernel_rfl) e H hx hn hd
 ·exact wp Tryz.func257 (T:=27) (by kernel_rfl) (by kernel_rfl) e H hx hn hd
 ·cases hg
def QM {pt:List (Nat×Ù)} (h:∀e∈pt,Ï Tryz.prog e.1 e.2) (E:Env ρ) (hP:E.P=Tryz.prog) (h1:E.pure=aho pt) (h2:E.sort=abR) (h3:E.compact=zw) (h4:E.clone=QQ) (hj:agy E):M6 E:=by
 constructor
 ·intro f p hf;rw[h1] at hf;rw[hP];exact h (f,p) (Vj hf)
 ·intro f hf;rw[h2] at hf;rw[hP];exact sortOk f hf
 ·intro f hf;rw[h3] at hf;rw[hP];exact aj4 f hf
 ·rw[hP]; exact plain
 ·rw[hP,h4]; exact aoj
 ·exact hj
def đ {pt:List (Nat×Ù)} (h:∀e∈pt,Ï Tryz.prog e.1 e.2) (tab:List (Ý ρ)):M6 (Ú pt tab):=QM h _ rfl rfl rfl rfl rfl (ig rfl)
end
end Go.Proofs.ZzM
end

noncomputable section
set_option maxRecDepth 100000
namespace Go.Proofs.ZzM
open Go Go.Am
def ş:Ï Tryz.prog 81 ś:=È (gY _) (fun {_}=>đ Ç _) hmix (tab:=l8 _) rfl (Á tf (Á td Ç)) (Æ fun x=>xm x some)
def PG:∀e∈Ja,Ï Tryz.prog e.1 e.2:=(Á ş Ç)
def adQ {ρ:Type}:∀e∈Dx ρ,e.Ok (ž ρ):=(Á Xs (Á Xt (Á Xr (Á Xq (Á Xp (Á Xo Ç))))))
def K4 {ρ:Type}:∀e∈rk ρ,e.Ok (Ğ ρ):=(Á Tj (Á Ti (Á Th Ç)))
def AR:Ï Tryz.prog 131 s8:=È (Lu _) (fun {_}=>đ Ç _) hmix (tab:=CB _) rfl Ç (Æ fun x=>TM x some)
def mP:Ï Tryz.prog 227 ku:=È (Lp _) (fun {_}=>đ Ç _) hmix (tab:=Cv _) rfl Ç (Æ fun x=>Tz x some)
def RC:Ï Tryz.prog 189 EE:=È (QB _) (fun {_}=>đ (Á mP Ç) _) hmix (tab:=GX _) rfl Ç (Æ fun x=>X2 x some)
def agd:Ï Tryz.prog 258 V6:=È (UV _) (fun {_}=>đ Ç _) hmix (tab:=Li _) rfl Ç (Æ fun x=>abj x some)
def akv:Ï Tryz.prog 259 adp:=È (Qf _) (fun {_}=>đ Ç _) hmix (tab:=Qe _) rfl (Á XL Ç) (Æ fun x=>adZ x some)
def HU:Ï Tryz.prog 226 EA:=È (Qi _) (fun {_}=>đ (Á agd (Á akv Ç)) _) hmix (tab:=Gz _) rfl Ç (Æ fun x=>XN x some)
def aeL:Ï Tryz.prog 187 Oa:=È (GW _) (fun {_}=>đ (Á AR (Á RC (Á HU (Á mP Ç)))) _) hmix (tab:=zm _) rfl Ç (Æ fun x=>QA x some)
def RD:Ï Tryz.prog 132 xF:=È (mD _) (fun {_}=>đ (Á aeL Ç) _) hmix (tab:=pY _) rfl (Á zn Ç) (Æ fun x=>DR x some)
def RA:Ï Tryz.prog 133 C5:=È (vC _) (fun {_}=>đ Ç _) hmix (tab:=ze _) rfl (Á Jv Ç) (Æ fun x=>Qt x some)
def J9:Ï Tryz.prog 78 sV:=È (kg _) (fun {_}=>đ Ç _) hmix (tab:=nk _) rfl (Á uU Ç) (Æ fun x=>xM x some)
def oz:Ï Tryz.prog 121 jG:=È (l7 _) (fun {_}=>đ (Á J9 Ç) _) hmix (tab:=kB _) rfl Ç (Æ fun x=>tc x some)
def agi:Ï Tryz.prog 194 Wb:=È (Ap _) (fun {_}=>đ (Á oz Ç) _) hmix (tab:=Lw _) rfl (Á TP (Á TO Ç)) (Æ fun x=>abD x some)
def RB:Ï Tryz.prog 135 ED:=È (vF _) (fun {_}=>đ (Á agi Ç) _) hmix (tab:=GH _) rfl (Á Qv (Á Qw Ç)) (Æ fun x=>XV x some)
def sO:Ï Tryz.prog 190 mR:=È (xd _) (fun {_}=>đ Ç _) hmix (tab:=rH _) rfl Ç (Æ fun x=>GF x some)
def aeK:Ï Tryz.prog 188 adr:=È (GG _) (fun {_}=>đ (Á RC (Á sO Ç)) _) hmix (tab:=zi _) rfl Ç (Æ fun x=>Qu x some)
def YN:Ï Tryz.prog 192 Wc:=È (lE _) (fun {_}=>đ (Á AR (Á sO (Á mP Ç))) _) hmix (tab:=tV _) rfl (Á DQ (Á DP Ç)) (Æ fun x=>JD x some)
def HV:Ï Tryz.prog 199 Ac:=È (Ao _) (fun {_}=>đ (Á oz Ç) _) hmix (tab:=Lt _) rfl (Á TJ (Á TI Ç)) (Æ fun x=>abA x some)
def Vv:Ï Tryz.prog 204 Iv:=È (zl _) (fun {_}=>đ (Á mP Ç) _) hmix (tab:=CA _) rfl (Á MT Ç) (Æ fun x=>TK x some)
def amO:Ï Tryz.prog 231 afD:=È (JE _) (fun {_}=>đ (Á mP Ç) _) hmix (tab:=Lx _) rfl (Á TQ Ç) (Æ fun x=>abE x some)
def M3:Ï Tryz.prog 193 LZ:=È (ŝ _) (fun {_}=>đ (Á ş (Á AR (Á RC (Á sO (Á HV (Á Vv (Á mP (Á amO Ç)))))))) _) hmix (tab:=ow _) rfl (Á xq (Á xo (Á xp (Á xn Ç)))) (Æ fun x=>Be x some)
end Go.Proofs.ZzM
end

noncomputable section
namespace Go.Proofs
open Go.RowKit
attribute [local go_sem] Oper.semAt_some
def R0 (sel:Nat→Bool) (k:Nat):List Nat:=(List.range k).filter sel
def Eh (sel:Nat→Bool) (k:Nat):R0 sel (k+1)=if sel k then R0 sel k++[k] else R0 sel k:=by
 unfold R0;rw[List.range_succ,List.filter_append]
 cases h:sel k<;>simp[h]
def adc (sel:Nat→Bool) (k:Nat):(R0 sel k).length≤k:=by
 unfold R0;exact Nat.le_trans (List.length_filter_le _ _) (by simp)
def aiq (sel:Nat→Bool) {j k:Nat} (h:j≤k):(R0 sel j).length≤(R0 sel k).length:=by
 obtain⟨d,rfl⟩:∃d,k=j+d:=⟨k-j,by omega⟩;unfold R0;rw[List.range_add,List.filter_append,List.length_append];omega
def anG {sel:Nat→Bool} {k n:Nat} (h:k<n) (hs:sel k=true):(R0 sel k).length<(R0 sel n).length:=by
 have h1:=aiq sel (j:=k+1) (k:=n) h;rw[Eh,hs] at h1;simp at h1;omega
set_option maxRecDepth 100000 in
set_option maxHeartbeats 1000000 in
def an2 (te:TypeId) (n:Nat) (hn:1≤n) (l bb tb:Nat) (flo fhi us lo co ko:Value) (gb go len cap:Nat) (gbase:Option Addr) (hgb:0<len→gbase=some ⟨gb,go,none⟩)
 (c0 c1 c2 c3 c4 c5 c6 c7:Nat→Int) (sel:Nat→Bool) (hlen:(len:Int)<9223372036854775807) (Nd:World→Prop)
 (W:World) (hb0:W.heap[bb]?=some (.cells #[flo,fhi,.slice gbase len cap,us,lo,co,ko] te (0,0)))
 (hNc:∀W',Nd W'→∀j,j<len→W'.cell? ⟨gb,go+j*8,none⟩=some (.int .i64 (c0 j))∧W'.cell? ⟨gb,go+j*8+1,none⟩=some (.int .i64 (c1 j))∧W'.cell? ⟨gb,go+j*8+2,none⟩=some (.int .i64 (c2 j))∧W'.cell? ⟨gb,go+j*8+3,none⟩=some (.int .i64 (c3 j)) ∧
  W'.cell? ⟨gb,go+j*8+4,none⟩=some (.int .i64 (c4 j))∧W'.cell? ⟨gb,go+j*8+5,none⟩=some (.int .i64 (c5 j))∧W'.cell? ⟨gb,go+j*8+6,none⟩=some (.int .i64 (c6 j))∧W'.cell? ⟨gb,go+j*8+7,none⟩=some (.int .i64 (c7 j)))
 (hNm:∀W',Nd W'→∃mv,∀W'',W'.grownBy W'' none→W''.cell? ⟨tb,0,none⟩=some mv∧∀j,j<len→(Instr.lookup 184 mv (.int .i64 (c0 j)) false).run Tryz.prog W''=.ok (.bool (sel j)) W'')
 (hNs:∀W1 W2,Nd W1→W1.grownBy W2 none→Nd W2) (hN:Nd W)
 (J Jx:List Nat→World→Prop) (hJ:∀pre W W',J pre W→W.grownBy W' none→J pre W') (hJx:∀pre W W',Jx pre W→W.grownBy W' none→Jx pre W')
 (hY:∀pre x W,J pre W→pre.length<(R0 sel len).length→YieldAt Fence.wide (n-1) Tryz.prog l #[.agg #[.int .i64 (c0 x),.int .i64 (c1 x),.int .i64 (c2 x),.int .i64 (c3 x),.int .i64 (c4 x),.int .i64 (c5 x),.int .i64 (c6 x),.int .i64 (c7 x)]] W fun e W' =>
  (e=.returned (.bool true)∧J (pre++[x]) W'∧(Nd W→Nd W'))∨(e=.returned (.bool false)∧Jx (pre++[x]) W'))
 (h0 : J [] W) :
  CallsIn Fence.wide n Tryz.prog 186 #[.func (.yield l) #[] #[],.pointer (some ⟨bb,0,none⟩),.pointer (some ⟨tb,0,none⟩)] W fun e W'=>(∃v,e=.returned v) ∧
   ((∃xs,xs=R0 sel len∧J xs W')∨(∃pre,True∧Jx pre W')):=by
 have hb3:W.cell? ⟨bb,2,none⟩=some (.slice gbase len cap):=by simp[World.cell?,hb0]
 refine callsIn_of_wp Tryz.func186 rfl trivial ?_ rfl;simp only[Tryz.ntmps186,eO,dc,dm,Nat.reduceAdd,Nat.reduceSub,Array.replicate_succ,Array.replicate_zero,List.push_toArray,gq,f6,eM]
 gi_wp2
 gi_loopw [9] (fun i wr=>∃k:Nat,k≤len∧i=.int .i64 k∧J (R0 sel k) wr∧Nd wr)
  (fun i _=>len-(intOf i).toNat)
 case atStart=>exact⟨0,ee _,rfl,h0,hN⟩
 case round =>
  obtain⟨k,hk,rfl,hJs,hNw⟩:=hrel
  by_cases hlt:k<len
  ·have hg:=hgb (by omega);subst hg;obtain⟨q0,q1,q2,q3,q4,q5,q6,q7⟩:=hNc _ hNw k hlt;obtain⟨mv,hmv⟩:=hNm _ hNw;have hta:∀o,(wr.alloc o).cell? ⟨tb,0,none⟩=some mv:=fun o=>(hmv _ (World.grownBy_alloc _ o none)).1;have hlk:∀o,(Instr.lookup 184 mv (.int .i64 (c0 k)) false).run Tryz.prog (wr.alloc o)=.ok (.bool (sel k)) (wr.alloc o):=fun o=>(hmv _ (World.grownBy_alloc _ o none)).2 k hlt;have hNa:∀o,Nd (wr.alloc o):=fun o=>hNs _ _ hNw (World.grownBy_alloc _ o none);have hJa:∀o,J (R0 sel k) (wr.alloc o):=fun o=>hJ _ _ _ hJs (World.grownBy_alloc _ o none);clear hmv hNm hNc
   cases hsel:sel k with
   |false =>
    rw[hsel] at hlk
    iterate 52 (first|go_values|gi_guarded|gi_step|gi_upon)
    refine⟨fun f hf=>by simp[undef,go_sem] at hf,?_⟩
    gi_wp2
    go_roundw
    case rel=>exact⟨k+1,by omega,by simp,by rw[Eh,hsel]; exact hJa _,hNa _⟩
    case measure=>simp[intOf]; omega
   |true =>
    rw[hsel] at hlk
    gi_wp2
    obtain⟨fn,tmps,assign,body,hy,hR⟩:=hY (R0 sel k) k (wr.alloc (.cells #[.int .i64 (c0 k),.int .i64 (c1 k),.int .i64 (c2 k),.int .i64 (c3 k),.int .i64 (c4 k),.int .i64 (c5 k),.int .i64 (c6 k),.int .i64 (c7 k)] 130)) (hJa _) (anG hlt hsel);rw[hy];refine⟨fun h=>(by cases h),hR.mono ?_⟩;rintro e W3 (⟨rfl,hJ3,hk3⟩|⟨rfl,hJx3⟩)
    ·gi_wp2
     go_roundw
     case rel=>exact⟨k+1,by omega,by simp,by rw[Eh,hsel]; exact hJ3,hk3 (hNa _)⟩
     case measure=>simp[intOf]; omega
    ·gi_wp2
     refine bodyPost_ret (results_none rfl _ _ _) rfl ?_;exact⟨⟨_,rfl⟩,.inr ⟨_,trivial,hJx3⟩⟩
  ·obtain rfl:len=k:=by omega
   gi_wp2
   go_end0
   exact⟨⟨_,rfl⟩,.inl ⟨_,rfl,hJs⟩⟩
end Go.Proofs
end

noncomputable section
namespace Go.Proofs
open Go.RowKit
attribute [local go_sem] Oper.semAt_some
def upE (f:Nat→Int) (k:Nat):List Int:=(List.range k).map f
def qE (f:Nat→Int) (k:Nat):upE f (k+1)=upE f k++[f k]:=by simp[upE,List.range_succ]
def zW (f:Nat→Int) (k:Nat):(upE f k).length=k:=by simp[upE]
def M7 (f:Nat→Int) {j k:Nat} (h:j≤k):upE f j <+: upE f k:=by
 have:k=j+(k-j):=by omega
 rw[this,upE,upE,List.range_add,gS];exact er _ _
set_option maxRecDepth 100000 in
set_option maxHeartbeats 1000000 in
def alM (te:TypeId) (n:Nat) (hn:1≤n) (l n₀ bb tb sb:Nat) (flo fhi ga mv:Value) (hbb:bb<n₀) (htb:tb<n₀) (hsb:sb<n₀)
 (ub uo ul uc kb ko kl kc:Nat) (ubase kbase lbase cbase:Option Addr) (ll lc cl cc:Nat) (hub:0<ul→ubase=some ⟨ub,uo,none⟩∧ub<n₀) (hkb:0<kl→kbase=some ⟨kb,ko,none⟩∧kb<n₀)
 (U K:Nat→Int×Int) (eU eL eC eK:Nat→Int)
 (hul:ul≤1000) (hll:ll≤1000) (hcl:cl≤1000) (hkl:kl≤1000)
 (W:World) (hb0:W.heap[bb]?=some (.cells #[flo,fhi,ga,.slice ubase ul uc,.slice lbase ll lc,.slice cbase cl cc,.slice kbase kl kc] te (0,0)))
 (ht:W.cell? ⟨tb,0,none⟩=some (.func (.func 188) #[] #[.pointer (some ⟨sb,0,none⟩)])) (hs:W.cell? ⟨sb,0,none⟩=some mv)
 (hU:∀j,j<ul→W.cell? ⟨ub,uo+j*2,none⟩=some (.int .i64 (U j).1)∧W.cell? ⟨ub,uo+j*2+1,none⟩=some (.int .i64 (U j).2))
 (hK:∀j,j<kl→W.cell? ⟨kb,ko+j*2,none⟩=some (.int .i64 (K j).1)∧W.cell? ⟨kb,ko+j*2+1,none⟩=some (.int .i64 (K j).2))
 (cU:∀j,j<ul→∀W',Below n₀ W W'→CallsIn Fence.wide (n-1) Tryz.prog 188 #[.int .i64 (U j).1,.int .i64 (U j).2,.pointer (some ⟨sb,0,none⟩)] W' fun e W''=>e=.returned (.int .i64 (eU j))∧W'.grownBy W'' none)
 (cK:∀j,j<kl→∀W',Below n₀ W W'→CallsIn Fence.wide (n-1) Tryz.prog 188 #[.int .i64 (K j).1,.int .i64 (K j).2,.pointer (some ⟨sb,0,none⟩)] W' fun e W''=>e=.returned (.int .i64 (eK j))∧W'.grownBy W'' none)
 (cL:∀j,j<ll→∀W',Below n₀ W W'→CallsIn Fence.wide (n-1) Tryz.prog 192 #[.agg #[flo,fhi,ga,.slice ubase ul uc,.slice lbase ll lc,.slice cbase cl cc,.slice kbase kl kc],mv,.int .i64 j] W' fun e W''=>e=.returned (.int .i64 (eL j))∧W'.grownBy W'' none)
 (cC:∀j,j<cl→∀W',Below n₀ W W'→CallsIn Fence.wide (n-1) Tryz.prog 193 #[.agg #[flo,fhi,ga,.slice ubase ul uc,.slice lbase ll lc,.slice cbase cl cc,.slice kbase kl kc],mv,.int .i64 j] W' fun e W''=>e=.returned (.int .i64 (eC j))∧W'.grownBy W'' none)
 (J Jx:List Int→World→Prop) (hJ:∀pre W W',J pre W→W.grownBy W' none→J pre W') (hJx:∀pre W W',Jx pre W→W.grownBy W' none→Jx pre W')
 (hY:∀pre x W,J pre W→pre.length<ul+(ll+(cl+kl))→YieldAt Fence.wide (n-1) Tryz.prog l #[.int .i64 x] W fun e W' =>
  (e=.returned (.bool true)∧J (pre++[x]) W'∧Below n₀ W W')∨(e=.returned (.bool false)∧Jx (pre++[x]) W'))
 (h0 : J [] W) (hn₀ : n₀ ≤ W.heap.size) :
  CallsIn Fence.wide n Tryz.prog 191 #[.func (.yield l) #[] #[],.pointer (some ⟨bb,0,none⟩),.pointer (some ⟨tb,0,none⟩),.pointer (some ⟨sb,0,none⟩)] W fun e W'=>(∃v,e=.returned v) ∧
   ((∃xs,xs=upE eU ul++(upE eL ll++(upE eC cl++upE eK kl))∧J xs W')∨(∃pre,(pre <+: upE eU ul++(upE eL ll++(upE eC cl++upE eK kl)))∧Jx pre W')):=by
 have grown_alloc:∀(X:World) (o:Obj),X.grownBy (X.alloc o) none:=fun X o=>World.grownBy_alloc X o none
 have bel:∀{X Y:World},Below n₀ W X→X.grownBy Y none→Below n₀ W Y:=fun {X Y} h g =>
  ⟨g.os.trans h.os,g.tape.trans h.tape,g.output.trans h.output,dC h.size g.size,fun k hk=>(g.block k (dw (dw hk hn₀) h.size) (by simp)).trans (h.block k hk)⟩
 have hc:∀{X:World},Below n₀ W X→X.heap[bb]?=some (.cells #[flo,fhi,ga,.slice ubase ul uc,.slice lbase ll lc,.slice cbase cl cc,.slice kbase kl kc] te (0,0)):=fun h=>(h.block bb hbb).trans hb0;refine callsIn_of_wp Tryz.func191 rfl trivial ?_ rfl;simp only[Tryz.ntmps191,eO,dc,dm,Nat.reduceAdd,Nat.reduceSub,Array.replicate_succ,Array.replicate_zero,List.push_toArray,gq,f6,eM]
 have hb3:W.cell? ⟨bb,3,none⟩=some (.slice ubase ul uc):=by simp[World.cell?,hb0]
 gi_wp2
 gi_loopw [14] (fun i wr=>∃k:Nat,k≤ul∧i=.int .i64 k∧J (upE eU k) wr∧Below n₀ W wr)
  (fun i _=>ul-(intOf i).toNat)
 case atStart=>exact⟨0,ee _,rfl,h0,Below.refl _ _⟩
 case round =>
  obtain⟨k,hk,rfl,hJs,hnx⟩:=hrel
  by_cases hlt:k<ul
  ·obtain⟨rfl,hlu⟩:=hub (by omega);have hu1:=(hnx.cell (p:=⟨ub,uo+k*2,none⟩) hlu).trans (hU k hlt).1;have hu2:=(hnx.cell (p:=⟨ub,uo+k*2+1,none⟩) hlu).trans (hU k hlt).2;have ht':=(hnx.cell (p:=⟨tb,0,none⟩) htb).trans ht;have hta:∀o,(wr.alloc o).cell? ⟨tb,0,none⟩=some (.func (.func 188) #[] #[.pointer (some ⟨sb,0,none⟩)]):=fun o=>Lib.cell?_alloc_some _ ht'
   gi_wp2
   refine⟨trivial,(cU k hlt _ (bel hnx (grown_alloc _ _))).mono ?_⟩;rintro e W2 ⟨rfl,hg2⟩;obtain⟨fn,tmps,assign,body,hy,hR⟩:=hY _ (eU k) W2 (hJ _ _ _ (hJ _ _ _ hJs (grown_alloc _ _)) hg2) (by rw[zW]; omega);have hb2:=bel (bel hnx (grown_alloc _ _)) hg2
   gi_wp2
   refine hR.mono ?_;rintro e W3 (⟨rfl,hJ3,hk3⟩|⟨rfl,hJx3⟩)
   ·gi_wp2
    go_roundw
    case rel=>exact⟨k+1,by omega,by simp,by rw[qE]; exact hJ3,hb2.trans hk3⟩
    case measure=>simp[intOf]; omega
   ·gi_wp2
    refine bodyPost_ret (results_none rfl _ _ _) rfl ?_;refine⟨⟨_,rfl⟩,.inr ⟨_,?_,hJx3⟩⟩;rw[←qE];exact(M7 eU (by omega)).trans (er _ _)
  ·obtain rfl:ul=k:=by omega
   have hb4:wr.cell? ⟨bb,4,none⟩=some (.slice lbase ll lc):=by simp[World.cell?,hc hnx]
   gi_wp2
   gi_loopw [31] (fun i wr=>∃k:Nat,k≤ll∧i=.int .i64 k∧J (upE eU ul++upE eL k) wr∧Below n₀ W wr)
    (fun i _=>ll-(intOf i).toNat)
   case atStart=>exact⟨0,ee _,rfl,by simpa[upE] using hJs,hnx⟩
   case round =>
    clear hJs hnx;obtain⟨k,hk,rfl,hJs,hnx⟩:=hrel
    by_cases hlt:k<ll
    ·have q0:wr.cell? ⟨bb,0,none⟩=some flo:=by simp[World.cell?,hc hnx]
     have q1:wr.cell? ⟨bb,1,none⟩=some fhi:=by simp[World.cell?,hc hnx]
     have q2:wr.cell? ⟨bb,2,none⟩=some ga:=by simp[World.cell?,hc hnx]
     have q3:wr.cell? ⟨bb,3,none⟩=some (.slice ubase ul uc):=by simp[World.cell?,hc hnx]
     have q4:wr.cell? ⟨bb,4,none⟩=some (.slice lbase ll lc):=by simp[World.cell?,hc hnx]
     have q5:wr.cell? ⟨bb,5,none⟩=some (.slice cbase cl cc):=by simp[World.cell?,hc hnx]
     have q6:wr.cell? ⟨bb,6,none⟩=some (.slice kbase kl kc):=by simp[World.cell?,hc hnx]
     have hs':=(hnx.cell (p:=⟨sb,0,none⟩) hsb).trans hs
     gi_wp2
     refine⟨trivial,(cL k hlt _ hnx).mono ?_⟩;rintro e W2 ⟨rfl,hg2⟩;obtain⟨fn,tmps,assign,body,hy,hR⟩:=hY _ (eL k) W2 (hJ _ _ _ hJs hg2) (by simp only[cR,zW]; omega);have hb2:=bel hnx hg2
     gi_wp2
     refine hR.mono ?_;rintro e W3 (⟨rfl,hJ3,hk3⟩|⟨rfl,hJx3⟩)
     ·gi_wp2
      go_roundw
      case rel=>exact⟨k+1,by omega,by simp,by rw[qE,←dk]; exact hJ3,hb2.trans hk3⟩
      case measure=>simp[intOf]; omega
     ·gi_wp2
      refine bodyPost_ret (results_none rfl _ _ _) rfl ?_;refine⟨⟨_,rfl⟩,.inr ⟨_,?_,hJx3⟩⟩;rw[dk,←qE];exact(eG _).2 ((M7 eL (by omega)).trans (er _ _))
    ·obtain rfl:ll=k:=by omega
     have hb5:wr.cell? ⟨bb,5,none⟩=some (.slice cbase cl cc):=by simp[World.cell?,hc hnx]
     gi_wp2
     gi_loopw [45] (fun i wr=>∃k:Nat,k≤cl∧i=.int .i64 k∧J (upE eU ul++upE eL ll++upE eC k) wr∧Below n₀ W wr)
      (fun i _=>cl-(intOf i).toNat)
     case atStart=>exact⟨0,ee _,rfl,by simpa[upE] using hJs,hnx⟩
     case round =>
      clear hJs hnx;obtain⟨k,hk,rfl,hJs,hnx⟩:=hrel
      by_cases hlt:k<cl
      ·have q0:wr.cell? ⟨bb,0,none⟩=some flo:=by simp[World.cell?,hc hnx]
       have q1:wr.cell? ⟨bb,1,none⟩=some fhi:=by simp[World.cell?,hc hnx]
       have q2:wr.cell? ⟨bb,2,none⟩=some ga:=by simp[World.cell?,hc hnx]
       have q3:wr.cell? ⟨bb,3,none⟩=some (.slice ubase ul uc):=by simp[World.cell?,hc hnx]
       have q4:wr.cell? ⟨bb,4,none⟩=some (.slice lbase ll lc):=by simp[World.cell?,hc hnx]
       have q5:wr.cell? ⟨bb,5,none⟩=some (.slice cbase cl cc):=by simp[World.cell?,hc hnx]
       have q6:wr.cell? ⟨bb,6,none⟩=some (.slice kbase kl kc):=by simp[World.cell?,hc hnx]
       have hs':=(hnx.cell (p:=⟨sb,0,none⟩) hsb).trans hs
       gi_wp2
       refine⟨trivial,(cC k hlt _ hnx).mono ?_⟩;rintro e W2 ⟨rfl,hg2⟩;obtain⟨fn,tmps,assign,body,hy,hR⟩:=hY _ (eC k) W2 (hJ _ _ _ hJs hg2) (by simp only[cR,zW]; omega);have hb2:=bel hnx hg2
       gi_wp2
       refine hR.mono ?_;rintro e W3 (⟨rfl,hJ3,hk3⟩|⟨rfl,hJx3⟩)
       ·gi_wp2
        go_roundw
        case rel=>exact⟨k+1,by omega,by simp,by rw[qE,←dk]; exact hJ3,hb2.trans hk3⟩
        case measure=>simp[intOf]; omega
       ·gi_wp2
        refine bodyPost_ret (results_none rfl _ _ _) rfl ?_;refine⟨⟨_,rfl⟩,.inr ⟨_,?_,hJx3⟩⟩;rw[dk,←qE]
        exact by rw[dk]; exact(eG _).2 ((eG _).2 ((M7 eC (by omega)).trans (er _ _)))
      ·obtain rfl:cl=k:=by omega
       have hb6:wr.cell? ⟨bb,6,none⟩=some (.slice kbase kl kc):=by simp[World.cell?,hc hnx]
       gi_wp2
       gi_loopw [59] (fun i wr=>∃k:Nat,k≤kl∧i=.int .i64 k∧J ((upE eU ul++upE eL ll++upE eC cl)++upE eK k) wr∧Below n₀ W wr)
        (fun i _=>kl-(intOf i).toNat)
       case atStart=>exact⟨0,ee _,rfl,by simpa[upE] using hJs,hnx⟩
       case round =>
        clear hJs hnx;obtain⟨k,hk,rfl,hJs,hnx⟩:=hrel
        by_cases hlt:k<kl
        ·obtain⟨rfl,hlk⟩:=hkb (by omega);have hu1:=(hnx.cell (p:=⟨kb,ko+k*2,none⟩) hlk).trans (hK k hlt).1;have hu2:=(hnx.cell (p:=⟨kb,ko+k*2+1,none⟩) hlk).trans (hK k hlt).2;have ht':=(hnx.cell (p:=⟨tb,0,none⟩) htb).trans ht;have hta:∀o,(wr.alloc o).cell? ⟨tb,0,none⟩=some (.func (.func 188) #[] #[.pointer (some ⟨sb,0,none⟩)]):=fun o=>Lib.cell?_alloc_some _ ht'
         gi_wp2
         refine⟨trivial,(cK k hlt _ (bel hnx (grown_alloc _ _))).mono ?_⟩;rintro e W2 ⟨rfl,hg2⟩;obtain⟨fn,tmps,assign,body,hy,hR⟩:=hY _ (eK k) W2 (hJ _ _ _ (hJ _ _ _ hJs (grown_alloc _ _)) hg2) (by simp only[cR,zW]; omega);have hb2:=bel (bel hnx (grown_alloc _ _)) hg2
         gi_wp2
         refine hR.mono ?_;rintro e W3 (⟨rfl,hJ3,hk3⟩|⟨rfl,hJx3⟩)
         ·gi_wp2
          go_roundw
          case rel=>exact⟨k+1,by omega,by simp,by rw[qE,←dk]; exact hJ3,hb2.trans hk3⟩
          case measure=>simp[intOf]; omega
         ·gi_wp2
          refine bodyPost_ret (results_none rfl _ _ _) rfl ?_;refine⟨⟨_,rfl⟩,.inr ⟨_,?_,hJx3⟩⟩;rw[dk,←qE,dk,dk];exact(eG _).2 ((eG _).2 ((eG _).2 (M7 eK (by omega))))
        ·obtain rfl:kl=k:=by omega
         gi_wp2
         go_end0
         exact⟨⟨_,rfl⟩,.inl ⟨_,rfl,by simpa[dk] using hJs⟩⟩
end Go.Proofs
end

noncomputable section
set_option maxRecDepth 100000
namespace Go.Proofs.ZzM
open Go Go.Am Go.RowKit
def afo (p:String):Code:=.region 10 #[{dst:=some 5,op:=.assign (.tmp 49),type:=35,pos:=p,after:=#[],guard:=none}] false
def ana (q r:String):Code:=.block 1 (.seq (.region 11 #[{dst:=some 50,op:=.move (.tmp 5),type:=35,pos:=q,after:=#[],guard:=none},{dst:=some 51,op:=.binOp .neq 35 (.tmp 50) (.const (.int .i64 0)) 35,type:=4,pos:=q,after:=#[{on:=0,ground:=.data}],guard:=none}] false)
 (.cond (.tmp 51) (.seq (.region 12 #[{dst:=some 52,op:=.move (.tmp 5),type:=35,pos:=r,after:=#[],guard:=none},{dst:=none,op:=.store 35 (.tmp 2) (.tmp 52),type:=0,pos:=r,after:=#[{on:=0,ground:=.data},{on:=0,ground:=.phase}],guard:=none}] false) .ret) .skip))
section
variable {P:Program} {F:Fence} {n:Nat}
def EF {ops:Array Oper} {i d:Nat} {o:Oper} {u:Value} {w w':World} {a:Act} {next:Act→World→Prop} {Q:Exit→Act→World→Prop} (hF:∀f,F.fn f) (ho:ops[i]?=some o) (hg:o.guard=none) (hd:o.dst=some d) (hdf:∀c,o.op≠.defer c)
 (hrun:(execOp a.eval o).run P w=.ok (.value u) w') (k:next (a.put (some d) u) w'):wpOpIn F n P ops Q i next a w:=by
 unfold wpOpIn;rw[ho]
 have hw:Region.wanted o (yielded ops a.tmps)=true:=by simp[Region.wanted,hg]
 simp only[hw,if_true];refine⟨fun _ _=>hF _,?_⟩;rw[Oper.semAt_eq _ _ _ hdf,hrun];rw[←hd] at k;exact k
def agW {ops:Array Oper} {i:Nat} {o:Oper} {w w':World} {a:Act} {next:Act→World→Prop} {Q:Exit→Act→World→Prop} (hF:∀f,F.fn f) (ho:ops[i]?=some o) (hg:o.guard=none) (hd:o.dst=none) (hdf:∀c,o.op≠.defer c)
 (hrun:(execOp a.eval o).run P w=.ok .skip w') (k:next a w'):wpOpIn F n P ops Q i next a w:=by
 unfold wpOpIn;rw[ho]
 have hw:Region.wanted o (yielded ops a.tmps)=true:=by simp[Region.wanted,hg]
 simp only[hw,if_true];refine⟨fun _ _=>hF _,?_⟩;rw[Oper.semAt_eq _ _ _ hdf,hrun];show next (a.put o.dst undef) w';rw[hd];exact k
end
def jA (T:Array Value) (i j:Nat) (v:Value):(T.setIfInBounds i v).getD j undef=if i=j∧i<T.size then v else T.getD j undef:=by
 simp only[dO,fc]
 by_cases h:i=j
 ·subst h
  by_cases h2:i<T.size
  ·simp[h2]
  ·simp[h2]
 ·simp[h]
def afK (D:Nat):Deferred:={target:=.collected D,args:=#[]}
structure Put1 (n₀ rb:Nat) (x:Int) (w W:World):Prop where
 os:W.os=w.os
 tape:W.tape=w.tape
 output:W.output=w.output
 size:w.heap.size≤W.heap.size
 block:∀k,k<n₀→k≠rb→W.heap[k]?=w.heap[k]?
 cell:∃e,W.heap[rb]?=some (.cells #[.int .i64 x] e (0,0))
set_option maxHeartbeats 4000000 in
def anK {a:Act} {w:World} {Q:Exit→Act→World→Prop} {lb:Array Value} {L:List Int} {rb:Nat} {e0:TypeId} {v0:Value} {p q r:String}
 (hseq:SeqStopsK Fence.wide 1 Tryz.prog 191 lb (fun x:Int=>#[.int .i64 x]) (Below w.heap.size) (fun xs=>xs=L) (fun pre=>pre <+: L) L.length w)
 (hg:a.tmps.getD 48 undef=.func (.func 191) #[] lb) (h2:a.tmps.getD 2 undef=.pointer (some ⟨rb,0,none⟩)) (hsz:78≤a.tmps.size)
 (hrb:w.heap[rb]?=some (.cells #[v0] e0 (0,0)))
 (hdone:∀D W,(∀x∈L,x=0)→Below w.heap.size w W→w.heap.size≤D→W.heap[D]?=some (.deferred (some []))→Q .normal {a with defers:=afK D::a.defers} W)
 (hstop:∀D W x,L.find? (fun e=>e != 0)=some x→Put1 w.heap.size rb x w W→w.heap.size≤D→W.heap[D]?=some (.deferred (some []))→Q .ret {a with defers:=afK D::a.defers} W) :
 (Code.rangeFunc (.tmp 48) #[49] (afo p) (ana q r)).wpIn Fence.wide 2 Tryz.prog Q a w:=by
 have hT:∀f,Fence.wide.fn f:=fun _=>trivial;have hrl:=Ė hrb
 refine wpIn_rangeFunc_ownF (α:=Int) (encs:=fun x=>#[.int .i64 x]) (Kp:=Below w.heap.size) (S:=fun xs=>xs=L) (Sp:=fun pre=>pre <+: L) (N:=L.length) (w0:=w) rfl (by omega) hg trivial (fun args w=>?eg) hseq
  (fun h k=>h.trans k) (fun W l o o' hl ho hc hw=>belowK_b (cO _) W l o o' hl ho hc hw) (Below.refl _ _) (fun _=>rfl)
  (fun pre W=>(∀x∈pre,x=0)∧Below w.heap.size w W)
  (fun c pre W=>c=.ret∧∃pre' x,pre=pre'++[x]∧(∀x∈pre',x=0)∧x≠0∧Put1 w.heap.size rb x w W)
  ?hI ?hIx ⟨by simp,Below.refl _ _⟩ (fun x=>{tmps:=(a.tmps.setIfInBounds 49 (.int .i64 x)).setIfInBounds 5 (.int .i64 x),defers:=[]}) ?hassign ?hbody ?hdone ?hstop
 case eg=>simp[callFunc,Sem.run_bind,run_program,Result.andThen_ok,Tryz.func191,plain 191 _ Tryz.func191,show Tryz.f191.body.isNone=false from rfl]; rfl
 case hI =>
  intro s W W' row ⟨h1,h2⟩ hgr hr;exact⟨h1,hgr.os.trans h2.os,hgr.tape.trans h2.tape,hgr.output.trans h2.output,dC h2.size hgr.size,fun k hk=>(hgr.block k (dw hk h2.size) (fun e=>by have:=(hr k e.symm).1; omega)).trans (h2.block k hk)⟩
 case hIx =>
  intro c s W W' row ⟨h1,pre',x,h3,h4,h5,h6⟩ hgr hr;have hb:∀k,k<w.heap.size→W'.heap[k]?=W.heap[k]?:=fun k hk=>hgr.block k (dw hk h6.size) (fun e=>by have:=(hr k e.symm).1; omega)
  exact⟨h1,pre',x,h3,h4,h5,hgr.os.trans h6.os,hgr.tape.trans h6.tape,hgr.output.trans h6.output,dC h6.size hgr.size,fun k hk hne=>(hb k hk).trans (h6.block k hk hne),by
   obtain⟨e,he⟩:=h6.cell
   exact⟨e,(hb rb hrl).trans he⟩⟩
 case hassign =>
  intro l x W K hK
  have hf:((#[49]:Array Tmp).zip #[Value.int .i64 x]).foldl (fun t (p,v)=>t.setIfInBounds p v) a.tmps=a.tmps.setIfInBounds 49 (.int .i64 x):=by simp
  rw[hf];refine wpIn_region ?_;rw[show ∀o:Oper,List.range (#[o]:Array Oper).size=[0] from fun _=>rfl,wpOpsIn_cons];refine EF (d:=5) (u:=.int .i64 x) (w':=W) hT rfl rfl rfl (by simp) ?_ hK;show Result.ok (Next.value ((a.tmps.setIfInBounds 49 (.int .i64 x)).getD 49 undef)) W=_;rw[jA,if_pos ⟨rfl,by omega⟩]
 case hbody =>
  intro l pre x W ⟨h1,hbel⟩ hpre;refine wpIn_block (wpIn_seq (wpIn_region ?_));rw[show ∀o p:Oper,List.range (#[o,p]:Array Oper).size=[0,1] from fun _ _=>rfl,wpOpsIn_cons]
  refine EF (d:=50) (u:=.int .i64 x) (w':=W) hT rfl rfl rfl (by simp) (by
   show Result.ok (Next.value (((a.tmps.setIfInBounds 49 (.int .i64 x)).setIfInBounds 5 (.int .i64 x)).getD 5 undef)) W=_
   rw[jA,if_pos ⟨rfl,by simp; omega⟩]) ?_
  rw[wpOpsIn_cons]
  refine EF (d:=51) (u:=.bool (x != 0)) (w':=W) hT rfl rfl rfl (by simp) (by
   show((do let u ←(do eqGuard .neq 35 (.tmp 50) (.const (.int .i64 0)) ((((a.tmps.setIfInBounds 49 (.int .i64 x)).setIfInBounds 5 (.int .i64 x)).setIfInBounds 50 (.int .i64 x)).getD 50 undef) (.int .i64 0); binOp .neq 35 ((((a.tmps.setIfInBounds 49 (.int .i64 x)).setIfInBounds 5 (.int .i64 x)).setIfInBounds 50 (.int .i64 x)).getD 50 undef) (.int .i64 0)); pure (.value u)):Sem Next).run Tryz.prog W=_;rw[jA,if_pos ⟨rfl,by simp; omega⟩]
   simp[eqGuard,binOp,Op.intCmp]) ?_
  show Code.wpIn (Fence.wide.inRound l) (2-1-1) Tryz.prog (Code.cond (.tmp 51) _ .skip) _ {tmps:=((((a.tmps.setIfInBounds 49 (.int .i64 x)).setIfInBounds 5 (.int .i64 x)).setIfInBounds 50 (.int .i64 x)).setIfInBounds 51 (.bool (x != 0))),defers:=[]} W;obtain⟨T,hTd⟩:∃T,T=((((a.tmps.setIfInBounds 49 (.int .i64 x)).setIfInBounds 5 (.int .i64 x)).setIfInBounds 50 (.int .i64 x)).setIfInBounds 51 (.bool (x != 0))):=⟨_,rfl⟩;rw[←hTd]
  have t51:T.getD 51 undef=.bool (x != 0):=by rw[hTd,jA,if_pos ⟨rfl,by simp; omega⟩]
  have t5:T.getD 5 undef=.int .i64 x:=by rw[hTd,jA,if_neg (by simp),jA,if_neg (by simp),jA,if_pos ⟨rfl,by simp; omega⟩]
  have t2:T.getD 2 undef=.pointer (some ⟨rb,0,none⟩):=by rw[hTd,jA,if_neg (by simp),jA,if_neg (by simp),jA,if_neg (by simp),jA,if_neg (by simp),h2]
  have tsz:78≤T.size:=by rw[hTd]; simpa using hsz
  clear hTd
  by_cases hx:x=0
  ·have e51:Act.eval {tmps:=T,defers:=[]} (.tmp 51)=.bool false:=t51.trans (by simp[hx]);refine wpIn_cond_false e51 (wpIn_skip ?_);simp only[Exit.inBlock,ownPostK];exact⟨KeepsOthers.refl _,Below.refl _ _,fun y hy=>(cW.1 hy).elim (h1 y) (fun h=>by rw[df] at h; rw[h,hx]),hbel⟩
  ·have e51:Act.eval {tmps:=T,defers:=[]} (.tmp 51)=.bool true:=t51.trans (by simp[hx]);refine wpIn_cond_true e51 (wpIn_seq (wpIn_region ?_));rw[show ∀o p:Oper,List.range (#[o,p]:Array Oper).size=[0,1] from fun _ _=>rfl,wpOpsIn_cons]
   have e5:(execOp (Act.eval {tmps:=T,defers:=[]}) {dst:=some 52,op:=.move (.tmp 5),type:=35,pos:=r,after:=#[],guard:=none}).run Tryz.prog W=.ok (.value (.int .i64 x)) W:=by
    show Result.ok (Next.value (T.getD 5 undef)) W=_;rw[t5]
   refine EF (d:=52) (u:=.int .i64 x) (w':=W) hT rfl rfl rfl (by simp) e5 ?_;rw[wpOpsIn_cons];have hW:W.heap[rb]?=some (.cells #[v0] e0 (0,0)):=(hbel.block rb hrl).trans hrb
   letI:ø:=⟨fun _=>False,[],none⟩
   have hst:=qI (P:=Tryz.prog) (w:=W) (t:=35) (u:=.int .i64 x) (n:=1) (b:=rb) (o:=0) (by kernel_rfl) rfl hW (by simp) (by simp[Value.cells,Value.oneCell'])
   have hst':(storeVar 35 ⟨rb,0,none⟩ (.int .i64 x)).run Tryz.prog W=.ok () (W.setRow rb #[.int .i64 x]):=by simpa[Value.cells] using hst
   have t52:(T.setIfInBounds 52 (.int .i64 x)).getD 52 undef=.int .i64 x:=by rw[jA,if_pos ⟨rfl,by omega⟩]
   have t2':(T.setIfInBounds 52 (.int .i64 x)).getD 2 undef=.pointer (some ⟨rb,0,none⟩):=by rw[jA,if_neg (by simp),t2]
   have e6:(execOp (Act.eval {tmps:=T.setIfInBounds 52 (.int .i64 x),defers:=[]}) {dst:=none,op:=.store 35 (.tmp 2) (.tmp 52),type:=0,pos:=r,after:=#[{on:=0,ground:=.data},{on:=0,ground:=.phase}],guard:=none}).run Tryz.prog W=.ok .skip (W.setRow rb #[.int .i64 x]):=by
    show((do Instr.storeAt 35 ((T.setIfInBounds 52 (.int .i64 x)).getD 2 undef) ((T.setIfInBounds 52 (.int .i64 x)).getD 52 undef); pure .skip):Sem Next).run Tryz.prog W=_;rw[t52,t2'];simp[Instr.storeAt,Instr.sureAddr,hst']
   refine agW (w':=W.setRow rb #[.int .i64 x]) hT rfl rfl rfl (by simp) e6 ?_;refine wpIn_ret ?_;simp only[Exit.inBlock,ownPostK];refine⟨⟨by simp,fun k o hk ho=>?_⟩,trivial,pre,x,rfl,h1,hx,hbel.os,hbel.tape,hbel.output,by simpa using hbel.size,fun k hk hne=>(setRow_other _ _ _ _ hne).trans (hbel.block k hk),⟨_,setRow_heap _ _ _ _ _ _ hW⟩⟩
   by_cases hk2:k=rb
   ·subst hk2; rw[hW] at hk; cases hk; simp[Obj.isCells] at ho
   ·rw[setRow_other _ _ _ _ hk2]; exact hk
 case hdone =>
  intro D xs W hD hS ⟨h1,hbel⟩ hDo;subst hS;exact hdone D W h1 hbel hD hDo
 case hstop =>
  intro D c pre W hD hS ⟨hc,pre',x,h3,h4,h5,h6⟩ hDo;subst hc;refine wpIn_ret (hstop D W x ?_ h6 hD hDo);obtain⟨t,rfl⟩:=hS;rw[h3,dk,List.find?_append]
  have:List.find? (fun e=>e != 0) pre'=none:=ez.2 fun y hy=>by simp[h4 y hy]
  rw[this];simp[h5]
end Go.Proofs.ZzM
end

noncomputable section
set_option maxRecDepth 100000
namespace Go.Proofs.ZzM
open Go Go.Am Go.RowKit
def fstC:Code→Code
 |.seq a _=>a
 |c=>c
def sndC:Code→Code
 |.seq _ b=>b
 |c=>c
def aiS:Nat→Code→Code
 |0,c=>fstC c
 |n+1,c=>aiS n (sndC c)
def amn:Nat→Code→Code
 |0,c=>c
 |n+1,c=>amn n (sndC c)
def ckB:Code:=Tryz.f66.body.getD .skip
def ckA5:Code:=fstC (amn 5 ckB |> fstC)
def ckRF:Code:=sndC (amn 5 ckB |> fstC)
def Vq:Code:=sndC (amn 5 ckB)
def ckPre:Code:=.seq (aiS 0 ckB) (.seq (aiS 1 ckB) (.seq (aiS 2 ckB) (.seq (aiS 3 ckB) (.seq (aiS 4 ckB) ckA5))))
def ans:Tryz.f66.body=some (.seq (aiS 0 ckB) (.seq (aiS 1 ckB) (.seq (aiS 2 ckB) (.seq (aiS 3 ckB) (.seq (aiS 4 ckB) (.seq (.seq ckA5 ckRF) Vq)))))):=by kernel_rfl
def ck_pt:List (Nat×Ù):=[(135,ED),(133,C5),(131,s8),(132,xF)]
def ckE (ρ:Type):Env ρ:=Ú ck_pt []
abbrev ckR:Type:=Int ⊕ (List AV×List Blk)
def aj7 (S:St):Option Int:=match pG Tryz.prog Tryz.f66 S with
 |some v=>Ć [tI] S.h v
 |none=>none
def ckK (e:Exit) (S:St):Option ckR:=match e with
 |.ret=>match aj7 S with
  |some n=>some (.inl n)
  |none=>none
 |.normal=>match decide (78≤S.t.length) with
  |true=>some (.inr ([lk S.t 1,lk S.t 2,lk S.t 48],S.h))
  |false=>none
 |_=>none
def ckH (x:Val Å) (s:Val (.map tI Ð)) (n:Int):List Blk :=
 [.cells (flat Å x),.cells [.int .i64 n],.cells (flat Å x),.cells [.mp tI Ð s],.cells [.fn (.func 188) [] [.box 3 0]]]
def ckM (x:Val Å):Option ckR :=
 Ä (Τ x.1 (0:Int) (1000000:Int)) fun r1=>ifb (!r1) (some (.inl 1)) (ifb (igt (Þ x.2.1) (12:Int)) (some (.inl 2)) (ifb (igt (Þ x.2.2.1) (40:Int)) (some (.inl 2)) (ifb (igt (Þ x.2.2.2.1) (12:Int)) (some (.inl 2)) (ifb (igt (Þ x.2.2.2.2.1) (40:Int)) (some (.inl 2)) (ifb (igt (Þ x.2.2.2.2.2) (10:Int)) (some (.inl 2))
  (Ä (Β x) fun r2=>ifb (ine r2 (0:Int)) (some (.inl r2)) (Ä (υ x) fun r3=>some (.inr ([.box 0 0,.box 1 0,.fn (.func 191) [] [.box 2 0,.box 4 0,.box 3 0]],ckH x r3 0)))))))))
def ck_pre (x:Val Å):goC (ckE ckR) (jZ (ckE ckR) 10) 66 [] 0 0 ckPre {t:=Ă [Å] x++List.replicate 77 .any,h:=[]} ckK=ckM x:=by kernel_rfl
def amA (ρ:Type):Env ρ:={ckE ρ with inl:=fun _=>false}
def ckS (x:Val Å):Option Int :=
 Ä (qv x) fun r5=>ifb (igt (Þ r5) (59:Int)) (some (2:Int)) (ck ((2:Int)*(Þ x.2.1)) fun n6=>ck ((Þ r5)-(Þ x.2.1)) fun n7=>ck ((2:Int)*n7) fun n8=>ck (n6+n8) fun n9=>ck ((2:Int)*(Þ x.2.2.2.2.1)) fun n10=>ck (n9+n10) fun n11=>ifb (igt n11 (300:Int)) (some (2:Int)) (some (0:Int)))
def ckK2 (e:Exit) (S:St):Option Int:=match e with
 |.ret=>match lk S.t 2 with
  |.box 1 0=>match lkB S.h 1 with
   |.cells [.int .i64 n]=>some n
   |_=>none
  |_=>none
 |_=>none
def ck_suf (x:Val Å) (s:Val (.map tI Ð)):goC (amA Int) (jZ (amA Int) 10) 66 [] 0 0 Vq {t:=[.any,.box 0 0,.box 1 0]++List.replicate 75 .any,h:=ckH x s 0} ckK2=ckS x:=by kernel_rfl
def amz (x:Val Å):ÿ x=match ckM x with
 |none=>none
 |some (.inl n)=>some n
 |some (.inr _)=>Ä (υ x) fun s=>ZD (nN x s) some (ckS x):=by
 unfold ÿ QI ckM ckS
 cases Τ x.1 (0:Int) (1000000:Int) with
 |none=>rfl
 |some r1 =>
 cases r1 with
 |false=>rfl
 |true =>
 simp only[Ä,ifb,eh]
 cases igt (Þ x.2.1) (12:Int) with
 |true=>rfl
 |false =>
 cases igt (Þ x.2.2.1) (40:Int) with
 |true=>rfl
 |false =>
 cases igt (Þ x.2.2.2.1) (12:Int) with
 |true=>rfl
 |false =>
 cases igt (Þ x.2.2.2.2.1) (40:Int) with
 |true=>rfl
 |false =>
 cases igt (Þ x.2.2.2.2.2) (10:Int) with
 |true=>rfl
 |false =>
 cases Β x with
 |none=>rfl
 |some r2 =>
 simp only
 cases ine r2 (0:Int) with
 |true=>rfl
 |false =>
 cases υ x with
 |none=>rfl
 |some r3=>rfl
def aom {x:Val Å} {q:List AV×List Blk} (h:ckM x=some (.inr q)):((x.2.2.1:List (Val Ã)).length≤1000∧(x.2.2.2.1:List (Val ō)).length≤1000∧(x.2.2.2.2.1:List (Val É)).length≤1000∧(x.2.2.2.2.2:List (Val Ã)).length≤1000) ∧
 ∃s,υ x=some s∧q=([.box 0 0,.box 1 0,.fn (.func 191) [] [.box 2 0,.box 4 0,.box 3 0]],ckH x s 0):=by
 unfold ckM at h
 cases h0:Τ x.1 (0:Int) (1000000:Int) with
 |none=>rw[h0] at h; cases h
 |some r1 =>
 rw[h0] at h
 cases r1 with
 |false=>cases h
 |true =>
 simp only[Ä,ifb,eh] at h
 cases h1:igt (Þ x.2.1) (12:Int) with
 |true=>rw[h1] at h; cases h
 |false =>
 rw[h1] at h
 cases h2:igt (Þ x.2.2.1) (40:Int) with
 |true=>rw[h2] at h; cases h
 |false =>
 rw[h2] at h
 cases h3:igt (Þ x.2.2.2.1) (12:Int) with
 |true=>rw[h3] at h; cases h
 |false =>
 rw[h3] at h
 cases h4:igt (Þ x.2.2.2.2.1) (40:Int) with
 |true=>rw[h4] at h; cases h
 |false =>
 rw[h4] at h
 cases h5:igt (Þ x.2.2.2.2.2) (10:Int) with
 |true=>rw[h5] at h; cases h
 |false =>
 rw[h5] at h
 cases h6:Β x with
 |none=>rw[h6] at h; cases h
 |some r2 =>
 rw[h6] at h;simp only at h
 cases h7:ine r2 (0:Int) with
 |true=>rw[h7] at h; cases h
 |false =>
 rw[h7] at h
 cases h8:υ x with
 |none=>rw[h8] at h; cases h
 |some r3 =>
 rw[h8] at h
 have lt:∀{α:Type} (l:List α) (n:Nat),igt (Þ l) (n:Int)=false→l.length≤n:=by
  intro α l n h;unfold Þ at h;rw[Oj] at h;simp only[igt,gt_iff_lt,decide_eq_false_iff_not] at h;omega
 simp only[Option.some.injEq,Sum.inr.injEq] at h;exact⟨⟨by have:=lt x.2.2.1 40 h2; omega,by have:=lt x.2.2.2.1 12 h3; omega,by have:=lt x.2.2.2.2.1 40 h4; omega,by have:=lt x.2.2.2.2.2 10 h5; omega⟩,r3,rfl,h.symm⟩
def EP {α β:Type} {f:α→Option β}:∀{l:List α} {m:List β},Oo f l=some m→m.length=l.length∧∀(i:Nat) (a:α),l[i]?=some a→∃b,m[i]?=some b∧f a=some b
 |[],m,h=>by cases h; exact⟨rfl,fun i a ha=>by simp at ha⟩
 |a::l,m,h=>by
  unfold Oo at h
  cases ha:f a with
  |none=>rw[ha] at h; cases h
  |some b =>
   rw[ha] at h
   cases hl:Oo f l with
   |none=>rw[hl] at h; cases h
   |some m' =>
    rw[hl] at h;cases h;obtain⟨h1,h2⟩:=EP hl;refine⟨by simp[h1],fun i c hc=>?_⟩
    cases i with
    |zero=>simp at hc; subst hc; exact⟨b,by simp,ha⟩
    |succ i=>simpa using h2 i c (by simpa using hc)
def M8 (l:List Int):upE (fun j=>l[j]?.getD 0) l.length=l:=by
 unfold upE;refine List.ext_getElem (by simp) fun i h1 h2=>?_;simp at h1;simp[h1]
def CR.below {n₀:Nat} {w W:World} {av:Nat→Prop} (hb:Below n₀ w W) (hn:w.heap.size≤n₀) {t:Ty} {x:Val t} {vs:List Value} (h:CR w av t x vs):CR W av t x vs :=
 h.keep fun b hlt ha=>⟨hb.block b (dw hlt hn),ha⟩
def NN {w:World} {av:Nat→Prop} {xs:List (Int×Int)} {v:Value} (h:CR w av (.slice Ã) xs [v]):∃base cap b off,v=.slice base xs.length cap∧(0<xs.length→base=some ⟨b,off,none⟩∧b<w.heap.size) ∧
 ∀j,j<xs.length→w.cell? ⟨b,off+j*2,none⟩=some (.int .i64 (xs[j]?.getD (0,0)).1)∧w.cell? ⟨b,off+j*2+1,none⟩=some (.int .i64 (xs[j]?.getD (0,0)).2):=by
 obtain⟨base,cap,e,hc,hx⟩:=h;cases e;rcases hx with hx|⟨b,off,hb,hav,hlt,hx⟩
 ·refine⟨base,cap,0,0,rfl,fun h=>?_,fun j hj=>?_⟩
  ·rw[show xs=[] from hx] at h; simp at h
  ·rw[show xs=[] from hx] at hj; simp at hj
 ·refine⟨base,cap,b,off,rfl,fun _=>⟨hb,hlt⟩,fun j hj=>?_⟩;obtain⟨us,h1,h2⟩:=hx j xs[j] (cN hj);obtain⟨u1,u2,e1,h3,h4⟩:=h1;have e3:u1=[.int .i64 xs[j].1]:=h3;have e4:u2=[.int .i64 xs[j].2]:=h4;subst e3 e4 e1;have s:(Ã).size=2:=rfl;rw[s] at h2;have c1:=h2 0 _ rfl;have c2:=h2 1 _ rfl;rw[cN hj];exact⟨by simpa using c1,by simpa[eX] using c2⟩
end Go.Proofs.ZzM
end

noncomputable section
set_option maxRecDepth 100000
namespace Go.Proofs.ZzM
open Go Go.Am Go.RowKit
section
variable {w W W':World}
abbrev noG:Nat→Prop:=fun _=>False
def Yn (w:World) (n:Int):kM w noG tI n (.int .i64 n):=⟨[.int .i64 n],rfl,rfl⟩
def an0 {sb:Nat} {mv:Value} {e:TypeId} {s:Val (.map tI Ð)} (h:w.heap[sb]?=some (.cells #[mv] e (0,0))) (hm:CR w noG (.map tI Ð) s [mv]):kM w noG (.ptr (.map tI Ð)) s (.pointer (some ⟨sb,0,none⟩)):=by
 letI:ø:=⟨fun _=>False,[],none⟩
 exact⟨[.pointer (some ⟨sb,0,none⟩)],⟨sb,0,[mv],rfl,id,Ė h,hm,Ō.of_cells h⟩,rfl⟩
def anL {y:Int} {u:Value} (h:RR w noG [tI] y u):u=.int .i64 y:=by
 obtain⟨us,h1,rfl⟩:=h;have:us=[.int .i64 y]:=h1;rw[this]; rfl
def amc (h1:∀b,b<W.heap.size→W'.heap[b]?=W.heap[b]?) (h2:W.heap.size≤W'.heap.size) (h3:W'.os=W.os) (h4:W'.tape=W.tape) (h5:W'.output=W.output):W.grownBy W' none :=
 ⟨h3,h4,h5,h2,fun b hb _=>h1 b hb⟩
def YH {f:Nat} {p:Ù} (hp:Ï Tryz.prog f p) (hrs:p.rs=[tI]) {x:Val (tyL p.ts)} {y:Int} (hF:p.F x=some (hrs▸(show Val (tyL [tI]) from y))) {vals:List Value} (ha:AL W noG p.ts x vals) :
 CallsIn Fence.wide 0 Tryz.prog f vals.toArray W fun e W''=>e=.returned (.int .i64 y)∧W.grownBy W'' none:=by
 obtain⟨ts,rs,F⟩:=p;dsimp only at hrs hF ha x;subst hrs;refine(hp noG x y hF W vals (fun _ h=>h.elim) ha).2.mono fun e w' ⟨u,h0,h1,h2,h3,h4,h5,h6⟩=>⟨?_,amc h2 h3 h4 h5 h6⟩;rw[h0,anL h1]
def Y9 {s:Val (.map tI Ð)} {a b y:Int} (hF:ņ a b s=some y) {sb:Nat} {mv:Value} {e:TypeId} (h:W.heap[sb]?=some (.cells #[mv] e (0,0))) (hm:CR W noG (.map tI Ð) s [mv]) :
 CallsIn Fence.wide 0 Tryz.prog 188 #[.int .i64 a,.int .i64 b,.pointer (some ⟨sb,0,none⟩)] W fun e W''=>e=.returned (.int .i64 y)∧W.grownBy W'' none :=
 YH aeK rfl (x:=(a,b,s)) (y:=y) hF (vals:=[.int .i64 a,.int .i64 b,.pointer (some ⟨sb,0,none⟩)]) ⟨_,_,rfl,Yn _ _,_,_,rfl,Yn _ _,_,rfl,an0 h hm⟩
def ai8 {mv:Value} {s:Val (.map tI Ð)} (hm:CR W noG (.map tI Ð) s [mv]):kM W noG (.map tI Ð) s mv:=⟨[mv],hm,rfl⟩
def agl {x:Val Å} {cs:Array Value} (hb:CR W noG Å x cs.toList):kM W noG Å x (.agg cs):=⟨cs.toList,hb,by show Value.agg cs=Value.agg cs.toList.toArray; rw[Array.toArray_toList]⟩
def ajk {x:Val Å} {s:Val (.map tI Ð)} {i y:Int} (hF:Ψ x s i=some y) {mv:Value} {cs:Array Value} (hb:CR W noG Å x cs.toList) (hm:CR W noG (.map tI Ð) s [mv]) :
 CallsIn Fence.wide 0 Tryz.prog 192 #[.agg cs,mv,.int .i64 i] W fun e W''=>e=.returned (.int .i64 y)∧W.grownBy W'' none :=
 YH YN rfl (x:=(x,s,i)) (y:=y) hF (vals:=[.agg cs,mv,.int .i64 i]) ⟨_,_,rfl,agl hb,_,_,rfl,ai8 hm,_,rfl,Yn _ _⟩
def acl {x:Val Å} {s:Val (.map tI Ð)} {i y:Int} (hF:ň x s i=some y) {mv:Value} {cs:Array Value} (hb:CR W noG Å x cs.toList) (hm:CR W noG (.map tI Ð) s [mv]) :
 CallsIn Fence.wide 0 Tryz.prog 193 #[.agg cs,mv,.int .i64 i] W fun e W''=>e=.returned (.int .i64 y)∧W.grownBy W'' none :=
 YH M3 rfl (x:=(x,s,i)) (y:=y) hF (vals:=[.agg cs,mv,.int .i64 i]) ⟨_,_,rfl,agl hb,_,_,rfl,ai8 hm,_,rfl,Yn _ _⟩
end
def pD {w:World} {av:Nat→Prop} {t:Ty} {xs:List (Val t)} {vs:List Value} (h:CR w av (.slice t) xs vs):∃base cap,vs=[.slice base xs.length cap]:=by
 obtain⟨base,cap,e,_⟩:=h;exact⟨base,cap,e⟩
def alD {x:Val Å} {s:Val (.map tI Ð)} {l1 l2 l3 l4:List Int} (h1:Oo (fun u=>ņ u.1 u.2 s) (x.2.2.1:List (Int×Int))=some l1) (h2:Oo (fun i=>Ψ x s i) (xu (x.2.2.2.1:List (Val ō)).length)=some l2)
 (h3:Oo (fun i=>ň x s i) (xu (x.2.2.2.2.1:List (Val É)).length)=some l3) (h4:Oo (fun u=>ņ u.1 u.2 s) (x.2.2.2.2.2:List (Int×Int))=some l4)
 (hlen:(x.2.2.1:List (Val Ã)).length≤1000∧(x.2.2.2.1:List (Val ō)).length≤1000∧(x.2.2.2.2.1:List (Val É)).length≤1000∧(x.2.2.2.2.2:List (Val Ã)).length≤1000)
 {w:World} {bb tb sb:Nat} {te te2 te3:TypeId} {cb:Array Value} {mv:Value} (hbb:w.heap[bb]?=some (.cells cb te (0,0))) (hbk:CR w noG Å x cb.toList) (htb:w.heap[tb]?=some (.cells #[.func (.func 188) #[] #[.pointer (some ⟨sb,0,none⟩)]] te2 (0,0)))
 (hsb:w.heap[sb]?=some (.cells #[mv] te3 (0,0))) (hmv:CR w noG (.map tI Ð) s [mv]) :
 SeqStopsK Fence.wide 1 Tryz.prog 191 #[.pointer (some ⟨bb,0,none⟩),.pointer (some ⟨tb,0,none⟩),.pointer (some ⟨sb,0,none⟩)] (fun x:Int=>#[.int .i64 x]) (Below w.heap.size) (fun xs=>xs=l1++(l2++(l3++l4))) (fun pre=>pre <+: (l1++(l2++(l3++l4)))) (l1++(l2++(l3++l4))).length w:=by
 intro l J Jx W hbel hJ hJx hY h0;obtain⟨fl,r0,e0,hfl,hr0⟩:=id hbk;obtain⟨ga,r1,e1,hga,hr1⟩:=hr0;obtain⟨us,r2,e2,hus,hr2⟩:=hr1;obtain⟨lo,r3,e3,hlo,hr3⟩:=hr2;obtain⟨co,ko,e4,hco,hko⟩:=hr3;obtain⟨f1,f2,e5,hf1,hf2⟩:=hfl;have e6:f1=[.int .i64 x.1.1]:=hf1;have e7:f2=[.int .i64 x.1.2]:=hf2;obtain⟨gab,gac,e8⟩:=pD hga;obtain⟨lob,loc,e9⟩:=pD hlo;obtain⟨cob,coc,e10⟩:=pD hco;obtain⟨usb0,usc0,e11⟩:=pD hus;obtain⟨kob0,koc0,e12⟩:=pD hko;rw[e11] at hus;rw[e12] at hko;obtain⟨usb,usc,ub,uo,e13,hub,hU⟩:=NN hus;obtain⟨kob,koc,kb,kof,e14,hkb,hK⟩:=NN hko;rw[e13] at e11;rw[e14] at e12
 have hcb:cb=#[.int .i64 x.1.1,.int .i64 x.1.2,.slice gab (x.2.1:List (Val Ð)).length gac,.slice usb (x.2.2.1:List (Val Ã)).length usc,.slice lob (x.2.2.2.1:List (Val ō)).length loc,.slice cob (x.2.2.2.2.1:List (Val É)).length coc,.slice kob (x.2.2.2.2.2:List (Val Ã)).length koc]:=by
  rw[←dT,e0,e1,e2,e3,e4,e5,e6,e7,e8,e9,e10,e11,e12];rfl
 obtain⟨g1,q1⟩:=EP h1;obtain⟨g2,q2⟩:=EP h2;obtain⟨g3,q3⟩:=EP h3;obtain⟨g4,q4⟩:=EP h4
 have gl2:l2.length=(x.2.2.2.1:List (Val ō)).length:=by rw[g2]; simp[xu]
 have gl3:l3.length=(x.2.2.2.2.1:List (Val É)).length:=by rw[g3]; simp[xu]
 have up1:upE (fun j=>l1[j]?.getD 0) (x.2.2.1:List (Val Ã)).length=l1:=by rw[←g1]; exact M8 l1
 have up2:upE (fun j=>l2[j]?.getD 0) (x.2.2.2.1:List (Val ō)).length=l2:=by rw[←gl2]; exact M8 l2
 have up3:upE (fun j=>l3[j]?.getD 0) (x.2.2.2.2.1:List (Val É)).length=l3:=by rw[←gl3]; exact M8 l3
 have up4:upE (fun j=>l4[j]?.getD 0) (x.2.2.2.2.2:List (Val Ã)).length=l4:=by rw[←g4]; exact M8 l4
 have at1:∀{xs:List (Int×Int)} {ls:List Int},(∀(i:Nat) (a:Int×Int),xs[i]?=some a→∃b,ls[i]?=some b∧ņ a.1 a.2 s=some b)→∀j,j<xs.length→ņ (xs[j]?.getD (0,0)).1 (xs[j]?.getD (0,0)).2 s=some (ls[j]?.getD 0):=by
  intro xs ls hq j hj;obtain⟨b,hb,hf⟩:=hq j xs[j] (cN hj);rw[cN hj,hb];exact hf
 have at2:∀{n:Nat} {ls:List Int} {f:Int→Option Int},(∀(i:Nat) (a:Int),(xu n)[i]?=some a→∃b,ls[i]?=some b∧f a=some b)→∀j,j<n→f (j:Int)=some (ls[j]?.getD 0):=by
  intro n ls f hq j hj;obtain⟨b,hb,hf⟩:=hq j j (by simp[xu,hj]);rw[hb]; exact hf
 have hbel':∀{W':World},Below w.heap.size W W'→Below w.heap.size w W':=fun h=>hbel.trans h;have hcell:∀{W':World} {p:Addr} {v:Value},Below w.heap.size w W'→w.cell? p=some v→p.block<w.heap.size→W'.cell? p=some v:=fun {W'} {p} {v} h hc hp=>(h.cell (p:=p) hp).trans hc;have lb:=Ė hbb;have lt:=Ė htb;have ls:=Ė hsb
 have:=alM te 1 (by omega) l w.heap.size bb tb sb (.int .i64 x.1.1) (.int .i64 x.1.2) (.slice gab (x.2.1:List (Val Ð)).length gac) mv lb lt ls
  ub uo (x.2.2.1:List (Val Ã)).length usc kb kof (x.2.2.2.2.2:List (Val Ã)).length koc usb kob lob cob (x.2.2.2.1:List (Val ō)).length loc (x.2.2.2.2.1:List (Val É)).length coc hub hkb
  (fun j=>(x.2.2.1:List (Int×Int))[j]?.getD (0,0)) (fun j=>(x.2.2.2.2.2:List (Int×Int))[j]?.getD (0,0)) (fun j=>l1[j]?.getD 0) (fun j=>l2[j]?.getD 0) (fun j=>l3[j]?.getD 0) (fun j=>l4[j]?.getD 0)
  hlen.1 hlen.2.1 hlen.2.2.1 hlen.2.2.2 W ((hbel.block bb lb).trans (by rw[hbb,hcb])) (hcell hbel (by simp[World.cell?,htb]) lt) (hcell hbel (by simp[World.cell?,hsb]) ls)
  (fun j hj=>⟨hcell hbel (hU j hj).1 (hub (by omega)).2,hcell hbel (hU j hj).2 (hub (by omega)).2⟩) (fun j hj=>⟨hcell hbel (hK j hj).1 (hkb (by omega)).2,hcell hbel (hK j hj).2 (hkb (by omega)).2⟩)
  (fun j hj W' hW=>Y9 (at1 q1 j hj) (((hbel' hW).block sb ls).trans hsb) (CR.below (hbel' hW) (cO _) hmv))
  (fun j hj W' hW=>Y9 (at1 q4 j hj) (((hbel' hW).block sb ls).trans hsb) (CR.below (hbel' hW) (cO _) hmv))
  (fun j hj W' hW=>ajk (at2 q2 j hj) (by have:=CR.below (hbel' hW) (cO _) hbk; rwa [hcb] at this) (CR.below (hbel' hW) (cO _) hmv))
  (fun j hj W' hW=>acl (at2 q3 j hj) (by have:=CR.below (hbel' hW) (cO _) hbk; rwa [hcb] at this) (CR.below (hbel' hW) (cO _) hmv))
  J Jx (fun pre W1 W2 hj hg=>hJ pre W1 W2 none hj hg (fun r e=>by cases e)) (fun pre W1 W2 hj hg=>hJx pre W1 W2 none hj hg (fun r e=>by cases e))
  (fun pre y W1 hj hl=>hY pre y W1 hj (by simp only[cR]; omega)) h0 hbel.size
 rw[up1,up2,up3,up4] at this;exact this
end Go.Proofs.ZzM
end

noncomputable section
set_option maxRecDepth 100000
namespace Go.Proofs.ZzM
open Go Go.Am Go.RowKit
section
variable [ø] {ρ:Type} {ν:Nat→Value} {w:World}
def peel (hq:ø.Q=none) {E:Env ρ} {call:List Nat→Bool→Nat→List AV→List Blk→(AV→List Blk→Option ρ)→Option ρ} {L:Nat} (hE:lR E L call) (hD:mc E L call) (hj:E.joins=fun _ _ _ _=>none) {fid:Nat} {path:List Nat} (hp:path.length+2=L) {x y c:Code} {bid n:Nat} {S:St} {K:Exit→St→Option ρ} {r:ρ} {a:Act} {Q:Exit→Act→World→Prop}
 (hL:∀z∈ó bid x,oA E path fid z.1 z.2) (e:goC E call fid path 0 bid (.seq x y) S K=some r) (H:Sim ν S a w)
 (hn:∀ν' S' a' w',Sim ν' S' a' w'→Ev 0 ν S.h w ν' S'.h w'→goC E call fid path 0 bid y S' K=some r→c.wpIn Fence.wide n E.P Q a' w')
 (hx:∀ν' S' a' w' e,e≠.normal→Sim ν' S' a' w'→Ev 0 ν S.h w ν' S'.h w'→K e S'=some r→Q e a' w'):(Code.seq x c).wpIn Fence.wide n E.P Q a w:=by
 simp only[goC,hj] at e;have hgo:=lH hE hD hp x bid S _ ν a w hL e H (ee _);rw[Hq hq] at hgo;refine wpIn_seq (wpIn_wide.2 (wpIn_wide.1 (wpIn_mono hgo fun e' a' w' ha=>?_)));obtain⟨ν',S',h1,h2,h3,h4,h5⟩:=ha
 cases e' with
 |normal=>exact hn ν' S' a' w' h1 h2 h5
 |exit id=>exact hx ν' S' a' w' _ (by simp) h1 h2 h5
 |goto l=>exact hx ν' S' a' w' _ (by simp) h1 h2 h5
 |ret=>exact hx ν' S' a' w' _ (by simp) h1 h2 h5
 |panic ch=>exact hx ν' S' a' w' _ (by simp) h1 h2 h5
 |outgrown=>exact hx ν' S' a' w' _ (by simp) h1 h2 h5
end
def aix {T:Array Value} {rb:Nat} {n:Int} {e:TypeId} {W:World} (h2:T.getD 2 undef=.pointer (some ⟨rb,0,none⟩)) (hc:W.heap[rb]?=some (.cells #[.int .i64 n] e (0,0))):(results Tryz.f66 T).run Tryz.prog W=.ok (.int .i64 n) W:=by
 letI:ø:=⟨fun _=>False,[],none⟩
 have hl:(loadVar 35 ⟨rb,0,none⟩).run Tryz.prog W=.ok (.int .i64 n) W:=by
  have:=uL (P:=Tryz.prog) (w:=W) (t:=35) (agg:=false) (n:=1) (by kernel_rfl) (us:=[.int .i64 n]) rfl (fun _=>rfl) (a:=⟨rb,0,none⟩) (fun j v hj=>by
   have:=Ō.of_cells hc j v (by simpa using hj)
   cases j with
   |zero=>simpa[Addr.add] using this
   |succ j=>simp at hj)
  exact this
 have hr:Tryz.f66.results=#[.cell 2 35]:=by kernel_rfl
 unfold results;rw[hr,Array.mapM_eq_mapM_toList];simp only[Sem.run_bind,Sem.run_map,List.mapM_cons,List.mapM_nil,h2,asAddr,Sem.run_pure,Result.andThen_ok,hl];rfl
def HR_ghost {G:Nat→Prop} {D D':List Deferred} {Q Q':Option Nat} {ν:Nat→Value} {h:List Blk} {w:World} (H:@HR ⟨G,D,Q⟩ ν h w):@HR ⟨G,D',Q'⟩ ν h w :=
 @HR.mk ⟨G,D',Q'⟩ ν h w (@HR.blk ⟨G,D,Q⟩ ν h w H) (@HR.inj ⟨G,D,Q⟩ ν h w H) (@HR.ghlt ⟨G,D,Q⟩ ν h w H) (@HR.ghne ⟨G,D,Q⟩ ν h w H)
def aot [ø] {ν:Nat→Value} {h:List Blk} {w:World} {x:Val Å} {us:List Value} (hv:ć (VRc ν h w) (flat Å x) us):CR w noG Å x us:=by
 have h1:ç Å (flat Å x)=some x:=rfl;have h2:ć (VRs w (Av ν h)) (flat Å x) us:=hv.mono fun c u hu=>hu.1.data;exact CR.mono (fun _ hf=>hf.elim) (Ű h1 h2)
def CM (G:Nat→Prop) (y:Int) (w:World) (e:Ending) (w':World):Prop :=
 ∃u,e=.returned u∧RR w' G [tI] y u∧(∀b,b<w.heap.size→w'.heap[b]?=w.heap[b]?)∧w.heap.size≤w'.heap.size∧w'.os=w.os∧w'.tape=w.tape∧w'.output=w.output
def af8 {G:Nat→Prop} {y:Int} {w0 w:World} {a:Act} {D rb:Nat} {e:TypeId} (hd:a.defers=[afK D]) (hD:w.heap[D]?=some (.deferred (some []))) (h2:a.tmps.getD 2 undef=.pointer (some ⟨rb,0,none⟩)) (hc:w.heap[rb]?=some (.cells #[.int .i64 y] e (0,0)))
 (hb:∀b,b<w0.heap.size→w.heap[b]?=w0.heap[b]?) (hDl:w0.heap.size≤D) (hsz:w0.heap.size≤w.heap.size) (h3:w.os=w0.os) (h4:w.tape=w0.tape) (h5:w.output=w0.output):LeavesInM Fence.wide 2 Tryz.prog Tryz.f66 a.tmps (CM G y w0) a.defers .returning w:=by
 rw[hd]
 have hne:rb≠D:=fun h=>by rw[h,hD] at hc; cases hc
 have ho:∀b,b≠D→(w.putObj D (.deferred none)).heap[b]?=w.heap[b]?:=fun b hb=>by
  simp only[World.putObj,fc];rw[if_neg (fun h=>hb h.symm)]
 refine⟨by simp,.inl ⟨D,_,rfl,run_takeDeferred hD,?_⟩⟩;refine⟨.int .i64 y,aix h2 ((ho rb hne).trans hc),.int .i64 y,rfl,⟨[.int .i64 y],rfl,rfl⟩,fun b hlt=>(ho b (by omega)).trans (hb b hlt),by simpa[World.putObj] using hsz,h3,h4,h5⟩
def aon (S:St):ckK .ret S=(aj7 S).map .inl:=by
 unfold ckK
 cases aj7 S<;>rfl
def ahB (S:St):ckK .normal S=if decide (78≤S.t.length)=true then some (.inr ([lk S.t 1,lk S.t 2,lk S.t 48],S.h)) else none:=by
 unfold ckK
 cases decide (78≤S.t.length)<;>rfl
def ju [ø] {ρ:Type} {E:Env ρ} (h0:E.loops=oQ []) {path:List Nat} {fid bid:Nat} {b:Code}:oA E path fid bid b:=fun m S K r ν a w e=>by
 rw[h0] at e;cases e
def anP:Code→String
 | .region _ ops _ => ((ops[0]?).map fun o => o.pos).getD ""
 | _ => ""
def rfA:Code→Code
 |.block _ (.rangeFunc _ _ a _)=>a
 |_=>.skip
def rfB:Code→Code
 |.block _ (.rangeFunc _ _ _ (.block _ (.seq a _)))=>a
 |_=>.skip
def rfC:Code→Code
 |.block _ (.rangeFunc _ _ _ (.block _ (.seq _ (.cond _ (.seq a _) _))))=>a
 |_=>.skip
def aol:ckRF=Code.block 0 (Code.rangeFunc (.tmp 48) #[49] (afo (anP (rfA ckRF))) (ana (anP (rfB ckRF)) (anP (rfC ckRF)))):=by kernel_rfl
def anr:∀e∈ck_pt,Ï Tryz.prog e.1 e.2:=Á RB (Á RA (Á AR (Á RD Ç)))
def aj8 {e:Exit} {S:St} {n:Int} (h:ckK2 e S=some n):e=.ret∧lk S.t 2=.box 1 0∧lkB S.h 1=.cells [.int .i64 n]:=by
 unfold ckK2 at h
 split at h
 ·split at h
  ·rename_i h2
   split at h
   ·rename_i h3;cases h;exact⟨rfl,h2,h3⟩
   ·cases h
  ·cases h
 ·cases h
def abU [ø] {ν:Nat→Value} {h:List Blk} {w:World} {n:Int} {id:Nat} (H:HR ν h w) (hl:lkB h id=.cells [.int .i64 n]):∃b e,ν id=.pointer (some ⟨b,0,none⟩)∧w.heap[b]?=some (.cells #[.int .i64 n] e (0,0)):=by
 have hB:=H.blk id;rw[hl] at hB;obtain⟨b,c,e,h1,h2,h3⟩:=hB;obtain⟨u,h4,h5⟩:=h3.one;have h6:u=.int .i64 n:=h5.1;refine⟨b,e,h1,?_⟩;rw[h2]
 have:c=#[.int .i64 n]:=by rw[←dT,h4,h6]
 rw[this]
def zP [ø] {ν:Nat→Value} {h:List Blk} {w:World} {id off:Nat} {v:Value} {b:Nat} (hv:VR ν h w (.box id off) v) (hb:ν id=.pointer (some ⟨b,0,none⟩)):v=.pointer (some ⟨b,off,none⟩):=by
 obtain⟨cs,b',h1,h2,h3⟩:=hv;rw[hb] at h2;cases h2;exact h3
def aok {G:Nat→Prop} {x:Val Å} {s:Val (.map tI Ð)} {y:Int} (hS:ckS x=some y) {ν:Nat→Value} {w0 w6 W:World} {a:Act} {D:Nat} (H:@HR ⟨G,[],none⟩ ν (ckH x s 0) w6) (hb:Below w6.heap.size w6 W) (hD:w6.heap.size≤D) (hDo:W.heap[D]?=some (.deferred (some []))) (hd:a.defers=[afK D]) (hlen:78≤a.tmps.size)
 (t1:@VR ⟨G,[],none⟩ ν (ckH x s 0) w6 (.box 0 0) (a.tmps.getD 1 undef)) (t2:@VR ⟨G,[],none⟩ ν (ckH x s 0) w6 (.box 1 0) (a.tmps.getD 2 undef))
 (h0:∀b,b<w0.heap.size→w6.heap[b]?=w0.heap[b]?∧¬aeX ν (ckH x s 0) b) (hsz:w0.heap.size≤w6.heap.size) (h3:w6.os=w0.os) (h4:w6.tape=w0.tape) (h5:w6.output=w0.output) :
 Vq.wpIn Fence.wide 2 Tryz.prog (bodyPostM Fence.wide 2 Tryz.prog Tryz.f66 (CM G y w0)) a W:=by
 have hlive:∀b,aeX ν (ckH x s 0) b→b<w6.heap.size:=fun b hl=>@HR.ltA ⟨G,[],none⟩ _ _ _ H b (.inl hl)
 have t1':∃b,ν 0=.pointer (some ⟨b,0,none⟩)∧a.tmps.getD 1 undef=.pointer (some ⟨b,0,none⟩):=by
  obtain⟨cs,b,_,h2,h3⟩:=t1;exact⟨b,h2,h3⟩
 have t2':∃b,ν 1=.pointer (some ⟨b,0,none⟩)∧a.tmps.getD 2 undef=.pointer (some ⟨b,0,none⟩):=by
  obtain⟨cs,b,_,h2,h3⟩:=t2;exact⟨b,h2,h3⟩
 letI:ø:=⟨G,[afK D],none⟩
 have H1:HR ν (ckH x s 0) w6:=HR_ghost H;have H2:HR ν (ckH x s 0) W:=(H1.grow (fun b hlt=>hb.block b hlt) hb.size hb.os hb.tape hb.output 0).2;have hlib:M6 (amA Int):=QM anr (amA Int) rfl rfl rfl rfl rfl (ig rfl);have hdraw:∀L call,lR (amA Int) L call→mc (amA Int) L call:=D2 hmix;have hl0:(amA Int).loops=oQ []:=rfl;have hcall:=mM (.inr fun _=>rfl) hlib hdraw (fun n hn hE path f fn c _ _ _ z _=>ju hl0) 10 (cO _);have hEnv:lR (amA Int) 2 (jZ (amA Int) 10):=⟨.inr (qy 9),hcall,hlib.plain,hlib.clone,hlib.joins⟩;have law:=ck_suf x s;rw[hS] at law
 have sim:Sim ν {t:=[.any,.box 0 0,.box 1 0]++List.replicate 75 .any,h:=ckH x s 0} a W:=by
  refine⟨hd,by simpa using hlen,fun i=>?_,H2⟩;simp only[QK];rcases i with _|_|_|i
  ·trivial
  ·obtain⟨b,g1,g2⟩:=t1';exact⟨_,b,rfl,g1,g2⟩
  ·obtain⟨b,g1,g2⟩:=t2';exact⟨_,b,rfl,g1,g2⟩
  ·trivial
 refine wpIn_wide.2 (wpIn_wide.1 (wpIn_mono (lH hEnv (hdraw _ _ hEnv) rfl Vq 0 _ _ ν a W (fun z _=>ju hl0) law sim (ee _)) fun e a' w' ha=>?_));obtain⟨ν',S',g1,g2,_,_,g5⟩:=ha;obtain⟨rfl,k2,k3⟩:=aj8 g5;obtain⟨rb,te,r1,r2⟩:=abU g1.heap k3;have r3:=g1.tmps 2;rw[k2] at r3;have r4:=zP r3 r1;have hDlt:=Ė hDo;refine af8 (w:=w') (a:=a') (G:=G) (y:=y) (w0:=w0) (D:=D) (rb:=rb) g1.defers ((g2.keep D hDlt fun hl=>by have:=hlive D hl; omega).1.trans hDo) r4 r2 (fun b hlt=>?_) (by omega) (by have:=g2.size; have:=hb.size; omega) (g2.os.trans (hb.os.trans h3)) (g2.tape.trans (hb.tape.trans h4)) (g2.output.trans (hb.output.trans h5));have h01:=h0 b hlt
 have hlt6:b<w6.heap.size:=by omega
 have hltW:b<W.heap.size:=by have:=hb.size; omega
 exact(g2.keep b hltW h01.2).1.trans ((hb.block b hlt6).trans h01.1)
set_option maxHeartbeats 2000000 in
def ahC (G:Nat→Prop) (x:Val Å) (y:Int) (hF':ÿ x=some y) (w:World) (vals:List Value) (hG:∀b,G b→b<w.heap.size) (hAL:AL w G [Å] x vals) :
 (∃fn c,Tryz.prog.funcs[66]?=some fn∧fn.body=some c)∧CallsIn Fence.wide 0 Tryz.prog 66 vals.toArray w (CM G y w):=by
 rw[amz] at hF'
 letI:ø:=⟨G,[],none⟩
 have hpt:=anr;have hlib:M6 (ckE ckR):=QM hpt (ckE ckR) rfl rfl rfl rfl rfl (ig rfl);have hdraw:∀L call,lR (ckE ckR) L call→mc (ckE ckR) L call:=D2 hmix;have h0:(ckE ckR).loops=oQ []:=rfl;have hcall:=mM (.inl ⟨rfl,rfl⟩) hlib hdraw (fun n hn hE path f fn c _ _ _ z _=>ju h0) 10 (cO _);have hEnv:lR (ckE ckR) 2 (jZ (ckE ckR) 10):=⟨.inr (qy 9),hcall,hlib.plain,hlib.clone,hlib.joins⟩;have hD:=hdraw _ _ hEnv;have H:HR (fun _=>undef) [] w:=⟨fun _=>trivial,fun _ _ _ h=>(by cases h),hG,fun _ _ h=>(by cases h)⟩;have hav:∀b,Av (fun _=>undef) [] b→G b:=fun b hb=>hb.elim (fun⟨_,h,_⟩=>by cases h) id;have hargs:ć (VR (fun _=>undef) [] w) (Ă [Å] x) vals:=AL.VR (hAL.mono hav);refine⟨⟨Tryz.f66,_,Tryz.func66,ans⟩,?_⟩
 have hlen:vals.length=1:=by
  have:=hargs.length;simpa[Ă,ajT] using this.symm
 cases hM:ckM x with
 |none=>rw[hM] at hF'; cases hF'
 |some r0 =>
 rw[hM] at hF';have law:=ck_pre x;rw[hM] at law;refine callsIn_wide.2 (callsIn_wide.1 (callsIn_of_wp_marks (n:=2) Tryz.func66 ans trivial ?_ (R:=CM G y w)))
 have hS:Sim (fun _=>undef) {t:=Ă [Å] x++List.replicate 77 .any,h:=[]} {tmps:=vals.toArray++Array.replicate (Tryz.f66.ntmps-vals.toArray.size) undef,defers:=[]} w:=by
  refine⟨rfl,?_,fun i=>?_,H⟩
  ·have:Tryz.f66.ntmps=78:=by kernel_rfl
   have hl2:(Ă [Å] x).length=1:=rfl;simp[this,hlen,hl2]
  ·simp only[QK];rcases du i (Ă [Å] x).length with hi|hi
   ·have:=ć.lk (R:=VR (fun _=>undef) [] w) (fun _=>trivial) i hargs
    have hv:i<vals.length:=by rw[←hargs.length]; exact hi
    have h2:(vals.toArray++Array.replicate (Tryz.f66.ntmps-vals.toArray.size) undef).getD i undef=vals.getD i undef:=by
     simp[dO,eT,hv]
    rw[h2]; exact this
   ·rw[ajo _ _ hi]; trivial
 -- the ways out ahead of the loop
 have out:∀ν' S' a' w' e,e≠.normal→Sim ν' S' a' w'→Ev 0 (fun _=>undef) [] w ν' S'.h w'→ckK e S'=some r0→bodyPostM Fence.wide 2 Tryz.prog Tryz.f66 (CM G y w) e a' w':=by
  intro ν' S' a' w' e hne hS' hE' hk
  cases e with
  |normal=>exact(hne rfl).elim
  |ret =>
   rw[aon] at hk
   cases hr:aj7 S' with
   |none=>rw[hr] at hk; cases hk
   |some n =>
    rw[hr,dP] at hk;cases hk
    have hyn:n=y:=by simpa using hF'
    subst hyn;unfold aj7 at hr
    split at hr
    ·rename_i v hv;obtain⟨u,q1,q2⟩:=Ih hS' hv;show LeavesInM _ _ _ _ _ _ a'.defers _ _;rw[show a'.defers=[] from hS'.defers];exact⟨u,q1,u,rfl,VV hS'.heap [tI] q2 hr,fun b hb=>(hE'.keep b hb fun⟨_,h,_⟩=>by cases h).1,hE'.size,hE'.os,hE'.tape,hE'.output⟩
    ·cases hr
  |exit id=>cases hk
  |goto l=>cases hk
  |panic ch=>cases hk
  |outgrown=>cases hk
 have outT:∀{ν₁:Nat→Value} {h₁:List Blk} {w₁:World},Ev 0 (fun _=>undef) [] w ν₁ h₁ w₁→∀ν' S' a' w' e,e≠.normal→Sim ν' S' a' w'→Ev 0 ν₁ h₁ w₁ ν' S'.h w'→ckK e S'=some r0→bodyPostM Fence.wide 2 Tryz.prog Tryz.f66 (CM G y w) e a' w' :=
  fun hE ν' S' a' w' e hne hS' hE' hk=>out ν' S' a' w' e hne hS' (hE.trans hE' (cO _)) hk
 refine peel rfl hEnv hD rfl rfl (fun z _=>ju h0) law hS (fun ν1 S1 a1 w1 s1 e1 k1=>?_) out;refine peel rfl hEnv hD rfl rfl (fun z _=>ju h0) k1 s1 (fun ν2 S2 a2 w2 s2 e2 k2=>?_) (outT e1);have t2:=e1.trans e2 (cO _);refine peel rfl hEnv hD rfl rfl (fun z _=>ju h0) k2 s2 (fun ν3 S3 a3 w3 s3 e3 k3=>?_) (outT t2);have t3:=t2.trans e3 (cO _);refine peel rfl hEnv hD rfl rfl (fun z _=>ju h0) k3 s3 (fun ν4 S4 a4 w4 s4 e4 k4=>?_) (outT t3);have t4:=t3.trans e4 (cO _);refine peel rfl hEnv hD rfl rfl (fun z _=>ju h0) k4 s4 (fun ν5 S5 a5 w5 s5 e5 k5=>?_) (outT t4);have t5:=t4.trans e5 (cO _);refine wpIn_seq (wpIn_seq (wpIn_wide.2 (wpIn_wide.1 (wpIn_mono (lH hEnv hD rfl ckA5 0 S5 _ ν5 a5 w5 (fun z _=>ju h0) k5 s5 (ee _)) fun e' a6 w6 ha=>?_))));obtain⟨ν,S,s6,e6,_,_,k6⟩:=ha;have t6:=t5.trans e6 (cO _)
 have other:∀e,e≠.normal→ckK e S=some r0→Exit.then (Code.wpIn Fence.wide 2 Tryz.prog Vq (bodyPostM Fence.wide 2 Tryz.prog Tryz.f66 (CM G y w))) (bodyPostM Fence.wide 2 Tryz.prog Tryz.f66 (CM G y w)) e a6 w6:=by
  intro e hne hk;have:=out ν S a6 w6 e hne s6 t6 hk
  cases e<;>first|exact(hne rfl).elim|exact this
 cases e' with
 |exit id=>exact other _ (by simp) k6
 |goto l=>exact other _ (by simp) k6
 |ret=>exact other _ (by simp) k6
 |panic ch=>exact other _ (by simp) k6
 |outgrown=>exact other _ (by simp) k6
 |normal =>
 clear other;rw[ahB] at k6
 split at k6<;>try (cases k6; done)
 rename_i h78
 have h78':78≤S.t.length:=by simpa using h78
 cases k6;obtain⟨hlens,s,hs,hq⟩:=aom hM;simp only[Prod.mk.injEq,List.cons.injEq,and_true] at hq;obtain⟨⟨q1,q2,q48⟩,qh⟩:=hq
 have hF2:ZD (nN x s) some (ckS x)=some y:=by
  simp only at hF';rw[hs] at hF';exact hF'
 -- what the errors are
 obtain⟨L,hL,hLy⟩:∃L,nN x s=some L∧(match L.find? (fun e=>e != 0) with|some e=>some e|none=>ckS x)=some y:=by
  unfold ZD at hF2
  cases hl:nN x s with
  |none=>rw[hl] at hF2; cases hF2
  |some L=>rw[hl] at hF2; exact⟨L,rfl,hF2⟩
 obtain⟨l1,l2,l3,l4,m1,m2,m3,m4,rfl⟩:∃l1 l2 l3 l4,Oo (fun u=>ņ u.1 u.2 s) (x.2.2.1:List (Int×Int))=some l1∧Oo (fun i=>Ψ x s i) (xu (x.2.2.2.1:List (Val ō)).length)=some l2 ∧
  Oo (fun i=>ň x s i) (xu (x.2.2.2.2.1:List (Val É)).length)=some l3∧Oo (fun u=>ņ u.1 u.2 s) (x.2.2.2.2.2:List (Int×Int))=some l4∧L=l1++(l2++(l3++l4)):=by
  unfold nN at hL
  cases m1:Oo (fun u=>ņ u.1 u.2 s) (x.2.2.1:List (Int×Int)) with
  |none=>rw[m1] at hL; cases hL
  |some l1 =>
  rw[m1] at hL
  cases m2:Oo (fun i=>Ψ x s i) (xu (x.2.2.2.1:List (Val ō)).length) with
  |none=>simp only[Ä,m2] at hL; cases hL
  |some l2 =>
  cases m3:Oo (fun i=>ň x s i) (xu (x.2.2.2.2.1:List (Val É)).length) with
  |none=>simp only[Ä,m2,m3] at hL; cases hL
  |some l3 =>
  cases m4:Oo (fun u=>ņ u.1 u.2 s) (x.2.2.2.2.2:List (Int×Int)) with
  |none=>simp only[Ä,m2,m3,m4] at hL; cases hL
  |some l4 =>
  simp only[Ä,m2,m3,m4] at hL;cases hL;exact⟨l1,l2,l3,l4,rfl,rfl,rfl,rfl,rfl⟩
 -- the blocks
 obtain⟨T,Hh⟩:=S;dsimp only at q1 q2 q48 qh h78';subst qh;have p1:=s6.tmps 1;have p2:=s6.tmps 2;have p48:=s6.tmps 48;dsimp only at p1 p2 p48;rw[q1] at p1;rw[q2] at p2;rw[q48] at p48;obtain⟨rb,te1,n1,hrb⟩:=abU (id:=1) (n:=0) s6.heap rfl;have hB2:BR ν (ckH x s 0) w6 2 (.cells (flat Å x)):=s6.heap.blk 2;have hB3:BR ν (ckH x s 0) w6 3 (.cells [.mp tI Ð s]):=s6.heap.blk 3;have hB4:BR ν (ckH x s 0) w6 4 (.cells [.fn (.func 188) [] [.box 3 0]]):=s6.heap.blk 4;obtain⟨bb,cb,te,n2,hbb,hb2⟩:=hB2;obtain⟨sb,cs3,te3,n3,hsb,hb3⟩:=hB3;obtain⟨tb,cs4,te2,n4,htb,hb4⟩:=hB4;obtain⟨mv,z3,hm3⟩:=hb3.one;obtain⟨fv,z4,hm4⟩:=hb4.one;have hmv:CR w6 noG (.map tI Ð) s [mv]:=CR.mono (fun _ hf=>hf.elim) (show CR w6 (Av ν (ckH x s 0)) (.map tI Ð) s [mv] from hm3.1)
 have hc3:cs3=#[mv]:=by rw[←dT,z3]
 have hfv:fv=.func (.func 188) #[] #[.pointer (some ⟨sb,0,none⟩)]:=by
  obtain⟨fs,cs,h1,h2,h3⟩:=hm4.1
  have e1:fs=#[]:=by rw[←dT]; exact h2.nil_left
  obtain⟨u,e2,h4⟩:=h3.one;have e3:u=.pointer (some ⟨sb,0,none⟩):=zP (w:=w6) (id:=3) (off:=0) h4 n3
  have e4:cs=#[.pointer (some ⟨sb,0,none⟩)]:=by rw[←dT,e2,e3]
  rw[h1,e1,e4]
 have hc4:cs4=#[fv]:=by rw[←dT,z4]
 rw[hc3] at hsb;rw[hc4,hfv] at htb
 have hg:a6.tmps.getD 48 undef=.func (.func 191) #[] #[.pointer (some ⟨bb,0,none⟩),.pointer (some ⟨tb,0,none⟩),.pointer (some ⟨sb,0,none⟩)]:=by
  obtain⟨fs,cs,h1,h2,h3⟩:=p48
  have e1:fs=#[]:=by rw[←dT]; exact h2.nil_left
  have hl:=h3.length
  obtain⟨u1,u2,u3,e2⟩:∃u1 u2 u3,cs.toList=[u1,u2,u3]:=by
   rcases hcs:cs.toList with _|⟨u1,_|⟨u2,_|⟨u3,_|⟨u4,t⟩⟩⟩⟩<;>rw[hcs] at hl<;>simp at hl
   exact⟨u1,u2,u3,rfl⟩
  rw[e2] at h3;have e3:u1=.pointer (some ⟨bb,0,none⟩):=zP (w:=w6) (id:=2) (off:=0) h3.1 n2;have e4:u2=.pointer (some ⟨tb,0,none⟩):=zP (w:=w6) (id:=4) (off:=0) h3.2.1 n4;have e5:u3=.pointer (some ⟨sb,0,none⟩):=zP (w:=w6) (id:=3) (off:=0) h3.2.2.1 n3;rw[h1,e1];congr 1;rw[←dT,e2,e3,e4,e5]
 have hseq:=alD m1 m2 m3 m4 hlens hbb (aot hb2) htb hsb hmv;have h2:=zP p2 n1;have hsz:78≤a6.tmps.size:=dC h78' s6.len
 have hkeep:∀b,b<w.heap.size→w6.heap[b]?=w.heap[b]?∧¬aeX ν (ckH x s 0) b:=fun b hb=>t6.keep b hb fun⟨_,h,_⟩=>by cases h
 have hdef:a6.defers=[]:=s6.defers;show ckRF.wpIn Fence.wide 2 Tryz.prog (Exit.then (Vq.wpIn Fence.wide 2 Tryz.prog (bodyPostM Fence.wide 2 Tryz.prog Tryz.f66 (CM G y w))) (bodyPostM Fence.wide 2 Tryz.prog Tryz.f66 (CM G y w))) a6 w6;rw[aol];refine wpIn_block (anK hseq hg h2 hsz hrb (fun D W hall hbel hDl hDo=>?_) (fun D W z hz hput hDl hDo=>?_))
 ·have hck:ckS x=some y:=by
   have:(l1++(l2++(l3++l4))).find? (fun e=>e != 0)=none:=ez.2 fun z hz=>by rw[hall z hz]; simp
   rw[this] at hLy;exact hLy
  exact aok (s:=s) hck s6.heap hbel hDl hDo (by show afK D::a6.defers=_; rw[hdef]) hsz p1 p2 hkeep t6.size t6.os t6.tape t6.output
 ·have hzy:z=y:=by
   rw[hz] at hLy;simpa using hLy
  subst hzy;obtain⟨te5,hcell⟩:=hput.cell;have hlb:=Ė hrb;have hlive:aeX ν (ckH x s 0) rb:=⟨1,rfl,by rw[n1]; rfl⟩
  exact af8 (a:={a6 with defers:=afK D::a6.defers}) (w:=W) (by show afK D::a6.defers=_; rw[hdef]) hDo h2 hcell
   (fun b hb=>(hput.block b (by have:=t6.size; omega) (fun e=>(hkeep b hb).2 (e▸hlive))).trans (hkeep b hb).1) (by have:=t6.size; omega) (by have:=t6.size; have:=hput.size; omega) (hput.os.trans t6.os) (hput.tape.trans t6.tape) (hput.output.trans t6.output)
def Ū:Ï Tryz.prog 66 ŧ:=fun G x y hF w vals hG hAL=>ahC G x y hF w vals hG hAL
end Go.Proofs.ZzM
end

noncomputable section
set_option maxRecDepth 100000
namespace Go.Proofs.ZzM
open Go Go.Am Go.RowKit
abbrev cP:Type:=Val (tyL iW)
abbrev cV:Type:=Val (tyL mC)
abbrev cS (p:cP) (v:cV):St:=jb tp iW mC p v
abbrev cU (p:cP) (v:cV) (x:Val Ð):St:=jb PH iW Ag p (Dy v x)
def amt (im:List (Int×Bool)) (n:Int):ol Tryz.prog [.map tI .bool im] 184 (.omp 0) (.int .i64 n) false some=(match (ta (k:=tI) (v:=.bool) n im:Option Bool) with|some y=>some (.bool y)|none=>some (.bool false)):=by kernel_rfl
noncomputable def MapAt (W:World) (mb:Nat) (im:List (Int×Bool)):Prop:=∃(entries:Array MapEntry) (clock:Nat),W.heap[mb]?=some (.map entries clock)∧entries.size=im.length∧∀(i:Nat) (e:Int×Bool),im[i]?=some e→∃m,entries[i]?=some m∧m.key=.int .i64 e.1∧m.val=.bool e.2
noncomputable def LY (im:List (Int×Bool)) (n:Int):Bool:=((ta (k:=tI) (v:=.bool) n im:Option Bool)).getD false
def alZ {W:World} {mb:Nat} {im:List (Int×Bool)} (h:MapAt W mb im) (n:Int):(Instr.lookup 184 (.map (some mb)) (.int .i64 n) false).run Tryz.prog W=.ok (.bool (LY im n)) W:=by
 letI:ø:=⟨fun _=>False,[],none⟩
 obtain⟨entries,clock,h1,h2,h3⟩:=h
 have H:HR (fun _=>.map (some mb)) [.map tI .bool im] W:=by
  refine⟨fun id=>?_,fun i j b hi hj _ _=>?_,fun b hb=>hb.elim,fun id b _ _ hb=>hb.elim⟩
  ·rcases id with _|id
   ·refine⟨mb,entries,clock,rfl,h1,h2,fun i e he=>?_⟩;obtain⟨m,q1,q2,q3⟩:=h3 i e he;exact⟨m,[.bool e.2],q1,by rw[q2]; rfl,rfl,by rw[q3]; rfl⟩
   ·rw[U1 _ _ (by simp)]; trivial
  ·have one:∀i,(lkB [Blk.map tI .bool im] i).live=true→i=0:=fun i hi=>by
    rcases i with _|i
    ·rfl
    ·rw[U1 _ _ (by simp)] at hi; cases hi
   rw[one i hi,one j hj]
 have hom:VR (fun _=>.map (some mb)) [.map tI .bool im] W (.omp 0) (.map (some mb)):=⟨rfl,_,_,_,rfl,rfl⟩
 have hk:ol Tryz.prog [.map tI .bool im] 184 (.omp 0) (.int .i64 n) false some=some (.bool (LY im n)):=by
  rw[amt];unfold LY
  cases(ta (k:=tI) (v:=.bool) n im:Option Bool)<;>rfl
 obtain⟨u,q1,q2⟩:=abK H hk hom (ui:=.int .i64 n) rfl;rw[q1];have:u=.bool (LY im n):=q2;rw[this]
noncomputable def gz (l:List (Val Ð)) (j:Nat):Val Ð:=l[j]?.getD (0,0,0,(0,0),(0,0),0)
def aen {w:World} {av:Nat→Prop} {g:Val Ð} {us:List Value} (h:CR w av Ð g us) :
 us=[.int .i64 g.1,.int .i64 g.2.1,.int .i64 g.2.2.1,.int .i64 g.2.2.2.1.1,.int .i64 g.2.2.2.1.2,.int .i64 g.2.2.2.2.1.1,.int .i64 g.2.2.2.2.1.2,.int .i64 g.2.2.2.2.2]:=by
 obtain⟨a1,r1,rfl,h1,a2,r2,rfl,h2,a3,r3,rfl,h3,a4,r4,rfl,⟨b1,b2,rfl,h4,h5⟩,⟨b3,r5,rfl,⟨b5,b6,rfl,h6,h7⟩,h8⟩⟩:=h;have e1:a1=[.int .i64 g.1]:=h1;have e2:a2=[.int .i64 g.2.1]:=h2;have e3:a3=[.int .i64 g.2.2.1]:=h3;have e4:b1=[.int .i64 g.2.2.2.1.1]:=h4;have e5:b2=[.int .i64 g.2.2.2.1.2]:=h5;have e6:b5=[.int .i64 g.2.2.2.2.1.1]:=h6;have e7:b6=[.int .i64 g.2.2.2.2.1.2]:=h7;have e8:r5=[.int .i64 g.2.2.2.2.2]:=h8;subst e1 e2 e3 e4 e5 e6 e7 e8;rfl
noncomputable def KNd (w1:World) (R:Nat→Prop) (tb:Nat) (im:List (Int×Bool)) (W:World):Prop:=w1.heap.size≤W.heap.size∧(∀b,R b→W.heap[b]?=w1.heap[b]?)∧tb<w1.heap.size∧∃mb,mb<w1.heap.size∧W.cell? ⟨tb,0,none⟩=some (.map (some mb))∧MapAt W mb im
def KNd.below {w1 W W':World} {R:Nat→Prop} {tb:Nat} {im:List (Int×Bool)} (hR:∀b,R b→b<w1.heap.size) (h:KNd w1 R tb im W) (hz:W.heap.size≤W'.heap.size) (hb:∀b,b<w1.heap.size→W'.heap[b]?=W.heap[b]?):KNd w1 R tb im W':=by
 obtain⟨h1,h2,h3,mb,h4,h5,en,cl,h6,h7,h8⟩:=h;exact⟨dC h1 hz,fun b hr=>(hb b (hR b hr)).trans (h2 b hr),h3,mb,h4,by rw[World.cell?_of_block (w:=W) (hb tb h3)]; exact h5,en,cl,(hb mb h4).trans h6,h7,h8⟩
def KNd.grown {w1 W W':World} {R:Nat→Prop} {tb:Nat} {im:List (Int×Bool)} (hR:∀b,R b→b<w1.heap.size) (h:KNd w1 R tb im W) (hg:W.grownBy W' none):KNd w1 R tb im W' :=
 h.below hR hg.size fun b hb=>hg.block b (dw hb h.1) (by simp)
def abN {f:AV→Bool} (h0:f .any=true):∀(l:List AV),l.all f=true→∀i,f (lk l i)=true
 |[],_,i=>by cases i<;>exact h0
 |x::l,h,0=>by simp only[fU,cQ] at h; exact h.1
 |x::l,h,i+1=>by simp only[fU,cQ] at h; exact abN h0 l h.2 i
def Yi {f:Blk→Bool} (h0:f .dead=true):∀(l:List Blk),l.all f=true→∀i,f (lkB l i)=true
 |[],_,i=>by cases i<;>exact h0
 |x::l,h,0=>by simp only[fU,cQ] at h; exact h.1
 |x::l,h,i+1=>by simp only[fU,cQ] at h; exact Yi h0 l h.2 i
def cS_mf (p:cP) (v:cV):(cS p v).h.all mfB=true:=by kernel_rfl
def cU_mf (p:cP) (v:cV) (x:Val Ð):(cU p v x).h.all mfB=true:=by kernel_rfl
def cU_mft (p:cP) (v:cV) (x:Val Ð):(cU p v x).t.all mfV3=true:=by kernel_rfl
def cR_mf (y:Val Å):(jb pV [] jz () (kE y)).h.all mfB=true:=by kernel_rfl
def cR_mft (y:Val Å):(jb pV [] jz () (kE y)).t.all mfV3=true:=by kernel_rfl
noncomputable def pin0 (m:Nat):AV→Bool
 |.any=>true
 |.box id _=>Nat.blt id m
 |_=>false
noncomputable def pin3 (m:Nat):AV→Bool
 |.fn _ a b=>a.all (pin0 m)&&b.all (pin0 m)
 |a=>pin0 m a
section
variable [ø] {ν ν':Nat→Value} {h h':List Blk} {w w':World} {m:Nat}
def VR0.pin (e:Ev m ν h w ν' h' w') {a:AV} {v:Value} (hp:pin0 m a=true) (hv:VR0 ν h w a v):VR0 ν' h' w' a v:=by
 cases a with
 |any=>trivial
 |box id off =>
  obtain⟨cs,b,hl,h1,h2⟩:=hv;have hlt:id<m:=fT hp;have hb:=e.blk id hlt;rw[hl] at hb;obtain⟨⟨cs',hl'⟩,he⟩:=hb;exact⟨cs',b,hl',by rw[he]; exact h1,h2⟩
 |_=>cases hp
def VR.pin (e:Ev m ν h w ν' h' w') {a:AV} {v:Value} (hp:pin3 m a=true) (hv:VR ν h w a v):VR ν' h' w' a v:=by
 cases a with
 |fn f fa fb =>
  obtain⟨fs,cs,h1,h2,h3⟩:=hv;simp only[pin3,cQ,dF] at hp;exact⟨fs,cs,h1,h2.mem fun a ha _=>VR0.pin e (hp.1 a ha),h3.mem fun a ha _=>VR0.pin e (hp.2 a ha)⟩
 |any=>trivial
 |box id off=>exact VR0.pin (a:=.box id off) e (show pin0 m (.box id off)=true from hp) hv
 |_=>cases hp
end
def ant (p:cP) (v:cV):(cS p v).t.all (pin3 9)=true:=by kernel_rfl
def cS_len (p:cP) (v:cV):(cS p v).h.length=10:=by kernel_rfl
def cU_len (p:cP) (v:cV) (x:Val Ð):(cU p v x).h.length=11:=by kernel_rfl
def cS_t (p:cP) (v:cV) (z:List (Val Ð)):(cS p (ġ v z)).t=(cS p v).t:=by kernel_rfl
def cS_5 (p:cP) (v:cV):∃a b us lo co ko,lkB (cS p v).h 5=.cells [.int .i64 a,.int .i64 b,.slc Ð (ö v),.slc Ã us,.slc ō lo,.slc É co,.slc Ã ko]:=⟨_,_,_,_,_,_,rfl⟩
def cS_6 (p:cP) (v:cV):lkB (cS p v).h 6=.cells [.omp 7]:=by kernel_rfl
def cS_7 (p:cP) (v:cV):lkB (cS p v).h 7=.map tI .bool (Ŝ v):=by kernel_rfl
def cS_59 (p:cP) (v:cV):lk (cS p v).t 59=.fn (.func 186) [] [.box 5 0,.box 6 0]:=by kernel_rfl
noncomputable def abS:Blk→Bool
 |.map _ _ _=>true
 |_=>false
def aeN (p:cP) (v:cV):(cS p v).h.map abS=[false,false,false,false,false,false,false,true,true,false]:=by kernel_rfl
def aoq (p:cP) (v:cV) (x:Val Ð):(cU p v x).h.map abS=[false,false,false,false,false,false,false,true,true,false,false]:=by kernel_rfl
def JK:∀(l:List Blk) (i:Nat),abS (lkB l i)=true→(l.map abS)[i]?=some true
 |[],i,h=>by cases i<;>cases h
 |x::l,0,h=>by have:abS x=true:=h; simp[this]
 |x::l,i+1,h=>by simpa using JK l i h
def afL {l:List Blk} {t:List Bool} (hl:l.map abS=[false,false,false,false,false,false,false,true,true]++t) (ht:∀b∈t,b=false) {id:Nat} {k u:Ty} {es:List (Val k×Val u)} (h:lkB l id=.map k u es):id=7∨id=8:=by
 have:=JK l id (by rw[h]; rfl);rw[hl] at this
 rcases id with _|_|_|_|_|_|_|_|_|id<;>simp at this ⊢
 have:=ht _ (cY this);cases this
noncomputable def anm {ρ:Type}:List (Val Ð)→Option ρ→Option ρ
 |[],x=>x
 |_::_,_=>none
def aeA {ρ:Type} {l:List (Val Ð)} {x:Option ρ} {r:ρ} (h:anm l x=some r):l=[]∧x=some r:=by
 cases l with
 |nil=>exact⟨rfl,h⟩
 |cons=>cases h
noncomputable def cutK (p:cP) (v:cV):Option (Val Å):=anm (vm v) (Ä (Ar (ö v) (Ŝ v)) fun z=>nz p (ġ v z) some)
def ajx {l:List (Val Ð)} {im:List (Int×Bool)} {z:List (Val Ð)} (h:Ar l im=some z):ê l.length=true∧z=(R0 (fun j=>LY im (gz l j).1) l.length).map (gz l):=by
 unfold Ar at h;simp only[ì] at h
 split at h
 ·rename_i ho;cases h;refine⟨ho,?_⟩
  have key:∀(n:Nat),n≤l.length→(l.take n).filter (fun g=>((ta (k:=tI) (v:=.bool) g.1 im:Option Bool)).getD false)=(R0 (fun j=>LY im (gz l j).1) n).map (gz l):=by
   intro n
   induction n with
   |zero=>intro _; rfl
   |succ n ih =>
    intro hn
    have hg:l[n]?=some (gz l n):=by simp[gz,cN (show n<l.length from hn)]
    rw[List.take_succ,gD,ih (by omega),Eh,hg];have:((ta (k:=tI) (v:=.bool) (gz l n).1 im:Option Bool)).getD false=LY im (gz l n).1:=rfl;simp only[Option.toList_some,dS,dY,this]
    split<;>simp
  have:=key l.length (cO _)
  rwa [List.take_length] at this
 ·cases h
def alP {n m:Nat} (h:ê n=true) (hm:m≤n):ê m=true:=by
 unfold ê at h ⊢;simp only[Bool.and_eq_true,decide_eq_true_eq] at h ⊢
 first|omega|(constructor<;>omega)
def ags {G:Nat→Prop} {D D':List Deferred} {Q Q':Option Nat} {ν:Nat→Value} {h:List Blk} {w:World} {a:AV} {v:Value} (hv:@VR ⟨G,D,Q⟩ ν h w a v):@VR ⟨G,D',Q'⟩ ν h w a v:=hv
def Af [ø] {ν2 ν':Nat→Value} {h1 h':List Blk} {w1 W:World} (H1:HR ν2 h1 w1) (ev:Ev 9 ν2 h1 w1 ν' h' W) (hl1:∀id,id=7∨id=8→∃k u es,lkB h1 id=.map k u es)
 {t:List Bool} (hl:h'.map abS=[false,false,false,false,false,false,false,true,true]++t) (ht:∀b∈t,b=false):ak3 w1.heap.size ν' h':=by
 intro id k u es b hm hν
 have h9:id<9:=by rcases afL hl ht hm with rfl|rfl<;>omega
 obtain⟨k1,u1,es1,h7⟩:=hl1 id (afL hl ht hm);have hb:=ev.blk id h9;rw[h7] at hb;obtain⟨_,he⟩:=hb;have hB:=H1.blk id;rw[h7] at hB;obtain⟨b0,_,_,q1,q2,_⟩:=hB;rw[he,q1] at hν;cases hν;exact Ė q2
def amQ (p:cP) (v:cV):∀id,id=7∨id=8→∃k u es,lkB (cS p v).h id=.map k u es:=by
 rintro id (rfl|rfl)
 ·exact⟨_,_,_,rfl⟩
 ·exact⟨_,_,_,rfl⟩
noncomputable def CI (G:Nat→Prop) (p:cP) (v:cV) (ν2:Nat→Value) (w1:World) (pre:List Nat) (W:World):Prop :=
 ∃ν',@HR ⟨G,[],none⟩ ν' (cS p (ġ v (pre.map (gz (ö v))))).h W∧Ev 9 ν2 (cS p v).h w1 ν' (cS p (ġ v (pre.map (gz (ö v))))).h W
def CI.own {G:Nat→Prop} {p:cP} {v:cV} {ν2:Nat→Value} {w1:World} (H1:@HR ⟨G,[],none⟩ ν2 (cS p v).h w1):OwnFrom w1.heap.size (CI G p v ν2 w1):=by
 intro pre W W' row hI hg hr
 letI:ø:=⟨G,[],none⟩
 obtain⟨ν',H,ev⟩:=hI;have hml:=Af H1 ev (amQ p v) (aeN _ _) (t:=[false]) (by simp);refine⟨ν',H.ckeep (Ro hg hr) (fun id k u es b hl hν=>?_) (Yi rfl _ (cS_mf _ _)),ev.own hg fun r e=>(hr r e).1⟩;have hb:=hml id k u es b hl hν
 exact hg.block b (dw hb ev.size) fun e=>by have:=(hr b e.symm).1; omega
def CI.nd {G:Nat→Prop} {p:cP} {v:cV} {ν2:Nat→Value} {w1 W:World} {pre:List Nat} {R:Nat→Prop} {tb:Nat} (H1:@HR ⟨G,[],none⟩ ν2 (cS p v).h w1) (hR:∀b,R b→b<w1.heap.size∧¬aeX ν2 (cS p v).h b) (htb:ν2 6=.pointer (some ⟨tb,0,none⟩)) (hI:CI G p v ν2 w1 pre W):KNd w1 R tb (Ŝ v) W:=by
 letI:ø:=⟨G,[],none⟩
 obtain⟨ν',H,ev⟩:=hI;have h6:=H1.blk 6;rw[cS_6] at h6;obtain⟨b6,_,_,q1,q2,_⟩:=h6;rw[htb] at q1;cases q1;have h7:=H1.blk 7;rw[cS_7] at h7;obtain⟨mb,_,_,r1,r2,_⟩:=h7;have e6:=ev.blk 6 (by omega);rw[cS_6] at e6;have e7:=ev.blk 7 (by omega);rw[cS_7] at e7;have k6:=H.blk 6;rw[show lkB (cS p (ġ v (pre.map (gz (ö v))))).h 6=.cells [.omp 7] from cS_6 _ _] at k6;obtain⟨b,c,e,s1,s2,s3⟩:=k6;rw[e6.2,htb] at s1;cases s1;obtain⟨mv,s4,s5⟩:=s3.one;obtain⟨_,k,u,es,_,s6⟩:=s5.1;have k7:=H.blk 7;rw[show lkB (cS p (ġ v (pre.map (gz (ö v))))).h 7=.map tI .bool (Ŝ v) from cS_7 _ _] at k7;obtain⟨mb',en,cl,t1,t2,t3,t4⟩:=k7;have e1:mv=.map (some mb'):=s6.trans t1
 have e2:mb'=mb:=by rw[e7.2,r1] at t1; cases t1; rfl
 subst e2;refine⟨ev.size,fun b hb=>(ev.keep b (hR b hb).1 (hR b hb).2).1,Ė q2,mb',Ė r2,?_,en,cl,t2,t3,fun i x hx=>?_⟩
 ·have hc:c=#[mv]:=by rw[←dT,s4]
  rw[hc,e1] at s2;simp[World.cell?,s2]
 ·obtain⟨m,us,u1,u2,u3,u4⟩:=t4 i x hx;have v1:[m.key]=[.int .i64 x.1]:=u2;have v2:us=[.bool x.2]:=u3;refine⟨m,u1,by simpa using v1,?_⟩;rw[u4,v2];rfl
def ahw:drawn (Am.rfA (Am.rfC 7 Ģ))=false:=by kernel_rfl
def ahv:drawn (Am.rfB (Am.rfC 7 Ģ))=false:=by kernel_rfl
def ahu:ó 4 (Am.rfA (Am.rfC 7 Ģ))=[]:=by kernel_rfl
def aht:ó 4 (Am.rfB (Am.rfC 7 Ģ))=[]:=by kernel_rfl
def YE [ø] (ρ:Type):lR (Ğ ρ) 2 (jZ (Ğ ρ) 10):=by
 have hlib:M6 (Ğ ρ):=QM PG (Ğ ρ) rfl rfl rfl rfl rfl (ig rfl);have hdraw:∀L call,lR (Ğ ρ) L call→mc (Ğ ρ) L call:=D2 hmix;have hcall:=mM (.inr fun _=>rfl) hlib hdraw (fun n hn hE path f fn c hp hf hc=>Ha (tab:=rk ρ) rfl K4 hn hE (hdraw _ _ hE) hp hf hc) 10 (cO _);exact⟨.inr (qy 9),hcall,hlib.plain,hlib.clone,hlib.joins⟩
def aj3 {G:Nat→Prop} {p:cP} {v:cV} {ν2:Nat→Value} {a:Act} {w1:World} (H1:@Sim ⟨G,[],none⟩ ν2 (cS p v) a w1) (l:Nat) (pre:List Nat) (x:Nat) (W:World) (hl:w1.heap.size≤l) (hI:CI G p v ν2 w1 pre W) (hok:ê (pre.length+1)=true) {u:Value} (hu:∀[ø] (ν:Nat→Value) (h:List Blk) (w:World),VR ν h w (.agg (flat Ð (gz (ö v) x))) u) :
 (Am.rfA (Am.rfC 7 Ģ)).wpIn (Fence.wide.inRound l) 0 Tryz.prog (Exit.then (fun a' Wa=>KeepsFrom w1.heap.size W Wa∧∀r',(∃r,Wa.heap[l]?=some (.loop r)) →
  (Am.rfB (Am.rfC 7 Ģ)).wpIn (Fence.wide.inRound l) 0 Tryz.prog (Exit.then (fun _ W3=>KeepsFrom w1.heap.size (Wa.putObj l (.loop r')) W3∧CI G p v ν2 w1 (pre++[x]) W3) (fun _ _ _=>False)) a' (Wa.putObj l (.loop r'))) (fun _ _ _=>False)) {tmps:=a.tmps.setIfInBounds 60 u,defers:=[]} W:=by
 letI:ø:=⟨G,[],some l⟩
 have H1h:HR ν2 (cS p v).h w1:=HR_ghost (@Sim.heap ⟨G,[],none⟩ _ _ _ _ H1);obtain⟨ν',H0,ev⟩:=hI;have H:HR ν' (cS p (ġ v (pre.map (gz (ö v))))).h W:=HR_ghost H0;obtain⟨v',hv'⟩:∃v',v'=ġ v (pre.map (gz (ö v))):=⟨_,rfl⟩;rw[←hv'] at H ev
 have ht:(cS p v').t=(cS p v).t:=by rw[hv']; exact cS_t _ _ _
 have hml:=Af H1h ev (amQ p v) (aeN _ _) (t:=[false]) (by simp)
 have simA:Sim ν' (cS p v') {tmps:=a.tmps,defers:=[]} W:=by
  refine⟨rfl,?_,fun i=>?_,H⟩
  ·rw[ht]; show _≤a.tmps.size; exact @Sim.len ⟨G,[],none⟩ _ _ _ _ H1
  ·rw[ht]; exact VR.pin ev (abN rfl _ (ant p v) i) (ags (@Sim.tmps ⟨G,[],none⟩ _ _ _ _ H1 i))
 have sim0:=simA.put (Ev.refl _ _ _ _) H (some 60) (hu ν' _ W);have hEnv:=YE (cP×Val (tyL Ag));have hgo:=JT hEnv (path:=[]) rfl (Am.rfA (Am.rfC 7 Ģ)) 4 _ _ ν' _ W (fun h=>by rw[ahw] at h; cases h) (fun z hz=>by rw[ahu] at hz; cases hz) (ag6 p v' (gz (ö v) x) fun p u=>some (p,u)) sim0 (dC (show 9≤10 by decide) (Nat.le_of_eq (cS_len p v').symm));refine wpIn_mono hgo fun e a' Wa ha=>?_;obtain⟨νa,Sa,sA,evA,lenA,ddA,kA⟩:=ha;obtain⟨rfl,p',u',hm',hk'⟩:=EN kA;cases hk';obtain⟨νb,sB,evB,lB,dB⟩:=EK _ _ _ _ _ _ _ νa a' Wa hm' sA;have evAB:Ev 9 ν' (cS p v').h W νb (cU p v' (gz (ö v) x)).h Wa:=evA.trans evB (cO _);have evT:=ev.trans evAB (cO _);have hmu:=Af H1h evT (amQ p v) (aoq _ _ _) (t:=[false,false]) (by simp);refine⟨LF H hml evAB,fun r' ⟨r,hr⟩=>?_⟩;have hlt:l<Wa.heap.size:=Ė hr
 have K:δ Wa (Wa.putObj l (.loop r')):=⟨by simp[World.putObj],fun b c e q hb=>by
  rw[World.putObj_heap_other (fun e'=>by subst e'; rw[hr] at hb; cases hb)]; exact hb⟩
 have sC:Sim νb (cU p v' (gz (ö v) x)) a' (Wa.putObj l (.loop r')):=sB.ckeep K (fun id k q es b hb hν=>World.putObj_heap_other (by have:=hmu id k q es b hb hν; omega)) (Yi rfl _ (cU_mf _ _ _)) (abN rfl _ (cU_mft _ _ _))
 have evO:Ev 9 ν2 (cS p v).h w1 νb (cU p v' (gz (ö v) x)).h (Wa.putObj l (.loop r')):=evT.own (grownBy_putObj' Wa l _) fun q e=>by cases e; exact hl
 have hEnv2:=YE (cP×cV);have law:=ag5 p v' (gz (ö v) x) fun p v=>some (p,v)
 have hrow:vm v'=pre.map (gz (ö v)):=by rw[hv']; rfl
 rw[hrow] at law;simp only[dW,dc,dm,dt,hok,ì] at law;have hgo2:=JT hEnv2 (path:=[]) rfl (Am.rfB (Am.rfC 7 Ģ)) 4 _ _ νb _ _ (fun h=>by rw[ahv] at h; cases h) (fun z hz=>by rw[aht] at hz; cases hz) law sC (dC (show 9≤11 by decide) (Nat.le_of_eq (cU_len p v' (gz (ö v) x)).symm));refine wpIn_mono hgo2 fun e a3 W3 hb=>?_;obtain⟨νc,Sc,sD,evC,lenC,ddC,kC⟩:=hb;obtain⟨rfl,p',u',hm',hk'⟩:=EN kC;cases hk';obtain⟨νd,sE,evD,lD,dD⟩:=EK _ _ _ _ _ _ _ νc a3 W3 hm' sD;have evCD:=evC.trans evD (cO _);refine⟨LF sC.heap hmu evCD,νd,?_⟩
 have hput:ġ v' (pre.map (gz (ö v))++[gz (ö v) x])=ġ v ((pre++[x]).map (gz (ö v))):=by
  rw[hv',gS]; rfl
 rw[←hput];exact⟨HR_ghost sE.heap,evO.trans evCD (cO _)⟩
noncomputable def aeY (G:Nat→Prop) (y:Val Å) (w:World) (e:Ending) (w':World):Prop :=
 ∃u,e=.returned u∧RR w' G [Å] y u∧(∀b,b<w.heap.size→w'.heap[b]?=w.heap[b]?)∧w.heap.size≤w'.heap.size∧w'.os=w.os∧w'.tape=w.tape∧w'.output=w.output
noncomputable def aeB (u:Val (tyL jz)):Val Å:=((u.1,u.2.1),u.2.2.1,u.2.2.2.1,u.2.2.2.2.1,u.2.2.2.2.2.1,u.2.2.2.2.2.2)
def amv (p:cP) (v:cV):nz p v (fun y=>(fun u=>some (aeB u)) (kE y))=nz p v some:=by kernel_rfl
def aj2 (u:Val (tyL jz)):kE (aeB u)=u:=by kernel_rfl
def aor (y:Val Å):(jb pV [] jz () (kE y)).h.map abS=[false]:=by kernel_rfl
def ams {G:Nat→Prop} {p:cP} {v:cV} {y:Val Å} {ν:Nat→Value} {a:Act} {w0 W:World} {D:Nat} (H:@Sim ⟨G,[],none⟩ ν (cS p v) a W) (hB:nz p v some=some y) (hD:W.heap[D]?=some (.deferred (some []))) (hnl:¬aeX ν (cS p v).h D)
 (hev:Ev 0 (fun _=>undef) [] w0 ν (cS p v).h W) (hDl:w0.heap.size≤D) :
 (Am.postC 7 Ģ).wpIn Fence.wide 2 Tryz.prog (bodyPostM Fence.wide 2 Tryz.prog Tryz.f62 (aeY G y w0)) {a with defers:=afK D::a.defers} W:=by
 have hdf:a.defers=[]:=@Sim.defers ⟨G,[],none⟩ _ _ _ _ H
 letI:ø:=⟨G,[afK D],none⟩
 have sim:Sim ν (cS p v) {a with defers:=afK D::a.defers} W:=⟨by show afK D::a.defers=[afK D]; rw[hdf],(show _≤a.tmps.size from @Sim.len ⟨G,[],none⟩ _ _ _ _ H),fun i=>ags (@Sim.tmps ⟨G,[],none⟩ _ _ _ _ H i),HR_ghost (@Sim.heap ⟨G,[],none⟩ _ _ _ _ H)⟩;have hEnv:=YE (Val Å);have hdraw:∀L call,lR (Ğ (Val Å)) L call→mc (Ğ (Val Å)) L call:=D2 hmix;have law:=aaZ p v fun u=>some (aeB u);rw[amv,hB] at law
 have hL:∀z∈ó 0 (Am.postC 7 Ģ),oA (Ğ (Val Å)) [] 62 z.1 z.2:=fun z hz =>
  Ha (E:=Ğ (Val Å)) (tab:=rk _) rfl K4 (n:=10) (cO _) hEnv (hdraw _ _ hEnv) rfl Tryz.func62 rl z (afO 7 Ģ 0 FZ hz)
 have hgo:=lH hEnv (hdraw _ _ hEnv) rfl (Am.postC 7 Ģ) 0 _ _ ν _ W hL law sim (ee _);rw[Hq rfl] at hgo;refine wpIn_wide.2 (wpIn_wide.1 (wpIn_mono hgo fun e a' W' ha=>?_));obtain⟨νa,Sa,sA,evA,_,_,kA⟩:=ha;obtain⟨rfl,u,hm,hk⟩:=ai6 kA;cases hk;obtain⟨νb,sB,evB,_,_⟩:=EK _ _ _ _ _ _ _ νa a' W' hm sA
 have hu:jb pV [] jz () u=jb pV [] jz () (kE (aeB u)):=by rw[aj2]
 rw[hu] at sB evB;have evT:=(evA.trans evB (cO _));have hD':W'.heap[D]?=some (.deferred (some [])):=(evT.keep D (Ė hD) hnl).1.trans hD;have hd':a'.defers=[afK D]:=sB.defers;show LeavesInM _ _ _ _ _ _ a'.defers _ _;rw[hd'];refine⟨by simp,.inl ⟨D,_,rfl,run_takeDeferred hD',?_⟩⟩;have hlt:=Ė hD'
 have K:δ W' (W'.putObj D (.deferred none)):=⟨by simp[World.putObj],fun b c e q hb=>by
  rw[World.putObj_heap_other (fun e'=>by subst e'; rw[hD'] at hb; cases hb)]; exact hb⟩
 have sC:=sB.ckeep K (fun id k q es b hb hν=>by
  have:=JK _ id (by rw[hb]; rfl);rw[aor] at this
  rcases id with _|id<;>simp at this) (Yi rfl _ (cR_mf _)) (abN rfl _ (cR_mft _))
 obtain⟨uu,q1,q2⟩:=Ih sC (adO (aeB u));have hall:=hev.trans evT (cO _);refine⟨uu,q1,uu,rfl,VV sC.heap [Å] q2 (show Ć [Å] _ (enc Å (aeB u))=some (aeB u) from rfl),fun b hb=>?_,?_,hall.os,hall.tape,hall.output⟩
 ·rw[World.putObj_heap_other (by omega)];exact(hall.keep b hb fun⟨_,h,_⟩=>by cases h).1
 ·have:=hall.size;simpa[World.putObj] using this
def amw (x:Val (.pair Å (.pair (.slice Ã) (.slice Ã)))):F0 x.1 x.2.1 x.2.2 cutK=pI.F x:=by kernel_rfl
noncomputable def encG (g:Val Ð):Value:=.agg #[.int .i64 g.1,.int .i64 g.2.1,.int .i64 g.2.2.1,.int .i64 g.2.2.2.1.1,.int .i64 g.2.2.2.1.2,.int .i64 g.2.2.2.2.1.1,.int .i64 g.2.2.2.2.1.2,.int .i64 g.2.2.2.2.2]
def aob [ø] (g:Val Ð) (ν:Nat→Value) (h:List Blk) (w:World):VR ν h w (.agg (flat Ð g)) (encG g) :=
 ⟨_,rfl,⟨rfl,rfl⟩,⟨rfl,rfl⟩,⟨rfl,rfl⟩,⟨rfl,rfl⟩,⟨rfl,rfl⟩,⟨rfl,rfl⟩,⟨rfl,rfl⟩,⟨rfl,rfl⟩,trivial⟩
def amu (G:Nat→Prop) (x:Val (tyL pI.ts)) (y:Val Å) (hF:pI.F x=some y) (w:World) (vals:List Value) (hG:∀b,G b→b<w.heap.size) (hAL:AL w G pI.ts x vals) :
 (∃fn c,Tryz.prog.funcs[62]?=some fn∧fn.body=some c)∧CallsIn Fence.wide 0 Tryz.prog 62 vals.toArray w (aeY G y w):=by
 letI:ø:=⟨G,[],none⟩
 have hlib:M6 (ž (Val Å)):=QM PG _ rfl rfl rfl rfl rfl (ig rfl);have hdraw:∀L call,lR (ž (Val Å)) L call→mc (ž (Val Å)) L call:=D2 hmix;have hloops:aeW (ž (Val Å)):=fun n hn hE hD path f fn c hp hf hc=>Ha (tab:=Dx _) rfl adQ hn hE hD hp hf hc;have hcall:=mM (.inl ⟨rfl,rfl⟩) hlib hdraw (fun n hn hE=>hloops n hn hE (hdraw _ _ hE)) 10 (cO _);have hEnv:lR (ž (Val Å)) 2 (jZ (ž (Val Å)) 10):=⟨.inr (qy 9),hcall,hlib.plain,hlib.clone,hlib.joins⟩;have H:HR (fun _=>undef) [] w:=⟨fun _=>trivial,fun _ _ _ h=>(by cases h),hG,fun _ _ h=>(by cases h)⟩;have hav:∀b,Av (fun _=>undef) [] b→G b:=fun b hb=>hb.elim (fun⟨_,h,_⟩=>by cases h) id;have hargs:ć (VR (fun _=>undef) [] w) (Ă pI.ts x) vals:=AL.VR (hAL.mono hav);refine⟨⟨Tryz.f62,_,Tryz.func62,rl⟩,?_⟩;have hlen:vals.length=3:=hargs.length.symm;refine callsIn_wide.2 (callsIn_wide.1 (callsIn_of_wp_marks (n:=2) Tryz.func62 rl trivial ?_ (R:=aeY G y w)))
 have hS:Sim (fun _=>undef) {t:=Ă pI.ts x++List.replicate 127 .any,h:=[]} {tmps:=vals.toArray++Array.replicate (Tryz.f62.ntmps-vals.toArray.size) undef,defers:=[]} w:=by
  refine⟨rfl,?_,fun i=>?_,H⟩
  ·have:Tryz.f62.ntmps=130:=by kernel_rfl
   have hl2:(Ă pI.ts x).length=3:=rfl;simp[this,hlen,hl2]
  ·simp only[QK];rcases du i (Ă pI.ts x).length with hi|hi
   ·have:=ć.lk (R:=VR (fun _=>undef) [] w) (fun _=>trivial) i hargs
    have hv:i<vals.length:=by rw[←hargs.length]; exact hi
    have h2:(vals.toArray++Array.replicate (Tryz.f62.ntmps-vals.toArray.size) undef).getD i undef=vals.getD i undef:=by
     simp[dO,eT,hv]
    rw[h2]; exact this
   ·rw[ajo _ _ hi]; trivial
 have law:=(adP x cutK).trans ((amw x).trans hF);refine peelN rfl hEnv (hdraw _ _ hEnv) rfl (path:=[]) rfl (fun e S hne h=>hne (EN h).1) 7 Ģ _ _ _ _ FZ (fun z hz=>hloops 10 (cO _) hEnv (hdraw _ _ hEnv) [] 62 Tryz.f62 Ģ rfl Tryz.func62 rl z hz) law hS (fun ν1 S1 a1 w1 s1 e1 k1=>?_);obtain⟨_,p,v,hm,hk⟩:=EN k1;obtain⟨hrow,hk⟩:=aeA hk
 cases hz:Ar (ö v) (Ŝ v) with
 |none=>rw[hz] at hk; cases hk
 |some z =>
 rw[hz] at hk;have hB:nz p (ġ v z) some=some y:=hk;obtain⟨hzl,hzs⟩:=ajx hz;obtain⟨ν2,s2,e2,_,_⟩:=EK _ _ _ _ _ _ _ ν1 a1 w1 hm s1;have evw:=e1.trans e2 (cO _)
 have hv0:ġ v []=v:=by rw[←hrow]; rfl
 have s2':Sim ν2 (cS p v) a1 w1:=s2
 -- the blocks
 obtain⟨fa,fb,us,lo,co,ko,h5⟩:=cS_5 p v;have hB5:=s2'.heap.blk 5;rw[h5] at hB5;obtain⟨bb,cb,te,n5,hbb,hc5⟩:=hB5;have hB6:=s2'.heap.blk 6;rw[cS_6] at hB6;obtain⟨tb,ct,tt,n6,htb,hc6⟩:=hB6;have hl5:=hc5.length
 obtain⟨u1,u2,u3,u4,u5,u6,u7,hcb⟩:∃u1 u2 u3 u4 u5 u6 u7,cb.toList=[u1,u2,u3,u4,u5,u6,u7]:=by
  rcases hcs:cb.toList with _|⟨u1,_|⟨u2,_|⟨u3,_|⟨u4,_|⟨u5,_|⟨u6,_|⟨u7,_|⟨u8,t⟩⟩⟩⟩⟩⟩⟩⟩<;>rw[hcs] at hl5<;>simp at hl5
  exact⟨u1,u2,u3,u4,u5,u6,u7,rfl⟩
 rw[hcb] at hc5;obtain⟨_,_,hc3,_⟩:=hc5;have hg3:CR w1 (Av ν2 (cS p v).h) (.slice Ð) (ö v) [u3]:=hc3.1;obtain⟨base,cap,eu3,hcap,hgl⟩:=hg3
 have eu3:u3=.slice base (ö v).length cap:=by simpa using eu3
 obtain⟨gb,go,hgb⟩:∃gb go,0<(ö v).length→base=some ⟨gb,go,none⟩∧¬Av ν2 (cS p v).h gb∧gb<w1.heap.size∧∀(i:Nat) (g:Val Ð),(ö v)[i]?=some g→∃us,CR w1 (Av ν2 (cS p v).h) Ð g us∧Ō w1 gb (go+i*8) us:=by
  rcases hgl with hgl|⟨gb,go,q1,q2,q3,q4⟩
  ·exact⟨0,0,fun h=>by rw[show(ö v)=[] from hgl] at h; simp at h⟩
  ·exact⟨gb,go,fun _=>⟨q1,q2,q3,q4⟩⟩
 obtain⟨gl,hgle⟩:∃gl,gl=ö v:=⟨_,rfl⟩;rw[←hgle] at hgb eu3
 have hR:∀b,(0<gl.length∧b=gb)→b<w1.heap.size∧¬aeX ν2 (cS p v).h b:=fun b ⟨h,e⟩=>by subst e; obtain⟨_,q2,q3,_⟩:=hgb h; exact⟨q3,fun hl=>q2 (.inl hl)⟩
 have hnd:∀pre W,CI G p v ν2 w1 pre W→KNd w1 (fun b=>0<gl.length∧b=gb) tb (Ŝ v) W:=fun pre W hI=>hI.nd s2'.heap hR n6
 have hI0:CI G p v ν2 w1 [] w1:=by
  refine⟨ν2,?_,?_⟩
  ·rw[show ġ v (([]:List Nat).map (gz (ö v)))=v from hv0]; exact s2'.heap
  ·rw[show ġ v (([]:List Nat).map (gz (ö v)))=v from hv0]; exact Ev.refl _ _ _ _
 have hp59:=s2'.tmps 59;rw[cS_59] at hp59
 have hg:a1.tmps.getD 59 undef=.func (.func 186) #[] #[.pointer (some ⟨bb,0,none⟩),.pointer (some ⟨tb,0,none⟩)]:=by
  obtain⟨fs,cs,h1,h2,h3⟩:=hp59
  have e1:fs=#[]:=by rw[←dT]; exact h2.nil_left
  have hl:=h3.length
  obtain⟨v1,v2,e2⟩:∃v1 v2,cs.toList=[v1,v2]:=by
   rcases hcs:cs.toList with _|⟨v1,_|⟨v2,_|⟨v3,t⟩⟩⟩<;>rw[hcs] at hl<;>simp at hl
   exact⟨v1,v2,rfl⟩
  rw[e2] at h3;have e3:v1=.pointer (some ⟨bb,0,none⟩):=zP (w:=w1) (id:=5) (off:=0) h3.1 n5;have e4:v2=.pointer (some ⟨tb,0,none⟩):=zP (w:=w1) (id:=6) (off:=0) h3.2.1 n6;rw[h1,e1];congr 1;rw[←dT,e2,e3,e4]
 have hcbe:cb=#[u1,u2,.slice base gl.length cap,u4,u5,u6,u7]:=by rw[←dT,hcb,eu3]
 have hseq:SeqStopsK Fence.wide 1 Tryz.prog 186 #[.pointer (some ⟨bb,0,none⟩),.pointer (some ⟨tb,0,none⟩)] (fun j:Nat=>#[encG (gz gl j)]) (fun A B=>KNd w1 (fun b=>0<gl.length∧b=gb) tb (Ŝ v) A→KNd w1 (fun b=>0<gl.length∧b=gb) tb (Ŝ v) B)
  (fun xs=>xs=R0 (fun j=>LY (Ŝ v) (gz gl j).1) gl.length) (fun _=>True) (R0 (fun j=>LY (Ŝ v) (gz gl j).1) gl.length).length w1:=by
  intro l J Jx W hbel hJ hJx hY h0
  refine an2 te 1 (by omega) l bb tb u1 u2 u4 u5 u6 u7 gb go gl.length cap base (fun h=>(hgb h).1) (fun j=>(gz gl j).1) (fun j=>(gz gl j).2.1) (fun j=>(gz gl j).2.2.1) (fun j=>(gz gl j).2.2.2.1.1) (fun j=>(gz gl j).2.2.2.1.2) (fun j=>(gz gl j).2.2.2.2.1.1) (fun j=>(gz gl j).2.2.2.2.1.2) (fun j=>(gz gl j).2.2.2.2.2)
   (fun j=>LY (Ŝ v) (gz gl j).1) ?len (KNd w1 (fun b=>0<gl.length∧b=gb) tb (Ŝ v)) W ((hbel.block bb (Ė hbb)).trans (by rw[hbb,hcbe])) ?cells ?maps (fun W1 W2 h hg=>h.grown (fun b hb=>(hR b hb).1) hg) ((hnd [] w1 hI0).below (fun b hb=>(hR b hb).1) hbel.size hbel.block)
   J Jx (fun pre W1 W2 hj hg=>hJ pre W1 W2 none hj hg (fun r e=>by cases e)) (fun pre W1 W2 hj hg=>hJx pre W1 W2 none hj hg (fun r e=>by cases e)) (fun pre j W1 hj hl=>hY pre j W1 hj hl) h0
  case len =>
   have:=hzl;rw[←hgle] at this;simp only[ê,decide_eq_true_eq] at this;omega
  case cells =>
   intro W' hW j hj;obtain⟨q1,q2,q3,q4⟩:=hgb (by omega);obtain⟨vs,r1,r2⟩:=q4 j (gz gl j) (by simp[gz,cN hj]);have r2:=r2.keep (w':=W') (hW.2.1 gb ⟨by omega,rfl⟩);rw[aen r1] at r2;refine⟨?_,?_,?_,?_,?_,?_,?_,?_⟩
   ·simpa using r2 0 _ rfl
   ·simpa[eX] using r2 1 _ rfl
   ·simpa[eX] using r2 2 _ rfl
   ·simpa[eX] using r2 3 _ rfl
   ·simpa[eX] using r2 4 _ rfl
   ·simpa[eX] using r2 5 _ rfl
   ·simpa[eX] using r2 6 _ rfl
   ·simpa[eX] using r2 7 _ rfl
  case maps =>
   intro W' hW;obtain⟨_,_,h3,mb,h4,h5,h6⟩:=id hW;refine⟨.map (some mb),fun W'' hg=>?_⟩;obtain⟨k1,_,k3,mb',k4,k5,k6⟩:=hW.grown (fun b hb=>(hR b hb).1) hg
   have:mb'=mb:=by
    have e:=World.cell?_of_block (a:=⟨tb,0,none⟩) (hg.block tb (dw h3 hW.1) (by simp));rw[e,h5] at k5;cases k5; rfl
   subst this;exact⟨k5,fun j _=>alZ k6 _⟩
 rw[ag4];refine wpIn_block (Sd (n:=2) rfl (by omega) hg trivial (fun args w=>?eg) hseq (fun h k=>fun q=>k (h q)) (fun W l o o' hl ho _ _ hW=>?kb) (Below.refl _ _) (fun _=>rfl) (CI G p v ν2 w1) (CI.own s2'.heap) hI0 (fun l pre j W hl _ hI hlt=>?round) (fun D xs W hD hxs hI hDo=>?done))
 case eg=>simp[callFunc,Sem.run_bind,run_program,Result.andThen_ok,Tryz.func186,plain 186 _ Tryz.func186,show Tryz.f186.body.isNone=false from rfl]; rfl
 case kb=>exact hW.below (fun b hb=>(hR b hb).1) (by simp[World.putObj]) fun b hb=>World.putObj_heap_other (by omega)
 case round =>
  have hf:∀u:Value,((#[60]:Array Tmp).zip #[u]).foldl (fun t (p,v)=>t.setIfInBounds p v) a1.tmps=a1.tmps.setIfInBounds 60 u:=fun u=>by simp
  show Code.wpIn (Fence.wide.inRound l) 0 Tryz.prog _ _ ⟨((#[60]:Array Tmp).zip #[encG (gz gl j)]).foldl (fun t (p,v)=>t.setIfInBounds p v) a1.tmps,[]⟩ W;rw[hf];refine wpIn_mono (aj3 s2' l pre j W hl hI ?_ (u:=encG (gz gl j)) (by rw[hgle]; exact fun ν h w=>aob _ ν h w)) fun e a' Wa ha=>?_
  ·refine alP hzl ?_;have:=adc (fun j=>LY (Ŝ v) (gz gl j).1) gl.length;rw[←hgle];omega
  ·cases e with
   |normal =>
    refine⟨ha.1,fun r' hr=>wpIn_mono (ha.2 r' hr) fun e a3 W3 hb=>?_⟩
    cases e with
    |normal=>exact⟨hb.1,fun _=>hnd _ _ hb.2,hb.2⟩
    |_=>exact hb
   |_=>exact ha
 case done =>
  subst hxs;obtain⟨ν',Hd,evd⟩:=hI
  have hzz:(R0 (fun j=>LY (Ŝ v) (gz gl j).1) gl.length).map (gz (ö v))=z:=by rw[hzs,hgle]
  rw[hzz] at Hd evd;have hml:=Af s2'.heap evd (amQ p v) (aeN _ _) (t:=[false]) (by simp);have ht:(cS p (ġ v z)).t=(cS p v).t:=cS_t _ _ _
  have simD:Sim ν' (cS p (ġ v z)) a1 W:=by
   refine⟨s2'.defers,?_,fun i=>?_,Hd⟩
   ·rw[ht]; exact s2'.len
   ·rw[ht]; exact VR.pin evd (abN rfl _ (ant p v) i) (s2'.tmps i)
  exact ams simD hB hDo (U2 Hd hml hD hDo rfl) (evw.trans (evd.mono (ee _)) (cO _)) (dC evw.size hD)
def ako:Ï Tryz.prog 62 pI:=fun G x y hF w vals hG hAL=>amu G x y hF w vals hG hAL
end Go.Proofs.ZzM
end

noncomputable section
set_option maxRecDepth 100000
namespace Go.Proofs.ZzM
open Go Go.Am
def Vr:Ï Tryz.prog 30 Im:=È (KD _) (fun {_}=>đ Ç _) hmix (tab:=Br _) rfl Ç (Æ fun x=>Sh x some)
def amE:Ï Tryz.prog 10 aft:=È (IB _) (fun {_}=>đ (Á Vr Ç) _) hmix (tab:=KC _) rfl (Á Sg Ç) (Æ fun x=>aar x some)
def jo:Ï Tryz.prog 136 ź:=È (š _) (fun {_}=>đ Ç _) hmix (tab:=g8 _) rfl (Á kW Ç) (Æ fun x=>mm x some)
def j3:Ï Tryz.prog 67 jO:=È (QG _) (fun {_}=>đ (Á Ū (Á RB (Á jo Ç))) _) hmix (tab:=G9 _) rfl Ç (Æ fun x=>Ye x some)
def mO:Ï Tryz.prog 50 kf:=È (FC _) (fun {_}=>đ (Á j3 Ç) _) hmix (tab:=yD _) rfl Ç (Æ fun x=>Pz x some)
def zM:Ï Tryz.prog 117 qK:=È (θ _) (fun {_}=>đ Ç _) hmix (tab:=wZ _) rfl (Á Gj (Á Gi (Á Gg (Á Gh (Á Gf Ç))))) (Æ fun x=>MI x some)
def YK:Ï Tryz.prog 139 Nf:=È (UN _) (fun {_}=>đ Ç _) hmix (tab:=Lb _) rfl Ç (Æ fun x=>abb x some)
def zN:Ï Tryz.prog 138 sZ:=È (DG _) (fun {_}=>đ (Á YK Ç) _) hmix (tab:=Gq _) rfl (Á P3 Ç) (Æ fun x=>XG x some)
def aks:Ï Tryz.prog 112 Z2:=È (DF _) (fun {_}=>đ (Á zM (Á zN (Á YK Ç))) _) hmix (tab:=Gm _) rfl (Á PV Ç) (Æ fun x=>XE x some)
def ahQ:Ï Tryz.prog 120 Uv:=È (jh _) (fun {_}=>đ Ç _) hmix (tab:=Cc _) rfl (Á MO (Á MN (Á MM (Á MK (Á ML Ç))))) (Æ fun x=>Ts x some)
def Ry:Ï Tryz.prog 114 Ez:=È (P9 _) (fun {_}=>đ (Á aks (Á ahQ Ç)) _) hmix (tab:=Gu _) rfl Ç (Æ fun x=>XI x some)
def m8:Ï Tryz.prog 51 jN:=È (wO _) (fun {_}=>đ (Á Ry Ç) _) hmix (tab:=rh _) rfl Ç (Æ fun x=>FB x some)
def CJ:Ï Tryz.prog 64 sa:=È (wN _) (fun {_}=>đ (Á mO (Á m8 Ç)) _) hmix (tab:=rg _) rfl Ç (Æ fun x=>FA x some)
def uG:Ï Tryz.prog 65 mg:=È (pR _) (fun {_}=>đ (Á mO (Á m8 Ç)) _) hmix (tab:=ny _) rfl Ç (Æ fun x=>yC x some)
def mN:Ï Tryz.prog 48 jt:=È (km _) (fun {_}=>QM (Á CJ (Á uG Ç)) (km _) rfl rfl rfl rfl rfl (ig rfl)) hmix (tab:=nw _) rfl Ç (Æ fun x=>yB x some)
def LP:Ï Tryz.prog 198 xE:=È (Cz _) (fun {_}=>đ (Á jo Ç) _) hmix (tab:=xe _) rfl Ç (Æ fun x=>MS x some)
def MZ:Ï Tryz.prog 263 wD:=È (rG _) (fun {_}=>đ Ç _) hmix (tab:=ou _) rfl Ç (Æ fun x=>Bb x some)
def zO:Ï Tryz.prog 266 s7:=È (DH _) (fun {_}=>đ (Á HU Ç) _) hmix (tab:=Gv _) rfl (Á Qb Ç) (Æ fun x=>XJ x some)
def Rz:Ï Tryz.prog 294 C4:=È (Gw _) (fun {_}=>đ (Á agd (Á akv Ç)) _) hmix (tab:=zd _) rfl Ç (Æ fun x=>Qd x some)
def aop:Ï Tryz.prog 283 aiB:=È (abo _) (fun {_}=>đ (Á zO (Á Rz Ç)) _) hmix (tab:=Qk _) rfl Ç (Æ fun x=>ad3 x some)
def YM:Ï Tryz.prog 264 EC:=È (zh _) (fun {_}=>đ (Á aop Ç) _) hmix (tab:=tT _) rfl Ç (Æ fun x=>Jz x some)
def aeJ:Ï Tryz.prog 300 adq:=È (abm _) (fun {_}=>đ Ç _) hmix (tab:=Qh _) rfl Ç (Æ fun x=>ad1 x some)
def CL:Ï Tryz.prog 295 Bp:=È (xb _) (fun {_}=>đ (Á zO (Á aeJ Ç)) _) hmix (tab:=rE _) rfl Ç (Æ fun x=>GA x some)
def akx:Ï Tryz.prog 298 aiC:=È (abq _) (fun {_}=>đ (Á zO (Á Rz Ç)) _) hmix (tab:=Qm _) rfl Ç (Æ fun x=>ad5 x some)
def akw:Ï Tryz.prog 284 Z5:=ZE (DJ _) (abp _) (fun {_}=>QM (Á HU (Á CL (Á akx (Á aeJ Ç)))) (DJ _) rfl rfl rfl rfl rfl (ig rfl)) (fun {_}=>đ (Á HU (Á CL (Á akx (Á aeJ Ç)))) _) rfl hmix (tab:=vB _) rfl Ç (us:=Ll) rfl (Á (by kernel_rfl) Ç) (Æ fun x=>XO x some)
def YL:Ï Tryz.prog 265 EB:=È (zf _) (fun {_}=>đ (Á akw Ç) _) hmix (tab:=tS _) rfl Ç (Æ fun x=>Jy x some)
def Vw:Ï Tryz.prog 238 Iw:=È (Lv _) (fun {_}=>đ (Á RA (Á HV (Á MZ (Á YM (Á YL Ç))))) _) hmix (tab:=CC _) rfl Ç (Æ fun x=>TN x some)
def acC:Ï Tryz.prog 239 Ob:=È (QD _) (fun {_}=>đ Ç _) hmix (tab:=GY _) rfl Ç (Æ fun x=>X5 x some)
def acA:Ï Tryz.prog 267 N8:=È (Qg _) (fun {_}=>đ Ç _) hmix (tab:=Gx _) rfl Ç (Æ fun x=>XM x some)
def age:Ï Tryz.prog 240 V7:=È (UW _) (fun {_}=>đ (Á zO (Á acA Ç)) _) hmix (tab:=Ln _) rfl Ç (Æ fun x=>abt x some)
def acB:Ï Tryz.prog 241 N9:=È (Qn _) (fun {_}=>đ (Á zO (Á acA Ç)) _) hmix (tab:=GB _) rfl Ç (Æ fun x=>XP x some)
def agf:Ï Tryz.prog 203 V8:=È (UX _) (fun {_}=>đ (Á Vw (Á acC (Á age (Á acB Ç)))) _) hmix (tab:=Lq _) rfl Ç (Æ fun x=>abw x some)
def amN:Ï Tryz.prog 235 afC:=È (Al _) (fun {_}=>đ (Á mP Ç) _) hmix (tab:=Ls _) rfl (Á TH (Á TG Ç)) (Æ fun x=>abz x some)
def agh:Ï Tryz.prog 137 V9:=È (tU _) (fun {_}=>đ (Á RB (Á agi (Á LP (Á HV (Á agf (Á amN Ç)))))) _) hmix (tab:=Lr _) rfl (Á TE (Á TF (Á TD Ç))) (Æ fun x=>aby x some)
def Ÿ:Ï Tryz.prog 68 ŵ:=È (Lz _) (fun {_}=>đ (Á Ū (Á agh Ç)) _) hmix (tab:=CD _) rfl Ç (Æ fun x=>TS x some)
def rU:Ï Tryz.prog 110 qL:=È (JH _) (fun {_}=>đ (Á Ū Ç) _) hmix (tab:=LB _) rfl (Á TU Ç) (Æ fun x=>abH x some)
def ų:Ï Tryz.prog 111 ű:=È (w8 _) (fun {_}=>đ (Á zM (Á zN Ç)) _) hmix (tab:=rt _) rfl Ç (Æ fun x=>Gn x some)
def acy:Ï Tryz.prog 12 KB:=È (si _) (fun {_}=>đ (Á mN (Á Ū (Á j3 (Á Ÿ (Á rU (Á ų Ç)))))) _) hmix (tab:=wR _) rfl (Á Gb Ç) (Æ fun x=>MF x some)
def aeI:Ï Tryz.prog 14 N6:=È (vv _) (fun {_}=>đ (Á mO (Á m8 (Á Ū (Á j3 (Á Ÿ (Á rU (Á ų Ç))))))) _) hmix (tab:=yR _) rfl (Á Jk Ç) (Æ fun x=>PR x some)
def D5:Ï Tryz.prog 57 C0:=È (Fz _) (fun {_}=>đ Ç _) hmix (tab:=yz _) rfl Ç (Æ fun x=>Px x some)
def akq:Ï Tryz.prog 21 Z0:=È (DB _) (fun {_}=>đ (Á mN (Á D5 (Á Ū (Á j3 (Á Ÿ (Á rU (Á ų Ç))))))) _) hmix (tab:=Ga _) rfl (Á PL Ç) (Æ fun x=>Xx x some)
def acz:Ï Tryz.prog 122 N7:=È (Jo _) (fun {_}=>đ Ç _) hmix (tab:=abc _) rfl (Á adX (Á adV (Á adU (Á adW Ç)))) (Æ fun x=>aja x some)
def aku:Ï Tryz.prog 61 Z4:=È (pX _) (fun {_}=>đ (Á Ry (Á acz Ç)) _) hmix (tab:=Gt _) rfl (Á P7 (Á P5 (Á P6 Ç))) (Æ fun x=>XH x some)
def YJ:Ï Tryz.prog 60 Ey:=È (yQ _) (fun {_}=>đ (Á mO (Á aku Ç)) _) hmix (tab:=tF _) rfl Ç (Æ fun x=>Jj x some)
def Rv:Ï Tryz.prog 63 C1:=È (vf _) (fun {_}=>đ (Á Ÿ Ç) _) hmix (tab:=yA _) rfl (Á I3 Ç) (Æ fun x=>Py x some)
def aeH:Ï Tryz.prog 24 N5:=È (lC _) (fun {_}=>QM (Á YJ (Á ako (Á Rv (Á CJ (Á uG (Á Ū (Á j3 (Á Ÿ (Á rU (Á ų Ç)))))))))) (lC _) rfl rfl rfl rfl rfl (ig rfl)) hmix (tab:=yP _) rfl (Á Ji (Á Jh Ç)) (Æ fun x=>PQ x some)
def Rx:Ï Tryz.prog 140 C3:=È (vx _) (fun {_}=>đ Ç _) hmix (tab:=yT _) rfl (Á Jn Ç) (Æ fun x=>PT x some)
def agc:Ï Tryz.prog 141 V5:=È (Jl _) (fun {_}=>đ Ç _) hmix (tab:=La _) rfl (Á Tq Ç) (Æ fun x=>aba x some)
def T4:Ï Tryz.prog 69 Bo:=È (xa _) (fun {_}=>đ (Á zN (Á YK (Á Rx (Á agc Ç)))) _) hmix (tab:=rA _) rfl Ç (Æ fun x=>Gs x some)
def HT:Ï Tryz.prog 25 uP:=È (yO _) (fun {_}=>đ (Á Ū (Á j3 (Á Ÿ (Á T4 Ç)))) _) hmix (tab:=tE _) rfl Ç (Æ fun x=>Jg x some)
def agj:Ï Tryz.prog 147 Wd:=È (JF _) (fun {_}=>đ (Á Ū Ç) _) hmix (tab:=Ly _) rfl (Á TR Ç) (Æ fun x=>abF x some)
def akz:Ï Tryz.prog 200 Z7:=È (Qr _) (fun {_}=>đ (Á Vw (Á acC (Á age (Á acB Ç)))) _) hmix (tab:=GD _) rfl Ç (Æ fun x=>XT x some)
def aeM:Ï Tryz.prog 146 Oc:=È (G6 _) (fun {_}=>đ (Á Ry (Á agh (Á agj (Á LP (Á HV (Á akz Ç)))))) _) hmix (tab:=zo _) rfl Ç (Æ fun x=>QF x some)
def aky:Ï Tryz.prog 202 Z6:=È (Qp _) (fun {_}=>đ (Á Ū Ç) _) hmix (tab:=GC _) rfl Ç (Æ fun x=>XS x some)
def amP:Ï Tryz.prog 148 afE:=È (UY _) (fun {_}=>đ (Á aky (Á agf Ç)) _) hmix (tab:=LA _) rfl Ç (Æ fun x=>abG x some)
def Vx:Ï Tryz.prog 149 Ix:=È (LC _) (fun {_}=>đ (Á HV (Á Vv Ç)) _) hmix (tab:=CE _) rfl Ç (Æ fun x=>TV x some)
def acx:Ï Tryz.prog 150 KA:=È (B4 _) (fun {_}=>đ (Á mO Ç) _) hmix (tab:=wQ _) rfl Ç (Æ fun x=>MB x some)
def acw:Ï Tryz.prog 151 Kz:=È (B3 _) (fun {_}=>đ (Á m8 Ç) _) hmix (tab:=wP _) rfl Ç (Æ fun x=>MA x some)
def Kb:Ï Tryz.prog 76 Iu:=È (rj _) (fun {_}=>QM (Á mO (Á Ÿ (Á aeM (Á agj (Á amP (Á Vx (Á acx (Á acw Ç)))))))) (rj _) rfl rfl rfl rfl rfl (ig rfl)) hmix (tab:=B0 _) rfl (Á Mz Ç) (Æ fun x=>Tf x some)
def wt:Ï Tryz.prog 82 uO:=È (yI _) (fun {_}=>đ Ç _) hmix (tab:=tk _) rfl Ç (Æ fun x=>I7 x some)
def ahO:Ï Tryz.prog 154 Ut:=È (K3 _) (fun {_}=>đ Ç _) hmix (tab:=B5 _) rfl Ç (Æ fun x=>Tg x some)
def sM:Ï Tryz.prog 86 rY:=È (wL _) (fun {_}=>đ (Á ahO Ç) _) hmix (tab:=re _) rfl Ç (Æ fun x=>Fx x some)
def sN:Ï Tryz.prog 88 rZ:=È (j7 _) (fun {_}=>đ Ç _) hmix (tab:=rf _) rfl (Á A7 (Á A8 Ç)) (Æ fun x=>Fy x some)
def Ru:Ï Tryz.prog 77 xD:=È (mu _) (fun {_}=>đ (Á ş (Á wt (Á sM (Á sN Ç)))) _) hmix (tab:=pM _) rfl (Á yy Ç) (Æ fun x=>Dr x some)
def akp:Ï Tryz.prog 31 ZZ:=È (Dz _) (fun {_}=>đ (Á Ū (Á j3 (Á Ÿ (Á Kb (Á Ru (Á rU (Á ų Ç))))))) _) hmix (tab:=F1 _) rfl (Á PI Ç) (Æ fun x=>Xu x some)
def HS:Ï Tryz.prog 83 Ex:=È (yL _) (fun {_}=>đ Ç _) hmix (tab:=tB _) rfl Ç (Æ fun x=>Je x some)
def HQ:Ï Tryz.prog 84 Ew:=È (yJ _) (fun {_}=>đ Ç _) hmix (tab:=tm _) rfl Ç (Æ fun x=>I8 x some)
def Rw:Ï Tryz.prog 35 C2:=ZE (vn _) (ē _) (fun {_}=>QM (Á D5 (Á Ū (Á j3 (Á Ÿ (Á Kb (Á ş (Á wt (Á HS (Á HQ (Á sM (Á sN (Á rU (Á ų Ç))))))))))))) (vn _) rfl rfl rfl rfl rfl (ig rfl)) (fun {_}=>QM (Á D5 (Á Ū (Á j3 (Á Ÿ (Á Kb (Á ş (Á wt (Á HS (Á HQ (Á sM (Á sN (Á rU (Á ų Ç))))))))))))) (ē _) rfl rfl rfl rfl rfl (ig rfl)) rfl hmix (tab:=pW _) rfl (Á Jd (Á Jc Ç)) (us:=sg) rfl (Á (by kernel_rfl) Ç) (Æ fun x=>PK x some)
def akt:Ï Tryz.prog 91 Z3:=È (kq _) (fun {_}=>đ (Á zM (Á acz (Á zN Ç))) _) hmix (tab:=Gp _) rfl (Á P1 (Á PX (Á PY (Á PZ (Á P0 Ç))))) (Æ fun x=>XF x some)
def akr:Ï Tryz.prog 38 Z1:=È (PO _) (fun {_}=>đ (Á ako (Á Rv (Á Ÿ (Á akt Ç)))) _) hmix (tab:=Gc _) rfl Ç (Æ fun x=>Xy x some)
def acp:Ï Tryz.prog 44 Kw:=È (Bq _) (fun {_}=>đ Ç _) hmix (tab:=wE _) rfl Ç (Æ fun x=>L3 x some)
def amK:Ï Tryz.prog 106 afz:=È (UM _) (fun {_}=>đ (Á Vx Ç) _) hmix (tab:=KY _) rfl Ç (Æ fun x=>aaV x some)
def akn:Ï Tryz.prog 107 ZY:=È (PE _) (fun {_}=>đ Ç _) hmix (tab:=FY _) rfl Ç (Æ fun x=>Xm x some)
def akm:Ï Tryz.prog 108 ZX:=È (Dw _) (fun {_}=>đ (Á ş Ç) _) hmix (tab:=FX _) rfl (Á PA Ç) (Æ fun x=>Xk x some)
def amM:Ï Tryz.prog 45 afB:=È (Ai _) (fun {_}=>đ (Á mN (Á Ū (Á j3 (Á Ÿ (Á amK (Á akn (Á akm (Á rU (Á ų Ç))))))))) _) hmix (tab:=K9 _) rfl (Á Tm (Á Tl Ç)) (Æ fun x=>aa7 x some)
def T3:Ï Tryz.prog 92 Bn:=È (w9 _) (fun {_}=>đ (Á zN (Á Rx (Á agc Ç))) _) hmix (tab:=rz _) rfl Ç (Æ fun x=>Gr x some)
def T2:Ï Tryz.prog 39 Bm:=È (wS _) (fun {_}=>đ (Á Ū (Á Ÿ (Á T3 Ç))) _) hmix (tab:=rq _) rfl Ç (Æ fun x=>Gd x some)
def oo:Ï Tryz.prog 248 iQ:=È (ő _) (fun {_}=>đ Ç _) hmix (tab:=Φ _) rfl (Á kh Ç) (Æ fun x=>kY x some)
def lZ:Ï Tryz.prog 216 ω:=È (Θ _) (fun {_}=>đ (Á oo Ç) _) hmix (tab:=Ų _) rfl Ç (Æ fun x=>jR x some)
def sL:Ï Tryz.prog 250 jM:=È (Ż _) (fun {_}=>đ Ç _) hmix (tab:=iR _) rfl (Á ml Ç) (Æ fun x=>od x some)
def o8:Ï Tryz.prog 219 i5:=È (iu _) (fun {_}=>đ (Á sL Ç) _) hmix (tab:=gV _) rfl Ç (Æ fun x=>lY x some)
def qz:Ï Tryz.prog 252 jd:=È (Ţ _) (fun {_}=>đ Ç _) hmix (tab:=g9 _) rfl (Á kX Ç) (Æ fun x=>mn x some)
def nW:Ï Tryz.prog 222 iq:=È (gW _) (fun {_}=>đ (Á qz Ç) _) hmix (tab:=Η _) rfl Ç (Æ fun x=>kP x some)
def amL:Ï Tryz.prog 109 afA:=È (Ν _) (fun {_}=>đ (Á lZ (Á o8 (Á nW Ç))) _) hmix (tab:=KZ _) rfl (Á Td (Á Ta (Á S9 (Á Tb (Á Tc (Á S8 (Á S7 (Á S6 (Á S0 (Á SZ Ç)))))))))) (Æ fun x=>aaW x some)
def ahP:Ï Tryz.prog 46 Uu:=È (K8 _) (fun {_}=>đ (Á HT (Á T2 (Á Ū (Á amL Ç)))) _) hmix (tab:=B8 _) rfl Ç (Æ fun x=>Tk x some)
def aeF:Ï Tryz.prog 11 NZ:=È (EQ _) (fun {_}=>đ (Á acy (Á aeI (Á akq (Á aeH (Á HT (Á akp (Á Rw (Á akr (Á acp (Á amM (Á ahP Ç))))))))))) _) hmix (tab:=xJ _) rfl Ç (Æ fun x=>Ot x some)
def rS:Ï Tryz.prog 94 ng:=È (Bv _) (fun {_}=>đ Ç _) hmix (tab:=wG _) rfl Ç (Æ fun x=>L5 x some)
def Rr:Ï Tryz.prog 164 Io:=È (aaH _) (fun {_}=>đ Ç _) hmix (tab:=O9 _) rfl Ç (Æ fun x=>adA x some)
def NB:Ï Tryz.prog 100 Eu:=È (UG _) (fun {_}=>đ (Á Rr Ç) _) hmix (tab:=KO _) rfl Ç (Æ fun x=>aaK x some)
def aga:Ï Tryz.prog 209 V3:=È (IZ _) (fun {_}=>đ Ç _) hmix (tab:=KU _) rfl (Á SU Ç) (Æ fun x=>aaR x some)
def agb:Ï Tryz.prog 210 V4:=È (UL _) (fun {_}=>đ Ç _) hmix (tab:=KX _) rfl Ç (Æ fun x=>aaU x some)
def ahM:Ï Tryz.prog 163 Ur:=È (KP _) (fun {_}=>đ (Á aga (Á agb Ç)) _) hmix (tab:=BV _) rfl Ç (Æ fun x=>SQ x some)
def ahK:Ï Tryz.prog 95 Up:=È (KI _) (fun {_}=>đ (Á rS (Á NB (Á ahM (Á Rr Ç)))) _) hmix (tab:=Bz _) rfl Ç (Æ fun x=>Sq x some)
def HP:Ï Tryz.prog 166 xC:=È (Dn _) (fun {_}=>đ Ç _) hmix (tab:=Fq _) rfl (Á Pb Ç) (Æ fun x=>WX x some)
def AO:Ï Tryz.prog 101 sW:=È (KK _) (fun {_}=>đ (Á HP Ç) _) hmix (tab:=BD _) rfl Ç (Æ fun x=>Sz x some)
def akb:Ï Tryz.prog 96 ZM:=È (Dc _) (fun {_}=>đ (Á NB (Á AO Ç)) _) hmix (tab:=ET _) rfl (Á Oy Ç) (Æ fun x=>Ww x some)
def ahI:Ï Tryz.prog 97 Un:=È (nr _) (fun {_}=>đ (Á rS (Á AO (Á Rr Ç))) _) hmix (tab:=Bx _) rfl (Á L7 (Á L6 (Á L8 Ç))) (Æ fun x=>Sl x some)
def akg:Ï Tryz.prog 165 ZR:=È (Di _) (fun {_}=>đ (Á Rr Ç) _) hmix (tab:=Ff _) rfl (Á OS Ç) (Æ fun x=>WN x some)
def ahH:Ï Tryz.prog 98 Um:=È (KE _) (fun {_}=>đ (Á rS (Á NB (Á Rr (Á akg Ç)))) _) hmix (tab:=Bw _) rfl Ç (Æ fun x=>Sk x some)
def act:Ï Tryz.prog 167 N1:=È (Dk _) (fun {_}=>đ Ç _) hmix (tab:=Fl _) rfl (Á O4 Ç) (Æ fun x=>WS x some)
def amF:Ï Tryz.prog 211 afu:=È (IP _) (fun {_}=>đ Ç _) hmix (tab:=KM _) rfl (Á SI Ç) (Æ fun x=>aaI x some)
def acu:Ï Tryz.prog 168 N2:=È (Dl _) (fun {_}=>đ (Á amF Ç) _) hmix (tab:=Fm _) rfl (Á O6 Ç) (Æ fun x=>WT x some)
def YI:Ï Tryz.prog 99 Et:=È (je _) (fun {_}=>đ (Á AO (Á HP (Á act (Á acu Ç)))) _) hmix (tab:=tg _) rfl (Á Dg (Á Df (Á De Ç))) (Æ fun x=>II x some)
def NA:Ï Tryz.prog 158 Es:=È (UF _) (fun {_}=>đ (Á acu Ç) _) hmix (tab:=KG _) rfl Ç (Æ fun x=>aau x some)
def akc:Ï Tryz.prog 169 ZN:=È (uY _) (fun {_}=>đ (Á NA Ç) _) hmix (tab:=EZ _) rfl (Á OH (Á OG Ç)) (Æ fun x=>WD x some)
def AP:Ï Tryz.prog 102 sX:=È (iv _) (fun {_}=>đ (Á akc Ç) _) hmix (tab:=BK _) rfl (Á Mh (Á Mg (Á Me (Á Mb (Á Mc (Á Md Ç)))))) (Æ fun x=>SE x some)
def AQ:Ï Tryz.prog 52 sY:=È (yf _) (fun {_}=>đ (Á AP Ç) _) hmix (tab:=BP _) rfl (Á Mi Ç) (Æ fun x=>SH x some)
def ake:Ï Tryz.prog 212 ZP:=È (Dh _) (fun {_}=>đ Ç _) hmix (tab:=E5 _) rfl (Á OL Ç) (Æ fun x=>WF x some)
def aki:Ï Tryz.prog 170 ZT:=È (Dj _) (fun {_}=>đ (Á HP (Á act (Á ake Ç))) _) hmix (tab:=Fh _) rfl (Á O0 Ç) (Æ fun x=>WQ x some)
def Rt:Ï Tryz.prog 285 CZ:=È (Fr _) (fun {_}=>đ (Á aga (Á agb Ç)) _) hmix (tab:=yx _) rfl Ç (Æ fun x=>Pp x some)
def amJ:Ï Tryz.prog 268 afy:=È (UK _) (fun {_}=>đ (Á Rt Ç) _) hmix (tab:=KW _) rfl Ç (Æ fun x=>aaT x some)
def amH:Ï Tryz.prog 269 afw:=È (UI _) (fun {_}=>đ Ç _) hmix (tab:=KS _) rfl Ç (Æ fun x=>aaP x some)
def amG:Ï Tryz.prog 242 afv:=È (UH _) (fun {_}=>đ (Á amJ (Á amH Ç)) _) hmix (tab:=KQ _) rfl Ç (Æ fun x=>aaO x some)
def ahJ:Ï Tryz.prog 243 Uo:=È (KH _) (fun {_}=>đ (Á HP Ç) _) hmix (tab:=By _) rfl Ç (Æ fun x=>Sn x some)
def akl:Ï Tryz.prog 270 ZW:=È (Ps _) (fun {_}=>đ Ç _) hmix (tab:=Ft _) rfl Ç (Æ fun x=>W6 x some)
def amI:Ï Tryz.prog 271 afx:=È (UJ _) (fun {_}=>đ (Á Rt Ç) _) hmix (tab:=KT _) rfl Ç (Æ fun x=>aaQ x some)
def ahN:Ï Tryz.prog 244 Us:=È (KR _) (fun {_}=>đ (Á akl (Á amI Ç)) _) hmix (tab:=BW _) rfl Ç (Æ fun x=>SS x some)
def Rs:Ï Tryz.prog 205 CY:=È (Fp _) (fun {_}=>đ (Á NA (Á amG (Á ahJ (Á ahN Ç)))) _) hmix (tab:=yg _) rfl Ç (Æ fun x=>Pa x some)
def Vs:Ï Tryz.prog 206 Ip:=È (KN _) (fun {_}=>đ Ç _) hmix (tab:=BS _) rfl Ç (Æ fun x=>SL x some)
def aoo:Ï Tryz.prog 245 aiA:=È (aaL _) (fun {_}=>đ Ç _) hmix (tab:=Po _) rfl Ç (Æ fun x=>adE x some)
def acv:Ï Tryz.prog 207 N4:=È (Pv _) (fun {_}=>đ (Á aoo Ç) _) hmix (tab:=Fv _) rfl Ç (Æ fun x=>Xf x some)
def akk:Ï Tryz.prog 246 ZV:=È (Pq _) (fun {_}=>đ Ç _) hmix (tab:=Fs _) rfl Ç (Æ fun x=>W5 x some)
def Vu:Ï Tryz.prog 208 Ir:=È (KV _) (fun {_}=>đ (Á akk Ç) _) hmix (tab:=BX _) rfl Ç (Æ fun x=>SV x some)
def akf:Ï Tryz.prog 171 ZQ:=È (OP _) (fun {_}=>đ (Á Rs (Á Vs (Á acv (Á Vu Ç)))) _) hmix (tab:=Fc _) rfl Ç (Æ fun x=>WM x some)
def af9:Ï Tryz.prog 103 V2:=È (tj _) (fun {_}=>đ (Á AQ (Á AP (Á NA (Á aki (Á akf Ç))))) _) hmix (tab:=KJ _) rfl (Á Sw (Á Sx (Á Sv Ç))) (Æ fun x=>aaz x some)
def Ka:Ï Tryz.prog 41 Ab:=È (kD _) (fun {_}=>đ (Á rS (Á ahK (Á akb (Á ahI (Á ahH (Á YI (Á NB (Á AO (Á AP (Á af9 Ç)))))))))) _) hmix (tab:=BT _) rfl (Á Mm (Á Mk (Á Ml (Á Mj Ç)))) (Æ fun x=>SM x some)
def D4:Ï Tryz.prog 43 uN:=È (E9 _) (fun {_}=>đ (Á AP (Á af9 Ç)) _) hmix (tab:=xT _) rfl Ç (Æ fun x=>OO x some)
def akj:Ï Tryz.prog 53 ZU:=È (O2 _) (fun {_}=>đ (Á Ka Ç) _) hmix (tab:=Fk _) rfl Ç (Æ fun x=>WR x some)
def Vt:Ï Tryz.prog 54 Iq:=È (Χ _) (fun {_}=>đ Ç _) hmix (tab:=BU _) rfl (Á Mw (Á Mx (Á Mv (Á Mr (Á Ms (Á Mq (Á Mu Ç))))))) (Æ fun x=>SO x some)
def aka:Ï Tryz.prog 15 ZL:=È (Db _) (fun {_}=>đ (Á Ka (Á D4 (Á AQ (Á akj (Á Vt Ç))))) _) hmix (tab:=ES _) rfl (Á Ov Ç) (Æ fun x=>Wv x some)
def acr:Ï Tryz.prog 156 N0:=È (OB _) (fun {_}=>đ Ç _) hmix (tab:=EU _) rfl Ç (Æ fun x=>Wz x some)
def akd:Ï Tryz.prog 89 ZO:=È (OJ _) (fun {_}=>đ (Á Ka (Á acr Ç)) _) hmix (tab:=E4 _) rfl Ç (Æ fun x=>WE x some)
def akh:Ï Tryz.prog 157 ZS:=È (vc _) (fun {_}=>đ Ç _) hmix (tab:=Fg _) rfl (Á OU (Á OV Ç)) (Æ fun x=>WO x some)
def ahL:Ï Tryz.prog 159 Uq:=È (KL _) (fun {_}=>đ (Á Rs (Á Vs (Á acv (Á Vu Ç)))) _) hmix (tab:=BF _) rfl Ç (Æ fun x=>SA x some)
def aeG:Ï Tryz.prog 160 N3:=È (ln _) (fun {_}=>đ Ç _) hmix (tab:=yl _) rfl (Á IV (Á IT (Á IU Ç))) (Æ fun x=>Ph x some)
def acs:Ï Tryz.prog 90 Ky:=È (BG _) (fun {_}=>đ (Á D4 (Á AQ (Á acr (Á akh (Á NA (Á ahL (Á aeG Ç))))))) _) hmix (tab:=wH _) rfl Ç (Æ fun x=>Ma x some)
def acq:Ï Tryz.prog 36 Kx:=È (Bt _) (fun {_}=>đ (Á D4 (Á AQ (Á Vt (Á akd (Á acs Ç))))) _) hmix (tab:=wF _) rfl Ç (Æ fun x=>L4 x some)
def MY:Ï Tryz.prog 37 wC:=È (qP _) (fun {_}=>đ Ç _) hmix (tab:=oq _) rfl Ç (Æ fun x=>A5 x some)
def c_w6_SharpSettles:Ï Tryz.prog 8 jr:=È (pL _) (fun {_}=>đ (Á amE (Á aeF (Á aka (Á Vr (Á Rw (Á acq (Á MY Ç))))))) _) hmix (tab:=nj _) rfl Ç (Æ fun x=>xL x some)
end Go.Proofs.ZzM
end
