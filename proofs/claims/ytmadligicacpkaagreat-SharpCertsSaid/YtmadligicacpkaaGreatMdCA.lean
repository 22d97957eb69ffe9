/- lemmas -/
import Derived.Test.YtmadligicacpkaaGreatAmD
import Derived.Test.YtmadligicacpkaaGreatAmE
import Derived.Ground.NamesProg
import Derived.Ground.Names2Prog
import Derived.KernelRfl
import Derived.Test.YtmadligicacpkaaGreatMdMA
import Derived.Test.YtmadligicacpkaaGreatMdKD
import Derived.RangeFuncBox
import Derived.Lib.SliceRun
import Derived.RangeFuncLeaves
import Derived.WalkKit
import Derived.OwnWalkIn
import Derived.TacticsInMore
import Derived.LoopNIn
import Derived.LoopIn
import Derived.Test.YtmadligicacpkaaGreatProg
import Derived.RangeFuncFrom
import Derived.RangeFuncRecord
import Derived.Test.YtmadligicacpkaaGreatMdKC
import Derived.Test.YtmadligicacpkaaGreatMdKB
import Derived.Test.YtmadligicacpkaaGreatMdKA
set_option linter.all false
set_option linter.unusedSectionVars false
set_option linter.unusedVariables false
set_option linter.unusedSimpArgs false
noncomputable section
namespace Go.Proofs
open Go.Shelf
def Tryz.laysSort_ren:Go.Shelf.Ren:=⟨fun|189=>232|125=>262|257=>261|128=>281|129=>282|294=>272|295=>273|296=>274|297=>275|298=>276|299=>277|216=>278|300=>279|301=>280|328=>286|329=>287|330=>288|331=>289|332=>290|215=>291|343=>299|n=>n,fun|28=>53|3=>3|46=>298|0=>0|51=>316|53=>293|4=>4|183=>309|182=>308|131=>265|5=>5|9=>9|218=>324|222=>328|228=>336|229=>337|n=>n,fun|n=>n⟩
def Tryz.laysSort:Go.Proofs.Lays.n189 Tryz.prog Tryz.laysSort_ren:={
 mixed:=by kernel_rfl
 f125:=Tryz.func262.trans (congrArg some (by kernel_rfl))
 f128:=Tryz.func281.trans (congrArg some (by kernel_rfl))
 f129:=Tryz.func282.trans (congrArg some (by kernel_rfl))
 f189:=Tryz.func232.trans (congrArg some (by kernel_rfl))
 f215:=Tryz.func291.trans (congrArg some (by kernel_rfl))
 f216:=Tryz.func278.trans (congrArg some (by kernel_rfl))
 f257:=Tryz.func261.trans (congrArg some (by kernel_rfl))
 f294:=Tryz.func272.trans (congrArg some (by kernel_rfl))
 f295:=Tryz.func273.trans (congrArg some (by kernel_rfl))
 f296:=Tryz.func274.trans (congrArg some (by kernel_rfl))
 f297:=Tryz.func275.trans (congrArg some (by kernel_rfl))
 f298:=Tryz.func276.trans (congrArg some (by kernel_rfl))
 f299:=Tryz.func277.trans (congrArg some (by kernel_rfl))
 f300:=Tryz.func279.trans (congrArg some (by kernel_rfl))
 f301:=Tryz.func280.trans (congrArg some (by kernel_rfl))
 f328:=Tryz.func286.trans (congrArg some (by kernel_rfl))
 f329:=Tryz.func287.trans (congrArg some (by kernel_rfl))
 f330:=Tryz.func288.trans (congrArg some (by kernel_rfl))
 f331:=Tryz.func289.trans (congrArg some (by kernel_rfl))
 f332:=Tryz.func290.trans (congrArg some (by kernel_rfl))
 f343:=Tryz.func299.trans (congrArg some (by kernel_rfl))
 t0:=Tryz.underlying0
 a0:=Tryz.isAgg0
 z0:=Tryz.sizeOf0
 v0:=Tryz.zeroValue0
 t3:=Tryz.underlying3
 a3:=Tryz.isAgg3
 z3:=Tryz.sizeOf3
 v3:=Tryz.zeroValue3
 t4:=Tryz.underlying4
 a4:=Tryz.isAgg4
 z4:=Tryz.sizeOf4
 v4:=Tryz.zeroValue4
 t5:=Tryz.underlying5
 a5:=Tryz.isAgg5
 z5:=Tryz.sizeOf5
 v5:=Tryz.zeroValue5
 t9:=Tryz.underlying9
 a9:=Tryz.isAgg9
 z9:=Tryz.sizeOf9
 v9:=Tryz.zeroValue9
 t28:=Tryz.underlying53
 a28:=Tryz.isAgg53
 z28:=Tryz.sizeOf53
 v28:=Tryz.zeroValue53
 t46:=Tryz.underlying298
 a46:=Tryz.isAgg298
 z46:=Tryz.sizeOf298
 v46:=Tryz.zeroValue298
 t51:=Tryz.underlying316
 a51:=Tryz.isAgg316
 z51:=Tryz.sizeOf316
 v51:=Tryz.zeroValue316
 t53:=Tryz.underlying293
 a53:=Tryz.isAgg293
 z53:=Tryz.sizeOf293
 v53:=Tryz.zeroValue293
 t131:=Tryz.underlying265
 a131:=Tryz.isAgg265
 z131:=Tryz.sizeOf265
 v131:=Tryz.zeroValue265
 t182:=Tryz.underlying308
 a182:=Tryz.isAgg308
 z182:=Tryz.sizeOf308
 v182:=Tryz.zeroValue308
 t183:=Tryz.underlying309
 a183:=Tryz.isAgg309
 z183:=Tryz.sizeOf309
 v183:=Tryz.zeroValue309
 t218:=Tryz.underlying324
 a218:=Tryz.isAgg324
 z218:=Tryz.sizeOf324
 v218:=Tryz.zeroValue324
 t222:=Tryz.underlying328
 a222:=Tryz.isAgg328
 z222:=Tryz.sizeOf328
 v222:=Tryz.zeroValue328
 t228:=Tryz.underlying336
 a228:=Tryz.isAgg336
 z228:=Tryz.sizeOf336
 v228:=Tryz.zeroValue336
 t229:=Tryz.underlying337
 a229:=Tryz.isAgg337
 z229:=Tryz.sizeOf337
 v229:=Tryz.zeroValue337}
def Tryz.laysCompact_ren:Go.Shelf.Ren:=⟨fun|20=>233|n=>n,fun|22=>53|3=>3|4=>4|0=>0|n=>n,fun|n=>n⟩
def Tryz.laysCompact:Go.Proofs.Lays2.n20 Tryz.prog Tryz.laysCompact_ren:={
 mixed:=by kernel_rfl
 f20:=Tryz.func233.trans (congrArg some (by kernel_rfl))
 t0:=Tryz.underlying0
 a0:=Tryz.isAgg0
 z0:=Tryz.sizeOf0
 v0:=Tryz.zeroValue0
 t3:=Tryz.underlying3
 a3:=Tryz.isAgg3
 z3:=Tryz.sizeOf3
 v3:=Tryz.zeroValue3
 t4:=Tryz.underlying4
 a4:=Tryz.isAgg4
 z4:=Tryz.sizeOf4
 v4:=Tryz.zeroValue4
 t22:=Tryz.underlying53
 a22:=Tryz.isAgg53
 z22:=Tryz.sizeOf53
 v22:=Tryz.zeroValue53
 i3:=by kernel_rfl}
end Go.Proofs
namespace Go.Proofs.ZzM
open Go Go.Am
def hmix:Tryz.prog.follows .mixedOrders=true:=by kernel_rfl
def plain_ : (Tryz.prog.funcs.toList.all fun fn => !(fn.name == "runtime.NumGoroutine")) = true := by kernel_rfl
def plain (f : Nat) (fn : Func) (h : Tryz.prog.funcs[f]? = some fn) : (fn.name == "runtime.NumGoroutine") = false := by
 have:=dL.1 plain_ fn (cZ (i:=f) (by simpa using h));simpa using this
def aqC:Tryz.laysSort_ren.f 189=232:=by kernel_rfl
def ajb:Tryz.laysCompact_ren.f 20=233:=by kernel_rfl
section
variable [ô] {ρ:Type}
def sortOk (f:Nat) (hf:ad7 f=true) (h:List Blk) (x:AV) (K:AV→List Blk→Option ρ) (q:ρ) (e:XP h x K=some q) (ν:Nat→Value) (w:World) (u:Value) (H:HR ν h w) (hx:VR ν h w x u):Nl Tryz.prog f ν h w [u] K q:=by
 have h1:f=232:=by
  unfold ad7 at hf
  split at hf
  ·rfl
  ·cases hf
 subst h1;have:=aqv Tryz.laysSort e H hx ⟨_,rfl⟩
 rwa [aqC] at this
def amD (f:Nat) (hf:Ao f=true) (h:List Blk) (x:AV) (K:AV→List Blk→Option ρ) (q:ρ) (e:pj h x K=some q) (ν:Nat→Value) (w:World) (u:Value) (H:HR ν h w) (hx:VR ν h w x u):Nl Tryz.prog f ν h w [u] K q:=by
 have h1:f=233:=by
  unfold Ao at hf
  split at hf
  ·rfl
  ·cases hf
 subst h1;have:=ajS Tryz.laysCompact e H hx ⟨_,rfl⟩
 rwa [ajb] at this
def aq7:LQ Tryz.prog SK:=by
 intro g hg fz S nid x v S' e ν w u H hx hn hd;unfold SK at hg
 split at hg
 ·exact xa Tryz.func116 (T:=42) (by kernel_rfl) (by kernel_rfl) e H hx hn hd
 ·exact xa Tryz.func130 (T:=53) (by kernel_rfl) (by kernel_rfl) e H hx hn hd
 ·exact xa Tryz.func253 (T:=24) (by kernel_rfl) (by kernel_rfl) e H hx hn hd
 ·exact xa Tryz.func254 (T:=25) (by kernel_rfl) (by kernel_rfl) e H hx hn hd
 ·exact xa Tryz.func255 (T:=26) (by kernel_rfl) (by kernel_rfl) e H hx hn hd
 ·exact xa Tryz.func256 (T:=28) (by kernel_rfl) (by kernel_rfl) e H hx hn hd
 ·exact xa Tryz.func257 (T:=27) (by kernel_rfl) (by kernel_rfl) e H hx hn hd
 ·cases hg
def SF {pt:List (Nat×Ö)} (h:∀e∈pt,Î Tryz.prog e.1 e.2) (E:Env ρ) (hP:E.P=Tryz.prog) (h1:E.pure=ajJ pt) (h2:E.sort=ad7) (h3:E.compact=Ao) (h4:E.clone=SK) (hj:aiV E):OG E:=by
 constructor
 ·intro f p hf;rw[h1] at hf;rw[hP];exact h (f,p) (Xq hf)
 ·intro f hf;rw[h2] at hf;rw[hP];exact sortOk f hf
 ·intro f hf;rw[h3] at hf;rw[hP];exact amD f hf
 ·rw[hP]; exact plain
 ·rw[hP,h4]; exact aq7
 ·exact hj
def Ċ {pt:List (Nat×Ö)} (h:∀e∈pt,Î Tryz.prog e.1 e.2) (tab:List (Ý ρ)):OG (Ù pt tab):=SF h _ rfl rfl rfl rfl rfl (ir rfl)
end
end Go.Proofs.ZzM
end

noncomputable section
set_option maxRecDepth 100000
namespace Go.Proofs.ZzM
open Go Go.Am
def Š:Î Tryz.prog 81 ŝ:=Ç (hZ _) (fun {_}=>Ċ Æ _) hmix (tab:=mj _) rfl (Á tW (Á tV Æ)) (Å fun x=>xU x some)
def Rh:∀e∈KD,Î Tryz.prog e.1 e.2:=(Á Š Æ)
def afZ {ρ:Type}:∀e∈EE ρ,e.Ok (ź ρ):=(Á Zp (Á Zq (Á Zo (Á Zn (Á Zm (Á Zl Æ))))))
def Mv {ρ:Type}:∀e∈rR ρ,e.Ok (ğ ρ):=(Á Vc (Á Vb (Á Va Æ)))
def BK:Î Tryz.prog 131 tP:=Ç (MT _) (fun {_}=>Ċ Æ _) hmix (tab:=DC _) rfl Æ (Å fun x=>VD x some)
def mV:Î Tryz.prog 227 kP:=Ç (MO _) (fun {_}=>Ċ Æ _) hmix (tab:=Dw _) rfl Æ (Å fun x=>Vq x some)
def TI:Î Tryz.prog 189 FV:=Ç (Sr _) (fun {_}=>Ċ (Á mV Æ) _) hmix (tab:=Ij _) rfl Æ (Å fun x=>ZZ x some)
def aiD:Î Tryz.prog 258 X5:=Ç (WY _) (fun {_}=>Ċ Æ _) hmix (tab:=MJ _) rfl Æ (Å fun x=>adz x some)
def am7:Î Tryz.prog 259 afx:=Ç (RQ _) (fun {_}=>Ċ Æ _) hmix (tab:=RP _) rfl (Á ZI Æ) (Å fun x=>af8 x some)
def Jr:Î Tryz.prog 226 FR:=Ç (RU _) (fun {_}=>Ċ (Á aiD (Á am7 Æ)) _) hmix (tab:=HT _) rfl Æ (Å fun x=>ZK x some)
def agX:Î Tryz.prog 187 PL:=Ç (Ii _) (fun {_}=>Ċ (Á BK (Á TI (Á Jr (Á mV Æ)))) _) hmix (tab:=Ae _) rfl Æ (Å fun x=>Sq x some)
def TJ:Î Tryz.prog 132 yu:=Ç (mK _) (fun {_}=>Ċ (Á agX Æ) _) hmix (tab:=qi _) rfl (Á Af Æ) (Å fun x=>EX x some)
def TG:Î Tryz.prog 133 D7:=Ç (wu _) (fun {_}=>Ċ Æ _) hmix (tab:=zX _) rfl (Á KZ Æ) (Å fun x=>Sg x some)
def LG:Î Tryz.prog 78 tJ:=Ç (kE _) (fun {_}=>Ċ Æ _) hmix (tab:=np _) rfl (Á vG Æ) (Å fun x=>yA x some)
def oF:Î Tryz.prog 121 jU:=Ç (mi _) (fun {_}=>Ċ (Á LG Æ) _) hmix (tab:=kS _) rfl Æ (Å fun x=>tU x some)
def aiH:Î Tryz.prog 194 X9:=Ç (Bg _) (fun {_}=>Ċ (Á oF Æ) _) hmix (tab:=MV _) rfl (Á VG (Á VF Æ)) (Å fun x=>adS x some)
def TH:Î Tryz.prog 135 FU:=Ç (wy _) (fun {_}=>Ċ (Á aiH Æ) _) hmix (tab:=H4 _) rfl (Á Si (Á Sj Æ)) (Å fun x=>ZS x some)
def tz:Î Tryz.prog 190 mY:=Ç (xN _) (fun {_}=>Ċ Æ _) hmix (tab:=sj _) rfl Æ (Å fun x=>HY x some)
def agW:Î Tryz.prog 188 afz:=Ç (HZ _) (fun {_}=>Ċ (Á TI (Á tz Æ)) _) hmix (tab:=Aa _) rfl Æ (Å fun x=>Sh x some)
def aaS:Î Tryz.prog 192 Ya:=Ç (lP _) (fun {_}=>Ċ (Á BK (Á tz (Á mV Æ))) _) hmix (tab:=uN _) rfl (Á EW (Á EV Æ)) (Å fun x=>K9 x some)
def Js:Î Tryz.prog 199 A4:=Ç (Bf _) (fun {_}=>Ċ (Á oF Æ) _) hmix (tab:=MS _) rfl (Á VA (Á Vz Æ)) (Å fun x=>adP x some)
def Xy:Î Tryz.prog 204 JW:=Ç (Ad _) (fun {_}=>Ċ (Á mV Æ) _) hmix (tab:=DB _) rfl (Á Oq Æ) (Å fun x=>VB x some)
def apE:Î Tryz.prog 231 ahS:=Ç (La _) (fun {_}=>Ċ (Á mV Æ) _) hmix (tab:=MW _) rfl (Á VH Æ) (Å fun x=>adT x some)
def OB:Î Tryz.prog 193 Nt:=Ç (ş _) (fun {_}=>Ċ (Á Š (Á BK (Á TI (Á tz (Á Js (Á Xy (Á mV (Á apE Æ)))))))) _) hmix (tab:=oC _) rfl (Á xZ (Á xX (Á xY (Á xW Æ)))) (Å fun x=>B4 x some)
end Go.Proofs.ZzM
end

noncomputable section
namespace Go.Proofs
open Go.RowKit
attribute [local go_sem] Oper.semAt_some
def T4 (sel:Nat→Bool) (k:Nat):List Nat:=(List.range k).filter sel
def Fv (sel:Nat→Bool) (k:Nat):T4 sel (k+1)=if sel k then T4 sel k++[k] else T4 sel k:=by
 unfold T4;rw[List.range_succ,List.filter_append]
 cases h:sel k<;>simp[h]
def afm (sel:Nat→Bool) (k:Nat):(T4 sel k).length≤k:=by
 unfold T4;exact Nat.le_trans (List.length_filter_le _ _) (by simp)
def akX (sel:Nat→Bool) {j k:Nat} (h:j≤k):(T4 sel j).length≤(T4 sel k).length:=by
 obtain⟨d,rfl⟩:∃d,k=j+d:=⟨k-j,by omega⟩;unfold T4;rw[List.range_add,List.filter_append,List.length_append];omega
def aqw {sel:Nat→Bool} {k n:Nat} (h:k<n) (hs:sel k=true):(T4 sel k).length<(T4 sel n).length:=by
 have h1:=akX sel (j:=k+1) (k:=n) h;rw[Fv,hs] at h1;simp at h1;omega
set_option maxRecDepth 100000 in
set_option maxHeartbeats 1000000 in
def aqS (te:TypeId) (n:Nat) (hn:1≤n) (l bb tb:Nat) (flo fhi us lo co ko:Value) (gb go len cap:Nat) (gbase:Option Addr) (hgb:0<len→gbase=some ⟨gb,go,none⟩)
 (c0 c1 c2 c3 c4 c5 c6 c7:Nat→Int) (sel:Nat→Bool) (hlen:(len:Int)<9223372036854775807) (Nd:World→Prop)
 (W:World) (hb0:W.heap[bb]?=some (.cells #[flo,fhi,.slice gbase len cap,us,lo,co,ko] te (0,0)))
 (hNc:∀W',Nd W'→∀j,j<len→W'.cell? ⟨gb,go+j*8,none⟩=some (.int .i64 (c0 j))∧W'.cell? ⟨gb,go+j*8+1,none⟩=some (.int .i64 (c1 j))∧W'.cell? ⟨gb,go+j*8+2,none⟩=some (.int .i64 (c2 j))∧W'.cell? ⟨gb,go+j*8+3,none⟩=some (.int .i64 (c3 j)) ∧
  W'.cell? ⟨gb,go+j*8+4,none⟩=some (.int .i64 (c4 j))∧W'.cell? ⟨gb,go+j*8+5,none⟩=some (.int .i64 (c5 j))∧W'.cell? ⟨gb,go+j*8+6,none⟩=some (.int .i64 (c6 j))∧W'.cell? ⟨gb,go+j*8+7,none⟩=some (.int .i64 (c7 j)))
 (hNm:∀W',Nd W'→∃mv,∀W'',W'.grownBy W'' none→W''.cell? ⟨tb,0,none⟩=some mv∧∀j,j<len→(Instr.lookup 184 mv (.int .i64 (c0 j)) false).run Tryz.prog W''=.ok (.bool (sel j)) W'')
 (hNs:∀W1 W2,Nd W1→W1.grownBy W2 none→Nd W2) (hN:Nd W)
 (J Jx:List Nat→World→Prop) (hJ:∀pre W W',J pre W→W.grownBy W' none→J pre W') (hJx:∀pre W W',Jx pre W→W.grownBy W' none→Jx pre W')
 (hY:∀pre x W,J pre W→pre.length<(T4 sel len).length→YieldAt Fence.wide (n-1) Tryz.prog l #[.agg #[.int .i64 (c0 x),.int .i64 (c1 x),.int .i64 (c2 x),.int .i64 (c3 x),.int .i64 (c4 x),.int .i64 (c5 x),.int .i64 (c6 x),.int .i64 (c7 x)]] W fun e W' =>
  (e=.returned (.bool true)∧J (pre++[x]) W'∧(Nd W→Nd W'))∨(e=.returned (.bool false)∧Jx (pre++[x]) W'))
 (h0 : J [] W) :
  CallsIn Fence.wide n Tryz.prog 186 #[.func (.yield l) #[] #[],.pointer (some ⟨bb,0,none⟩),.pointer (some ⟨tb,0,none⟩)] W fun e W'=>(∃v,e=.returned v) ∧
   ((∃xs,xs=T4 sel len∧J xs W')∨(∃pre,True∧Jx pre W')):=by
 have hb3:W.cell? ⟨bb,2,none⟩=some (.slice gbase len cap):=by simp[World.cell?,hb0]
 refine callsIn_of_wp Tryz.func186 rfl trivial ?_ rfl;simp only[Tryz.ntmps186,eT,dg,dw,Nat.reduceAdd,Nat.reduceSub,Array.replicate_succ,Array.replicate_zero,List.push_toArray,gy,fN,eZ]
 gi_wp2
 gi_loopw [9] (fun i wr=>∃k:Nat,k≤len∧i=.int .i64 k∧J (T4 sel k) wr∧Nd wr)
  (fun i _=>len-(intOf i).toNat)
 case atStart=>exact⟨0,eA _,rfl,h0,hN⟩
 case round =>
  obtain⟨k,hk,rfl,hJs,hNw⟩:=hrel
  by_cases hlt:k<len
  ·have hg:=hgb (by omega);subst hg;obtain⟨q0,q1,q2,q3,q4,q5,q6,q7⟩:=hNc _ hNw k hlt;obtain⟨mv,hmv⟩:=hNm _ hNw;have hta:∀o,(wr.alloc o).cell? ⟨tb,0,none⟩=some mv:=fun o=>(hmv _ (World.grownBy_alloc _ o none)).1;have hlk:∀o,(Instr.lookup 184 mv (.int .i64 (c0 k)) false).run Tryz.prog (wr.alloc o)=.ok (.bool (sel k)) (wr.alloc o):=fun o=>(hmv _ (World.grownBy_alloc _ o none)).2 k hlt;have hNa:∀o,Nd (wr.alloc o):=fun o=>hNs _ _ hNw (World.grownBy_alloc _ o none);have hJa:∀o,J (T4 sel k) (wr.alloc o):=fun o=>hJ _ _ _ hJs (World.grownBy_alloc _ o none);clear hmv hNm hNc
   cases hsel:sel k with
   |false =>
    rw[hsel] at hlk
    iterate 52 (first|go_values|gi_guarded|gi_step|gi_upon)
    refine⟨fun f hf=>by simp[undef,go_sem] at hf,?_⟩
    gi_wp2
    go_roundw
    case rel=>exact⟨k+1,by omega,by simp,by rw[Fv,hsel]; exact hJa _,hNa _⟩
    case measure=>simp[intOf]; omega
   |true =>
    rw[hsel] at hlk
    gi_wp2
    obtain⟨fn,tmps,assign,body,hy,hR⟩:=hY (T4 sel k) k (wr.alloc (.cells #[.int .i64 (c0 k),.int .i64 (c1 k),.int .i64 (c2 k),.int .i64 (c3 k),.int .i64 (c4 k),.int .i64 (c5 k),.int .i64 (c6 k),.int .i64 (c7 k)] 130)) (hJa _) (aqw hlt hsel);rw[hy];refine⟨fun h=>(by cases h),hR.mono ?_⟩;rintro e W3 (⟨rfl,hJ3,hk3⟩|⟨rfl,hJx3⟩)
    ·gi_wp2
     go_roundw
     case rel=>exact⟨k+1,by omega,by simp,by rw[Fv,hsel]; exact hJ3,hk3 (hNa _)⟩
     case measure=>simp[intOf]; omega
    ·gi_wp2
     refine bodyPost_ret (results_none rfl _ _ _) rfl ?_;exact⟨⟨_,rfl⟩,.inr ⟨_,trivial,hJx3⟩⟩
  ·obtain rfl:len=k:=by omega
   gi_wp2
   go_end0
   exact⟨⟨_,rfl⟩,.inl ⟨_,rfl,hJs⟩⟩
end Go.Proofs
end

noncomputable section
namespace Go.Proofs
open Go.RowKit
attribute [local go_sem] Oper.semAt_some
def upE (f:Nat→Int) (k:Nat):List Int:=(List.range k).map f
def qO (f:Nat→Int) (k:Nat):upE f (k+1)=upE f k++[f k]:=by simp[upE,List.range_succ]
def AY (f:Nat→Int) (k:Nat):(upE f k).length=k:=by simp[upE]
def OH (f:Nat→Int) {j k:Nat} (h:j≤k):upE f j <+: upE f k:=by
 have:k=j+(k-j):=by omega
 rw[this,upE,upE,List.range_add,gT];exact eM _ _
set_option maxRecDepth 100000 in
set_option maxHeartbeats 1000000 in
def aow (te:TypeId) (n:Nat) (hn:1≤n) (l n₀ bb tb sb:Nat) (flo fhi ga mv:Value) (hbb:bb<n₀) (htb:tb<n₀) (hsb:sb<n₀)
 (ub uo ul uc kb ko kl kc:Nat) (ubase kbase lbase cbase:Option Addr) (ll lc cl cc:Nat) (hub:0<ul→ubase=some ⟨ub,uo,none⟩∧ub<n₀) (hkb:0<kl→kbase=some ⟨kb,ko,none⟩∧kb<n₀)
 (U K:Nat→Int×Int) (eU eL eC eK:Nat→Int)
 (hul:ul≤1000) (hll:ll≤1000) (hcl:cl≤1000) (hkl:kl≤1000)
 (W:World) (hb0:W.heap[bb]?=some (.cells #[flo,fhi,ga,.slice ubase ul uc,.slice lbase ll lc,.slice cbase cl cc,.slice kbase kl kc] te (0,0)))
 (ht:W.cell? ⟨tb,0,none⟩=some (.func (.func 188) #[] #[.pointer (some ⟨sb,0,none⟩)])) (hs:W.cell? ⟨sb,0,none⟩=some mv)
 (hU:∀j,j<ul→W.cell? ⟨ub,uo+j*2,none⟩=some (.int .i64 (U j).1)∧W.cell? ⟨ub,uo+j*2+1,none⟩=some (.int .i64 (U j).2))
 (hK:∀j,j<kl→W.cell? ⟨kb,ko+j*2,none⟩=some (.int .i64 (K j).1)∧W.cell? ⟨kb,ko+j*2+1,none⟩=some (.int .i64 (K j).2))
 (cU:∀j,j<ul→∀W',Below n₀ W W'→CallsIn Fence.wide (n-1) Tryz.prog 188 #[.int .i64 (U j).1,.int .i64 (U j).2,.pointer (some ⟨sb,0,none⟩)] W' fun e W''=>e=.returned (.int .i64 (eU j))∧W'.grownBy W'' none)
 (cK:∀j,j<kl→∀W',Below n₀ W W'→CallsIn Fence.wide (n-1) Tryz.prog 188 #[.int .i64 (K j).1,.int .i64 (K j).2,.pointer (some ⟨sb,0,none⟩)] W' fun e W''=>e=.returned (.int .i64 (eK j))∧W'.grownBy W'' none)
 (cL:∀j,j<ll→∀W',Below n₀ W W'→CallsIn Fence.wide (n-1) Tryz.prog 192 #[.agg #[flo,fhi,ga,.slice ubase ul uc,.slice lbase ll lc,.slice cbase cl cc,.slice kbase kl kc],mv,.int .i64 j] W' fun e W''=>e=.returned (.int .i64 (eL j))∧W'.grownBy W'' none)
 (cC:∀j,j<cl→∀W',Below n₀ W W'→CallsIn Fence.wide (n-1) Tryz.prog 193 #[.agg #[flo,fhi,ga,.slice ubase ul uc,.slice lbase ll lc,.slice cbase cl cc,.slice kbase kl kc],mv,.int .i64 j] W' fun e W''=>e=.returned (.int .i64 (eC j))∧W'.grownBy W'' none)
 (J Jx:List Int→World→Prop) (hJ:∀pre W W',J pre W→W.grownBy W' none→J pre W') (hJx:∀pre W W',Jx pre W→W.grownBy W' none→Jx pre W')
 (hY:∀pre x W,J pre W→pre.length<ul+(ll+(cl+kl))→YieldAt Fence.wide (n-1) Tryz.prog l #[.int .i64 x] W fun e W' =>
  (e=.returned (.bool true)∧J (pre++[x]) W'∧Below n₀ W W')∨(e=.returned (.bool false)∧Jx (pre++[x]) W'))
 (h0 : J [] W) (hn₀ : n₀ ≤ W.heap.size) :
  CallsIn Fence.wide n Tryz.prog 191 #[.func (.yield l) #[] #[],.pointer (some ⟨bb,0,none⟩),.pointer (some ⟨tb,0,none⟩),.pointer (some ⟨sb,0,none⟩)] W fun e W'=>(∃v,e=.returned v) ∧
   ((∃xs,xs=upE eU ul++(upE eL ll++(upE eC cl++upE eK kl))∧J xs W')∨(∃pre,(pre <+: upE eU ul++(upE eL ll++(upE eC cl++upE eK kl)))∧Jx pre W')):=by
 have grown_alloc:∀(X:World) (o:Obj),X.grownBy (X.alloc o) none:=fun X o=>World.grownBy_alloc X o none
 have bel:∀{X Y:World},Below n₀ W X→X.grownBy Y none→Below n₀ W Y:=fun {X Y} h g =>
  ⟨g.os.trans h.os,g.tape.trans h.tape,g.output.trans h.output,dC h.size g.size,fun k hk=>(g.block k (dA (dA hk hn₀) h.size) (by simp)).trans (h.block k hk)⟩
 have hc:∀{X:World},Below n₀ W X→X.heap[bb]?=some (.cells #[flo,fhi,ga,.slice ubase ul uc,.slice lbase ll lc,.slice cbase cl cc,.slice kbase kl kc] te (0,0)):=fun h=>(h.block bb hbb).trans hb0;refine callsIn_of_wp Tryz.func191 rfl trivial ?_ rfl;simp only[Tryz.ntmps191,eT,dg,dw,Nat.reduceAdd,Nat.reduceSub,Array.replicate_succ,Array.replicate_zero,List.push_toArray,gy,fN,eZ]
 have hb3:W.cell? ⟨bb,3,none⟩=some (.slice ubase ul uc):=by simp[World.cell?,hb0]
 gi_wp2
 gi_loopw [14] (fun i wr=>∃k:Nat,k≤ul∧i=.int .i64 k∧J (upE eU k) wr∧Below n₀ W wr)
  (fun i _=>ul-(intOf i).toNat)
 case atStart=>exact⟨0,eA _,rfl,h0,Below.refl _ _⟩
 case round =>
  obtain⟨k,hk,rfl,hJs,hnx⟩:=hrel
  by_cases hlt:k<ul
  ·obtain⟨rfl,hlu⟩:=hub (by omega);have hu1:=(hnx.cell (p:=⟨ub,uo+k*2,none⟩) hlu).trans (hU k hlt).1;have hu2:=(hnx.cell (p:=⟨ub,uo+k*2+1,none⟩) hlu).trans (hU k hlt).2;have ht':=(hnx.cell (p:=⟨tb,0,none⟩) htb).trans ht;have hta:∀o,(wr.alloc o).cell? ⟨tb,0,none⟩=some (.func (.func 188) #[] #[.pointer (some ⟨sb,0,none⟩)]):=fun o=>Lib.cell?_alloc_some _ ht'
   gi_wp2
   refine⟨trivial,(cU k hlt _ (bel hnx (grown_alloc _ _))).mono ?_⟩;rintro e W2 ⟨rfl,hg2⟩;obtain⟨fn,tmps,assign,body,hy,hR⟩:=hY _ (eU k) W2 (hJ _ _ _ (hJ _ _ _ hJs (grown_alloc _ _)) hg2) (by rw[AY]; omega);have hb2:=bel (bel hnx (grown_alloc _ _)) hg2
   gi_wp2
   refine hR.mono ?_;rintro e W3 (⟨rfl,hJ3,hk3⟩|⟨rfl,hJx3⟩)
   ·gi_wp2
    go_roundw
    case rel=>exact⟨k+1,by omega,by simp,by rw[qO]; exact hJ3,hb2.trans hk3⟩
    case measure=>simp[intOf]; omega
   ·gi_wp2
    refine bodyPost_ret (results_none rfl _ _ _) rfl ?_;refine⟨⟨_,rfl⟩,.inr ⟨_,?_,hJx3⟩⟩;rw[←qO];exact(OH eU (by omega)).trans (eM _ _)
  ·obtain rfl:ul=k:=by omega
   have hb4:wr.cell? ⟨bb,4,none⟩=some (.slice lbase ll lc):=by simp[World.cell?,hc hnx]
   gi_wp2
   gi_loopw [31] (fun i wr=>∃k:Nat,k≤ll∧i=.int .i64 k∧J (upE eU ul++upE eL k) wr∧Below n₀ W wr)
    (fun i _=>ll-(intOf i).toNat)
   case atStart=>exact⟨0,eA _,rfl,by simpa[upE] using hJs,hnx⟩
   case round =>
    clear hJs hnx;obtain⟨k,hk,rfl,hJs,hnx⟩:=hrel
    by_cases hlt:k<ll
    ·have q0:wr.cell? ⟨bb,0,none⟩=some flo:=by simp[World.cell?,hc hnx]
     have q1:wr.cell? ⟨bb,1,none⟩=some fhi:=by simp[World.cell?,hc hnx]
     have q2:wr.cell? ⟨bb,2,none⟩=some ga:=by simp[World.cell?,hc hnx]
     have q3:wr.cell? ⟨bb,3,none⟩=some (.slice ubase ul uc):=by simp[World.cell?,hc hnx]
     have q4:wr.cell? ⟨bb,4,none⟩=some (.slice lbase ll lc):=by simp[World.cell?,hc hnx]
     have q5:wr.cell? ⟨bb,5,none⟩=some (.slice cbase cl cc):=by simp[World.cell?,hc hnx]
     have q6:wr.cell? ⟨bb,6,none⟩=some (.slice kbase kl kc):=by simp[World.cell?,hc hnx]
     have hs':=(hnx.cell (p:=⟨sb,0,none⟩) hsb).trans hs
     gi_wp2
     refine⟨trivial,(cL k hlt _ hnx).mono ?_⟩;rintro e W2 ⟨rfl,hg2⟩;obtain⟨fn,tmps,assign,body,hy,hR⟩:=hY _ (eL k) W2 (hJ _ _ _ hJs hg2) (by simp only[cX,AY]; omega);have hb2:=bel hnx hg2
     gi_wp2
     refine hR.mono ?_;rintro e W3 (⟨rfl,hJ3,hk3⟩|⟨rfl,hJx3⟩)
     ·gi_wp2
      go_roundw
      case rel=>exact⟨k+1,by omega,by simp,by rw[qO,←du]; exact hJ3,hb2.trans hk3⟩
      case measure=>simp[intOf]; omega
     ·gi_wp2
      refine bodyPost_ret (results_none rfl _ _ _) rfl ?_;refine⟨⟨_,rfl⟩,.inr ⟨_,?_,hJx3⟩⟩;rw[du,←qO];exact(eQ _).2 ((OH eL (by omega)).trans (eM _ _))
    ·obtain rfl:ll=k:=by omega
     have hb5:wr.cell? ⟨bb,5,none⟩=some (.slice cbase cl cc):=by simp[World.cell?,hc hnx]
     gi_wp2
     gi_loopw [45] (fun i wr=>∃k:Nat,k≤cl∧i=.int .i64 k∧J (upE eU ul++upE eL ll++upE eC k) wr∧Below n₀ W wr)
      (fun i _=>cl-(intOf i).toNat)
     case atStart=>exact⟨0,eA _,rfl,by simpa[upE] using hJs,hnx⟩
     case round =>
      clear hJs hnx;obtain⟨k,hk,rfl,hJs,hnx⟩:=hrel
      by_cases hlt:k<cl
      ·have q0:wr.cell? ⟨bb,0,none⟩=some flo:=by simp[World.cell?,hc hnx]
       have q1:wr.cell? ⟨bb,1,none⟩=some fhi:=by simp[World.cell?,hc hnx]
       have q2:wr.cell? ⟨bb,2,none⟩=some ga:=by simp[World.cell?,hc hnx]
       have q3:wr.cell? ⟨bb,3,none⟩=some (.slice ubase ul uc):=by simp[World.cell?,hc hnx]
       have q4:wr.cell? ⟨bb,4,none⟩=some (.slice lbase ll lc):=by simp[World.cell?,hc hnx]
       have q5:wr.cell? ⟨bb,5,none⟩=some (.slice cbase cl cc):=by simp[World.cell?,hc hnx]
       have q6:wr.cell? ⟨bb,6,none⟩=some (.slice kbase kl kc):=by simp[World.cell?,hc hnx]
       have hs':=(hnx.cell (p:=⟨sb,0,none⟩) hsb).trans hs
       gi_wp2
       refine⟨trivial,(cC k hlt _ hnx).mono ?_⟩;rintro e W2 ⟨rfl,hg2⟩;obtain⟨fn,tmps,assign,body,hy,hR⟩:=hY _ (eC k) W2 (hJ _ _ _ hJs hg2) (by simp only[cX,AY]; omega);have hb2:=bel hnx hg2
       gi_wp2
       refine hR.mono ?_;rintro e W3 (⟨rfl,hJ3,hk3⟩|⟨rfl,hJx3⟩)
       ·gi_wp2
        go_roundw
        case rel=>exact⟨k+1,by omega,by simp,by rw[qO,←du]; exact hJ3,hb2.trans hk3⟩
        case measure=>simp[intOf]; omega
       ·gi_wp2
        refine bodyPost_ret (results_none rfl _ _ _) rfl ?_;refine⟨⟨_,rfl⟩,.inr ⟨_,?_,hJx3⟩⟩;rw[du,←qO]
        exact by rw[du]; exact(eQ _).2 ((eQ _).2 ((OH eC (by omega)).trans (eM _ _)))
      ·obtain rfl:cl=k:=by omega
       have hb6:wr.cell? ⟨bb,6,none⟩=some (.slice kbase kl kc):=by simp[World.cell?,hc hnx]
       gi_wp2
       gi_loopw [59] (fun i wr=>∃k:Nat,k≤kl∧i=.int .i64 k∧J ((upE eU ul++upE eL ll++upE eC cl)++upE eK k) wr∧Below n₀ W wr)
        (fun i _=>kl-(intOf i).toNat)
       case atStart=>exact⟨0,eA _,rfl,by simpa[upE] using hJs,hnx⟩
       case round =>
        clear hJs hnx;obtain⟨k,hk,rfl,hJs,hnx⟩:=hrel
        by_cases hlt:k<kl
        ·obtain⟨rfl,hlk⟩:=hkb (by omega);have hu1:=(hnx.cell (p:=⟨kb,ko+k*2,none⟩) hlk).trans (hK k hlt).1;have hu2:=(hnx.cell (p:=⟨kb,ko+k*2+1,none⟩) hlk).trans (hK k hlt).2;have ht':=(hnx.cell (p:=⟨tb,0,none⟩) htb).trans ht;have hta:∀o,(wr.alloc o).cell? ⟨tb,0,none⟩=some (.func (.func 188) #[] #[.pointer (some ⟨sb,0,none⟩)]):=fun o=>Lib.cell?_alloc_some _ ht'
         gi_wp2
         refine⟨trivial,(cK k hlt _ (bel hnx (grown_alloc _ _))).mono ?_⟩;rintro e W2 ⟨rfl,hg2⟩;obtain⟨fn,tmps,assign,body,hy,hR⟩:=hY _ (eK k) W2 (hJ _ _ _ (hJ _ _ _ hJs (grown_alloc _ _)) hg2) (by simp only[cX,AY]; omega);have hb2:=bel (bel hnx (grown_alloc _ _)) hg2
         gi_wp2
         refine hR.mono ?_;rintro e W3 (⟨rfl,hJ3,hk3⟩|⟨rfl,hJx3⟩)
         ·gi_wp2
          go_roundw
          case rel=>exact⟨k+1,by omega,by simp,by rw[qO,←du]; exact hJ3,hb2.trans hk3⟩
          case measure=>simp[intOf]; omega
         ·gi_wp2
          refine bodyPost_ret (results_none rfl _ _ _) rfl ?_;refine⟨⟨_,rfl⟩,.inr ⟨_,?_,hJx3⟩⟩;rw[du,←qO,du,du];exact(eQ _).2 ((eQ _).2 ((eQ _).2 (OH eK (by omega))))
        ·obtain rfl:kl=k:=by omega
         gi_wp2
         go_end0
         exact⟨⟨_,rfl⟩,.inl ⟨_,rfl,by simpa[du] using hJs⟩⟩
end Go.Proofs
end

noncomputable section
set_option maxRecDepth 100000
namespace Go.Proofs.ZzM
open Go Go.Am Go.RowKit
def ahB (p:String):Code:=.region 10 #[{dst:=some 5,op:=.assign (.tmp 49),type:=35,pos:=p,after:=#[],guard:=none}] false
def ap1 (q r:String):Code:=.block 1 (.seq (.region 11 #[{dst:=some 50,op:=.move (.tmp 5),type:=35,pos:=q,after:=#[],guard:=none},{dst:=some 51,op:=.binOp .neq 35 (.tmp 50) (.const (.int .i64 0)) 35,type:=4,pos:=q,after:=#[{on:=0,ground:=.data}],guard:=none}] false)
 (.cond (.tmp 51) (.seq (.region 12 #[{dst:=some 52,op:=.move (.tmp 5),type:=35,pos:=r,after:=#[],guard:=none},{dst:=none,op:=.store 35 (.tmp 2) (.tmp 52),type:=0,pos:=r,after:=#[{on:=0,ground:=.data},{on:=0,ground:=.phase}],guard:=none}] false) .ret) .skip))
section
variable {P:Program} {F:Fence} {n:Nat}
def FX {ops:Array Oper} {i d:Nat} {o:Oper} {u:Value} {w w':World} {a:Act} {next:Act→World→Prop} {Q:Exit→Act→World→Prop} (hF:∀f,F.fn f) (ho:ops[i]?=some o) (hg:o.guard=none) (hd:o.dst=some d) (hdf:∀c,o.op≠.defer c)
 (hrun:(execOp a.eval o).run P w=.ok (.value u) w') (k:next (a.put (some d) u) w'):wpOpIn F n P ops Q i next a w:=by
 unfold wpOpIn;rw[ho]
 have hw:Region.wanted o (yielded ops a.tmps)=true:=by simp[Region.wanted,hg]
 simp only[hw,if_true];refine⟨fun _ _=>hF _,?_⟩;rw[Oper.semAt_eq _ _ _ hdf,hrun];rw[←hd] at k;exact k
def aji {ops:Array Oper} {i:Nat} {o:Oper} {w w':World} {a:Act} {next:Act→World→Prop} {Q:Exit→Act→World→Prop} (hF:∀f,F.fn f) (ho:ops[i]?=some o) (hg:o.guard=none) (hd:o.dst=none) (hdf:∀c,o.op≠.defer c)
 (hrun:(execOp a.eval o).run P w=.ok .skip w') (k:next a w'):wpOpIn F n P ops Q i next a w:=by
 unfold wpOpIn;rw[ho]
 have hw:Region.wanted o (yielded ops a.tmps)=true:=by simp[Region.wanted,hg]
 simp only[hw,if_true];refine⟨fun _ _=>hF _,?_⟩;rw[Oper.semAt_eq _ _ _ hdf,hrun];show next (a.put o.dst undef) w';rw[hd];exact k
end
def jI (T:Array Value) (i j:Nat) (v:Value):(T.setIfInBounds i v).getD j undef=if i=j∧i<T.size then v else T.getD j undef:=by
 simp only[dU,fe]
 by_cases h:i=j
 ·subst h
  by_cases h2:i<T.size
  ·simp[h2]
  ·simp[h2]
 ·simp[h]
def ahY (D:Nat):Deferred:={target:=.collected D,args:=#[]}
structure Put1 (n₀ rb:Nat) (x:Int) (w W:World):Prop where
 os:W.os=w.os
 tape:W.tape=w.tape
 output:W.output=w.output
 size:w.heap.size≤W.heap.size
 block:∀k,k<n₀→k≠rb→W.heap[k]?=w.heap[k]?
 cell:∃e,W.heap[rb]?=some (.cells #[.int .i64 x] e (0,0))
set_option maxHeartbeats 4000000 in
def aqA {a:Act} {w:World} {Q:Exit→Act→World→Prop} {lb:Array Value} {L:List Int} {rb:Nat} {e0:TypeId} {v0:Value} {p q r:String}
 (hseq:SeqStopsK Fence.wide 1 Tryz.prog 191 lb (fun x:Int=>#[.int .i64 x]) (Below w.heap.size) (fun xs=>xs=L) (fun pre=>pre <+: L) L.length w)
 (hg:a.tmps.getD 48 undef=.func (.func 191) #[] lb) (h2:a.tmps.getD 2 undef=.pointer (some ⟨rb,0,none⟩)) (hsz:78≤a.tmps.size)
 (hrb:w.heap[rb]?=some (.cells #[v0] e0 (0,0)))
 (hdone:∀D W,(∀x∈L,x=0)→Below w.heap.size w W→w.heap.size≤D→W.heap[D]?=some (.deferred (some []))→Q .normal {a with defers:=ahY D::a.defers} W)
 (hstop:∀D W x,L.find? (fun e=>e != 0)=some x→Put1 w.heap.size rb x w W→w.heap.size≤D→W.heap[D]?=some (.deferred (some []))→Q .ret {a with defers:=ahY D::a.defers} W) :
 (Code.rangeFunc (.tmp 48) #[49] (ahB p) (ap1 q r)).wpIn Fence.wide 2 Tryz.prog Q a w:=by
 have hT:∀f,Fence.wide.fn f:=fun _=>trivial;have hrl:=ę hrb
 refine wpIn_rangeFunc_ownF (α:=Int) (encs:=fun x=>#[.int .i64 x]) (Kp:=Below w.heap.size) (S:=fun xs=>xs=L) (Sp:=fun pre=>pre <+: L) (N:=L.length) (w0:=w) rfl (by omega) hg trivial (fun args w=>?eg) hseq
  (fun h k=>h.trans k) (fun W l o o' hl ho hc hw=>belowK_b (cR _) W l o o' hl ho hc hw) (Below.refl _ _) (fun _=>rfl)
  (fun pre W=>(∀x∈pre,x=0)∧Below w.heap.size w W)
  (fun c pre W=>c=.ret∧∃pre' x,pre=pre'++[x]∧(∀x∈pre',x=0)∧x≠0∧Put1 w.heap.size rb x w W)
  ?hI ?hIx ⟨by simp,Below.refl _ _⟩ (fun x=>{tmps:=(a.tmps.setIfInBounds 49 (.int .i64 x)).setIfInBounds 5 (.int .i64 x),defers:=[]}) ?hassign ?hbody ?hdone ?hstop
 case eg=>simp[callFunc,Sem.run_bind,run_program,Result.andThen_ok,Tryz.func191,plain 191 _ Tryz.func191,show Tryz.f191.body.isNone=false from rfl]; rfl
 case hI =>
  intro s W W' row ⟨h1,h2⟩ hgr hr;exact⟨h1,hgr.os.trans h2.os,hgr.tape.trans h2.tape,hgr.output.trans h2.output,dC h2.size hgr.size,fun k hk=>(hgr.block k (dA hk h2.size) (fun e=>by have:=(hr k e.symm).1; omega)).trans (h2.block k hk)⟩
 case hIx =>
  intro c s W W' row ⟨h1,pre',x,h3,h4,h5,h6⟩ hgr hr;have hb:∀k,k<w.heap.size→W'.heap[k]?=W.heap[k]?:=fun k hk=>hgr.block k (dA hk h6.size) (fun e=>by have:=(hr k e.symm).1; omega)
  exact⟨h1,pre',x,h3,h4,h5,hgr.os.trans h6.os,hgr.tape.trans h6.tape,hgr.output.trans h6.output,dC h6.size hgr.size,fun k hk hne=>(hb k hk).trans (h6.block k hk hne),by
   obtain⟨e,he⟩:=h6.cell
   exact⟨e,(hb rb hrl).trans he⟩⟩
 case hassign =>
  intro l x W K hK
  have hf:((#[49]:Array Tmp).zip #[Value.int .i64 x]).foldl (fun t (p,v)=>t.setIfInBounds p v) a.tmps=a.tmps.setIfInBounds 49 (.int .i64 x):=by simp
  rw[hf];refine wpIn_region ?_;rw[show ∀o:Oper,List.range (#[o]:Array Oper).size=[0] from fun _=>rfl,wpOpsIn_cons];refine FX (d:=5) (u:=.int .i64 x) (w':=W) hT rfl rfl rfl (by simp) ?_ hK;show Result.ok (Next.value ((a.tmps.setIfInBounds 49 (.int .i64 x)).getD 49 undef)) W=_;rw[jI,if_pos ⟨rfl,by omega⟩]
 case hbody =>
  intro l pre x W ⟨h1,hbel⟩ hpre;refine wpIn_block (wpIn_seq (wpIn_region ?_));rw[show ∀o p:Oper,List.range (#[o,p]:Array Oper).size=[0,1] from fun _ _=>rfl,wpOpsIn_cons]
  refine FX (d:=50) (u:=.int .i64 x) (w':=W) hT rfl rfl rfl (by simp) (by
   show Result.ok (Next.value (((a.tmps.setIfInBounds 49 (.int .i64 x)).setIfInBounds 5 (.int .i64 x)).getD 5 undef)) W=_
   rw[jI,if_pos ⟨rfl,by simp; omega⟩]) ?_
  rw[wpOpsIn_cons]
  refine FX (d:=51) (u:=.bool (x != 0)) (w':=W) hT rfl rfl rfl (by simp) (by
   show((do let u ←(do eqGuard .neq 35 (.tmp 50) (.const (.int .i64 0)) ((((a.tmps.setIfInBounds 49 (.int .i64 x)).setIfInBounds 5 (.int .i64 x)).setIfInBounds 50 (.int .i64 x)).getD 50 undef) (.int .i64 0); binOp .neq 35 ((((a.tmps.setIfInBounds 49 (.int .i64 x)).setIfInBounds 5 (.int .i64 x)).setIfInBounds 50 (.int .i64 x)).getD 50 undef) (.int .i64 0)); pure (.value u)):Sem Next).run Tryz.prog W=_;rw[jI,if_pos ⟨rfl,by simp; omega⟩]
   simp[eqGuard,binOp,Op.intCmp]) ?_
  show Code.wpIn (Fence.wide.inRound l) (2-1-1) Tryz.prog (Code.cond (.tmp 51) _ .skip) _ {tmps:=((((a.tmps.setIfInBounds 49 (.int .i64 x)).setIfInBounds 5 (.int .i64 x)).setIfInBounds 50 (.int .i64 x)).setIfInBounds 51 (.bool (x != 0))),defers:=[]} W;obtain⟨T,hTd⟩:∃T,T=((((a.tmps.setIfInBounds 49 (.int .i64 x)).setIfInBounds 5 (.int .i64 x)).setIfInBounds 50 (.int .i64 x)).setIfInBounds 51 (.bool (x != 0))):=⟨_,rfl⟩;rw[←hTd]
  have t51:T.getD 51 undef=.bool (x != 0):=by rw[hTd,jI,if_pos ⟨rfl,by simp; omega⟩]
  have t5:T.getD 5 undef=.int .i64 x:=by rw[hTd,jI,if_neg (by simp),jI,if_neg (by simp),jI,if_pos ⟨rfl,by simp; omega⟩]
  have t2:T.getD 2 undef=.pointer (some ⟨rb,0,none⟩):=by rw[hTd,jI,if_neg (by simp),jI,if_neg (by simp),jI,if_neg (by simp),jI,if_neg (by simp),h2]
  have tsz:78≤T.size:=by rw[hTd]; simpa using hsz
  clear hTd
  by_cases hx:x=0
  ·have e51:Act.eval {tmps:=T,defers:=[]} (.tmp 51)=.bool false:=t51.trans (by simp[hx]);refine wpIn_cond_false e51 (wpIn_skip ?_);simp only[Exit.inBlock,ownPostK];exact⟨KeepsOthers.refl _,Below.refl _ _,fun y hy=>(dc.1 hy).elim (h1 y) (fun h=>by rw[dh] at h; rw[h,hx]),hbel⟩
  ·have e51:Act.eval {tmps:=T,defers:=[]} (.tmp 51)=.bool true:=t51.trans (by simp[hx]);refine wpIn_cond_true e51 (wpIn_seq (wpIn_region ?_));rw[show ∀o p:Oper,List.range (#[o,p]:Array Oper).size=[0,1] from fun _ _=>rfl,wpOpsIn_cons]
   have e5:(execOp (Act.eval {tmps:=T,defers:=[]}) {dst:=some 52,op:=.move (.tmp 5),type:=35,pos:=r,after:=#[],guard:=none}).run Tryz.prog W=.ok (.value (.int .i64 x)) W:=by
    show Result.ok (Next.value (T.getD 5 undef)) W=_;rw[t5]
   refine FX (d:=52) (u:=.int .i64 x) (w':=W) hT rfl rfl rfl (by simp) e5 ?_;rw[wpOpsIn_cons];have hW:W.heap[rb]?=some (.cells #[v0] e0 (0,0)):=(hbel.block rb hrl).trans hrb
   letI:ô:=⟨fun _=>False,[],none⟩
   have hst:=qQ (P:=Tryz.prog) (w:=W) (t:=35) (u:=.int .i64 x) (n:=1) (b:=rb) (o:=0) (by kernel_rfl) rfl hW (by simp) (by simp[Value.cells,Value.oneCell'])
   have hst':(storeVar 35 ⟨rb,0,none⟩ (.int .i64 x)).run Tryz.prog W=.ok () (W.setRow rb #[.int .i64 x]):=by simpa[Value.cells] using hst
   have t52:(T.setIfInBounds 52 (.int .i64 x)).getD 52 undef=.int .i64 x:=by rw[jI,if_pos ⟨rfl,by omega⟩]
   have t2':(T.setIfInBounds 52 (.int .i64 x)).getD 2 undef=.pointer (some ⟨rb,0,none⟩):=by rw[jI,if_neg (by simp),t2]
   have e6:(execOp (Act.eval {tmps:=T.setIfInBounds 52 (.int .i64 x),defers:=[]}) {dst:=none,op:=.store 35 (.tmp 2) (.tmp 52),type:=0,pos:=r,after:=#[{on:=0,ground:=.data},{on:=0,ground:=.phase}],guard:=none}).run Tryz.prog W=.ok .skip (W.setRow rb #[.int .i64 x]):=by
    show((do Instr.storeAt 35 ((T.setIfInBounds 52 (.int .i64 x)).getD 2 undef) ((T.setIfInBounds 52 (.int .i64 x)).getD 52 undef); pure .skip):Sem Next).run Tryz.prog W=_;rw[t52,t2'];simp[Instr.storeAt,Instr.sureAddr,hst']
   refine aji (w':=W.setRow rb #[.int .i64 x]) hT rfl rfl rfl (by simp) e6 ?_;refine wpIn_ret ?_;simp only[Exit.inBlock,ownPostK];refine⟨⟨by simp,fun k o hk ho=>?_⟩,trivial,pre,x,rfl,h1,hx,hbel.os,hbel.tape,hbel.output,by simpa using hbel.size,fun k hk hne=>(setRow_other _ _ _ _ hne).trans (hbel.block k hk),⟨_,setRow_heap _ _ _ _ _ _ hW⟩⟩
   by_cases hk2:k=rb
   ·subst hk2; rw[hW] at hk; cases hk; simp[Obj.isCells] at ho
   ·rw[setRow_other _ _ _ _ hk2]; exact hk
 case hdone =>
  intro D xs W hD hS ⟨h1,hbel⟩ hDo;subst hS;exact hdone D W h1 hbel hD hDo
 case hstop =>
  intro D c pre W hD hS ⟨hc,pre',x,h3,h4,h5,h6⟩ hDo;subst hc;refine wpIn_ret (hstop D W x ?_ h6 hD hDo);obtain⟨t,rfl⟩:=hS;rw[h3,du,List.find?_append]
  have:List.find? (fun e=>e != 0) pre'=none:=eJ.2 fun y hy=>by simp[h4 y hy]
  rw[this];simp[h5]
end Go.Proofs.ZzM
end

noncomputable section
set_option maxRecDepth 100000
namespace Go.Proofs.ZzM
open Go Go.Am Go.RowKit
def fstC:Code→Code
 |.seq a _=>a
 |c=>c
def sndC:Code→Code
 |.seq _ b=>b
 |c=>c
def alp:Nat→Code→Code
 |0,c=>fstC c
 |n+1,c=>alp n (sndC c)
def ao8:Nat→Code→Code
 |0,c=>c
 |n+1,c=>ao8 n (sndC c)
def ckB:Code:=Tryz.f66.body.getD .skip
def ckA5:Code:=fstC (ao8 5 ckB |> fstC)
def ckRF:Code:=sndC (ao8 5 ckB |> fstC)
def Xw:Code:=sndC (ao8 5 ckB)
def ckPre:Code:=.seq (alp 0 ckB) (.seq (alp 1 ckB) (.seq (alp 2 ckB) (.seq (alp 3 ckB) (.seq (alp 4 ckB) ckA5))))
def aqj:Tryz.f66.body=some (.seq (alp 0 ckB) (.seq (alp 1 ckB) (.seq (alp 2 ckB) (.seq (alp 3 ckB) (.seq (alp 4 ckB) (.seq (.seq ckA5 ckRF) Xw)))))):=by kernel_rfl
def ck_pt:List (Nat×Ö):=[(135,FU),(133,D7),(131,tP),(132,yu)]
def ckE (ρ:Type):Env ρ:=Ù ck_pt []
abbrev ckR:Type:=Int ⊕ (List AV×List Blk)
def amG (S:St):Option Int:=match pH Tryz.prog Tryz.f66 S with
 |some v=>ă [tI] S.h v
 |none=>none
def ckK (e:Exit) (S:St):Option ckR:=match e with
 |.ret=>match amG S with
  |some n=>some (.inl n)
  |none=>none
 |.normal=>match decide (78≤S.t.length) with
  |true=>some (.inr ([lk S.t 1,lk S.t 2,lk S.t 48],S.h))
  |false=>none
 |_=>none
def ckH (x:Val Ä) (s:Val (.map tI Ð)) (n:Int):List Blk :=
 [.cells (flat Ä x),.cells [.int .i64 n],.cells (flat Ä x),.cells [.mp tI Ð s],.cells [.fn (.func 188) [] [.box 3 0]]]
def ckM (x:Val Ä):Option ckR :=
 Ã (Ν x.1 (0:Int) (1000000:Int)) fun r1=>ifb (!r1) (some (.inl 1)) (ifb (igt (Ú x.2.1) (12:Int)) (some (.inl 2)) (ifb (igt (Ú x.2.2.1) (40:Int)) (some (.inl 2)) (ifb (igt (Ú x.2.2.2.1) (12:Int)) (some (.inl 2)) (ifb (igt (Ú x.2.2.2.2.1) (40:Int)) (some (.inl 2)) (ifb (igt (Ú x.2.2.2.2.2) (10:Int)) (some (.inl 2))
  (Ã (ž x) fun r2=>ifb (ine r2 (0:Int)) (some (.inl r2)) (Ã (υ x) fun r3=>some (.inr ([.box 0 0,.box 1 0,.fn (.func 191) [] [.box 2 0,.box 4 0,.box 3 0]],ckH x r3 0)))))))))
def ck_pre (x:Val Ä):goC (ckE ckR) (kg (ckE ckR) 10) 66 [] 0 0 ckPre {t:=ā [Ä] x++List.replicate 77 .any,h:=[]} ckK=ckM x:=by kernel_rfl
def apn (ρ:Type):Env ρ:={ckE ρ with inl:=fun _=>false}
def ckS (x:Val Ä):Option Int :=
 Ã (qE x) fun r5=>ifb (igt (Ú r5) (59:Int)) (some (2:Int)) (ck ((2:Int)*(Ú x.2.1)) fun n6=>ck ((Ú r5)-(Ú x.2.1)) fun n7=>ck ((2:Int)*n7) fun n8=>ck (n6+n8) fun n9=>ck ((2:Int)*(Ú x.2.2.2.2.1)) fun n10=>ck (n9+n10) fun n11=>ifb (igt n11 (300:Int)) (some (2:Int)) (some (0:Int)))
def ckK2 (e:Exit) (S:St):Option Int:=match e with
 |.ret=>match lk S.t 2 with
  |.box 1 0=>match lkB S.h 1 with
   |.cells [.int .i64 n]=>some n
   |_=>none
  |_=>none
 |_=>none
def ck_suf (x:Val Ä) (s:Val (.map tI Ð)):goC (apn Int) (kg (apn Int) 10) 66 [] 0 0 Xw {t:=[.any,.box 0 0,.box 1 0]++List.replicate 75 .any,h:=ckH x s 0} ckK2=ckS x:=by kernel_rfl
def apm (x:Val Ä):Ā x=match ckM x with
 |none=>none
 |some (.inl n)=>some n
 |some (.inr _)=>Ã (υ x) fun s=>abK (nP x s) some (ckS x):=by
 unfold Ā Sz ckM ckS
 cases Ν x.1 (0:Int) (1000000:Int) with
 |none=>rfl
 |some r1 =>
 cases r1 with
 |false=>rfl
 |true =>
 simp only[Ã,ifb,d9]
 cases igt (Ú x.2.1) (12:Int) with
 |true=>rfl
 |false =>
 cases igt (Ú x.2.2.1) (40:Int) with
 |true=>rfl
 |false =>
 cases igt (Ú x.2.2.2.1) (12:Int) with
 |true=>rfl
 |false =>
 cases igt (Ú x.2.2.2.2.1) (40:Int) with
 |true=>rfl
 |false =>
 cases igt (Ú x.2.2.2.2.2) (10:Int) with
 |true=>rfl
 |false =>
 cases ž x with
 |none=>rfl
 |some r2 =>
 simp only
 cases ine r2 (0:Int) with
 |true=>rfl
 |false =>
 cases υ x with
 |none=>rfl
 |some r3=>rfl
def ara {x:Val Ä} {q:List AV×List Blk} (h:ckM x=some (.inr q)):((x.2.2.1:List (Val Â)).length≤1000∧(x.2.2.2.1:List (Val ő)).length≤1000∧(x.2.2.2.2.1:List (Val Ê)).length≤1000∧(x.2.2.2.2.2:List (Val Â)).length≤1000) ∧
 ∃s,υ x=some s∧q=([.box 0 0,.box 1 0,.fn (.func 191) [] [.box 2 0,.box 4 0,.box 3 0]],ckH x s 0):=by
 unfold ckM at h
 cases h0:Ν x.1 (0:Int) (1000000:Int) with
 |none=>rw[h0] at h; cases h
 |some r1 =>
 rw[h0] at h
 cases r1 with
 |false=>cases h
 |true =>
 simp only[Ã,ifb,d9] at h
 cases h1:igt (Ú x.2.1) (12:Int) with
 |true=>rw[h1] at h; cases h
 |false =>
 rw[h1] at h
 cases h2:igt (Ú x.2.2.1) (40:Int) with
 |true=>rw[h2] at h; cases h
 |false =>
 rw[h2] at h
 cases h3:igt (Ú x.2.2.2.1) (12:Int) with
 |true=>rw[h3] at h; cases h
 |false =>
 rw[h3] at h
 cases h4:igt (Ú x.2.2.2.2.1) (40:Int) with
 |true=>rw[h4] at h; cases h
 |false =>
 rw[h4] at h
 cases h5:igt (Ú x.2.2.2.2.2) (10:Int) with
 |true=>rw[h5] at h; cases h
 |false =>
 rw[h5] at h
 cases h6:ž x with
 |none=>rw[h6] at h; cases h
 |some r2 =>
 rw[h6] at h;simp only at h
 cases h7:ine r2 (0:Int) with
 |true=>rw[h7] at h; cases h
 |false =>
 rw[h7] at h
 cases h8:υ x with
 |none=>rw[h8] at h; cases h
 |some r3 =>
 rw[h8] at h
 have lt:∀{α:Type} (l:List α) (n:Nat),igt (Ú l) (n:Int)=false→l.length≤n:=by
  intro α l n h;unfold Ú at h;rw[PS] at h;simp only[igt,gt_iff_lt,decide_eq_false_iff_not] at h;omega
 simp only[Option.some.injEq,Sum.inr.injEq] at h;exact⟨⟨by have:=lt x.2.2.1 40 h2; omega,by have:=lt x.2.2.2.1 12 h3; omega,by have:=lt x.2.2.2.2.1 40 h4; omega,by have:=lt x.2.2.2.2.2 10 h5; omega⟩,r3,rfl,h.symm⟩
def F6 {α β:Type} {f:α→Option β}:∀{l:List α} {m:List β},PW f l=some m→m.length=l.length∧∀(i:Nat) (a:α),l[i]?=some a→∃b,m[i]?=some b∧f a=some b
 |[],m,h=>by cases h; exact⟨rfl,fun i a ha=>by simp at ha⟩
 |a::l,m,h=>by
  unfold PW at h
  cases ha:f a with
  |none=>rw[ha] at h; cases h
  |some b =>
   rw[ha] at h
   cases hl:PW f l with
   |none=>rw[hl] at h; cases h
   |some m' =>
    rw[hl] at h;cases h;obtain⟨h1,h2⟩:=F6 hl;refine⟨by simp[h1],fun i c hc=>?_⟩
    cases i with
    |zero=>simp at hc; subst hc; exact⟨b,by simp,ha⟩
    |succ i=>simpa using h2 i c (by simpa using hc)
def OI (l:List Int):upE (fun j=>l[j]?.getD 0) l.length=l:=by
 unfold upE;refine List.ext_getElem (by simp) fun i h1 h2=>?_;simp at h1;simp[h1]
def CR.below {n₀:Nat} {w W:World} {av:Nat→Prop} (hb:Below n₀ w W) (hn:w.heap.size≤n₀) {t:Ty} {x:Val t} {vs:List Value} (h:CR w av t x vs):CR W av t x vs :=
 h.keep fun b hlt ha=>⟨hb.block b (dA hlt hn),ha⟩
def Pq {w:World} {av:Nat→Prop} {xs:List (Int×Int)} {v:Value} (h:CR w av (.slice Â) xs [v]):∃base cap b off,v=.slice base xs.length cap∧(0<xs.length→base=some ⟨b,off,none⟩∧b<w.heap.size) ∧
 ∀j,j<xs.length→w.cell? ⟨b,off+j*2,none⟩=some (.int .i64 (xs[j]?.getD (0,0)).1)∧w.cell? ⟨b,off+j*2+1,none⟩=some (.int .i64 (xs[j]?.getD (0,0)).2):=by
 obtain⟨base,cap,e,hc,hx⟩:=h;cases e;rcases hx with hx|⟨b,off,hb,hav,hlt,hx⟩
 ·refine⟨base,cap,0,0,rfl,fun h=>?_,fun j hj=>?_⟩
  ·rw[show xs=[] from hx] at h; simp at h
  ·rw[show xs=[] from hx] at hj; simp at hj
 ·refine⟨base,cap,b,off,rfl,fun _=>⟨hb,hlt⟩,fun j hj=>?_⟩;obtain⟨us,h1,h2⟩:=hx j xs[j] (cQ hj);obtain⟨u1,u2,e1,h3,h4⟩:=h1;have e3:u1=[.int .i64 xs[j].1]:=h3;have e4:u2=[.int .i64 xs[j].2]:=h4;subst e3 e4 e1;have s:(Â).size=2:=rfl;rw[s] at h2;have c1:=h2 0 _ rfl;have c2:=h2 1 _ rfl;rw[cQ hj];exact⟨by simpa using c1,by simpa[fc] using c2⟩
end Go.Proofs.ZzM
end

noncomputable section
set_option maxRecDepth 100000
namespace Go.Proofs.ZzM
open Go Go.Am Go.RowKit
section
variable {w W W':World}
abbrev noG:Nat→Prop:=fun _=>False
def aal (w:World) (n:Int):kZ w noG tI n (.int .i64 n):=⟨[.int .i64 n],rfl,rfl⟩
def aqQ {sb:Nat} {mv:Value} {e:TypeId} {s:Val (.map tI Ð)} (h:w.heap[sb]?=some (.cells #[mv] e (0,0))) (hm:CR w noG (.map tI Ð) s [mv]):kZ w noG (.ptr (.map tI Ð)) s (.pointer (some ⟨sb,0,none⟩)):=by
 letI:ô:=⟨fun _=>False,[],none⟩
 exact⟨[.pointer (some ⟨sb,0,none⟩)],⟨sb,0,[mv],rfl,id,ę h,hm,Ő.of_cells h⟩,rfl⟩
def aqB {y:Int} {u:Value} (h:RR w noG [tI] y u):u=.int .i64 y:=by
 obtain⟨us,h1,rfl⟩:=h;have:us=[.int .i64 y]:=h1;rw[this]; rfl
def aoW (h1:∀b,b<W.heap.size→W'.heap[b]?=W.heap[b]?) (h2:W.heap.size≤W'.heap.size) (h3:W'.os=W.os) (h4:W'.tape=W.tape) (h5:W'.output=W.output):W.grownBy W' none :=
 ⟨h3,h4,h5,h2,fun b hb _=>h1 b hb⟩
def aaI {f:Nat} {p:Ö} (hp:Î Tryz.prog f p) (hrs:p.rs=[tI]) {x:Val (tyL p.ts)} {y:Int} (hF:p.F x=some (hrs▸(show Val (tyL [tI]) from y))) {vals:List Value} (ha:AL W noG p.ts x vals) :
 CallsIn Fence.wide 0 Tryz.prog f vals.toArray W fun e W''=>e=.returned (.int .i64 y)∧W.grownBy W'' none:=by
 obtain⟨ts,rs,F⟩:=p;dsimp only at hrs hF ha x;subst hrs;refine(hp noG x y hF W vals (fun _ h=>h.elim) ha).2.mono fun e w' ⟨u,h0,h1,h2,h3,h4,h5,h6⟩=>⟨?_,aoW h2 h3 h4 h5 h6⟩;rw[h0,aqB h1]
def abg {s:Val (.map tI Ð)} {a b y:Int} (hF:Ň a b s=some y) {sb:Nat} {mv:Value} {e:TypeId} (h:W.heap[sb]?=some (.cells #[mv] e (0,0))) (hm:CR W noG (.map tI Ð) s [mv]) :
 CallsIn Fence.wide 0 Tryz.prog 188 #[.int .i64 a,.int .i64 b,.pointer (some ⟨sb,0,none⟩)] W fun e W''=>e=.returned (.int .i64 y)∧W.grownBy W'' none :=
 aaI agW rfl (x:=(a,b,s)) (y:=y) hF (vals:=[.int .i64 a,.int .i64 b,.pointer (some ⟨sb,0,none⟩)]) ⟨_,_,rfl,aal _ _,_,_,rfl,aal _ _,_,rfl,aqQ h hm⟩
def alC {mv:Value} {s:Val (.map tI Ð)} (hm:CR W noG (.map tI Ð) s [mv]):kZ W noG (.map tI Ð) s mv:=⟨[mv],hm,rfl⟩
def aiK {x:Val Ä} {cs:Array Value} (hb:CR W noG Ä x cs.toList):kZ W noG Ä x (.agg cs):=⟨cs.toList,hb,by show Value.agg cs=Value.agg cs.toList.toArray; rw[Array.toArray_toList]⟩
def alO {x:Val Ä} {s:Val (.map tI Ð)} {i y:Int} (hF:Ψ x s i=some y) {mv:Value} {cs:Array Value} (hb:CR W noG Ä x cs.toList) (hm:CR W noG (.map tI Ð) s [mv]) :
 CallsIn Fence.wide 0 Tryz.prog 192 #[.agg cs,mv,.int .i64 i] W fun e W''=>e=.returned (.int .i64 y)∧W.grownBy W'' none :=
 aaI aaS rfl (x:=(x,s,i)) (y:=y) hF (vals:=[.agg cs,mv,.int .i64 i]) ⟨_,_,rfl,aiK hb,_,_,rfl,alC hm,_,rfl,aal _ _⟩
def aez {x:Val Ä} {s:Val (.map tI Ð)} {i y:Int} (hF:Ō x s i=some y) {mv:Value} {cs:Array Value} (hb:CR W noG Ä x cs.toList) (hm:CR W noG (.map tI Ð) s [mv]) :
 CallsIn Fence.wide 0 Tryz.prog 193 #[.agg cs,mv,.int .i64 i] W fun e W''=>e=.returned (.int .i64 y)∧W.grownBy W'' none :=
 aaI OB rfl (x:=(x,s,i)) (y:=y) hF (vals:=[.agg cs,mv,.int .i64 i]) ⟨_,_,rfl,aiK hb,_,_,rfl,alC hm,_,rfl,aal _ _⟩
end
def pF {w:World} {av:Nat→Prop} {t:Ty} {xs:List (Val t)} {vs:List Value} (h:CR w av (.slice t) xs vs):∃base cap,vs=[.slice base xs.length cap]:=by
 obtain⟨base,cap,e,_⟩:=h;exact⟨base,cap,e⟩
def aoo {x:Val Ä} {s:Val (.map tI Ð)} {l1 l2 l3 l4:List Int} (h1:PW (fun u=>Ň u.1 u.2 s) (x.2.2.1:List (Int×Int))=some l1) (h2:PW (fun i=>Ψ x s i) (yc (x.2.2.2.1:List (Val ő)).length)=some l2)
 (h3:PW (fun i=>Ō x s i) (yc (x.2.2.2.2.1:List (Val Ê)).length)=some l3) (h4:PW (fun u=>Ň u.1 u.2 s) (x.2.2.2.2.2:List (Int×Int))=some l4)
 (hlen:(x.2.2.1:List (Val Â)).length≤1000∧(x.2.2.2.1:List (Val ő)).length≤1000∧(x.2.2.2.2.1:List (Val Ê)).length≤1000∧(x.2.2.2.2.2:List (Val Â)).length≤1000)
 {w:World} {bb tb sb:Nat} {te te2 te3:TypeId} {cb:Array Value} {mv:Value} (hbb:w.heap[bb]?=some (.cells cb te (0,0))) (hbk:CR w noG Ä x cb.toList) (htb:w.heap[tb]?=some (.cells #[.func (.func 188) #[] #[.pointer (some ⟨sb,0,none⟩)]] te2 (0,0)))
 (hsb:w.heap[sb]?=some (.cells #[mv] te3 (0,0))) (hmv:CR w noG (.map tI Ð) s [mv]) :
 SeqStopsK Fence.wide 1 Tryz.prog 191 #[.pointer (some ⟨bb,0,none⟩),.pointer (some ⟨tb,0,none⟩),.pointer (some ⟨sb,0,none⟩)] (fun x:Int=>#[.int .i64 x]) (Below w.heap.size) (fun xs=>xs=l1++(l2++(l3++l4))) (fun pre=>pre <+: (l1++(l2++(l3++l4)))) (l1++(l2++(l3++l4))).length w:=by
 intro l J Jx W hbel hJ hJx hY h0;obtain⟨fl,r0,e0,hfl,hr0⟩:=id hbk;obtain⟨ga,r1,e1,hga,hr1⟩:=hr0;obtain⟨us,r2,e2,hus,hr2⟩:=hr1;obtain⟨lo,r3,e3,hlo,hr3⟩:=hr2;obtain⟨co,ko,e4,hco,hko⟩:=hr3;obtain⟨f1,f2,e5,hf1,hf2⟩:=hfl;have e6:f1=[.int .i64 x.1.1]:=hf1;have e7:f2=[.int .i64 x.1.2]:=hf2;obtain⟨gab,gac,e8⟩:=pF hga;obtain⟨lob,loc,e9⟩:=pF hlo;obtain⟨cob,coc,e10⟩:=pF hco;obtain⟨usb0,usc0,e11⟩:=pF hus;obtain⟨kob0,koc0,e12⟩:=pF hko;rw[e11] at hus;rw[e12] at hko;obtain⟨usb,usc,ub,uo,e13,hub,hU⟩:=Pq hus;obtain⟨kob,koc,kb,kof,e14,hkb,hK⟩:=Pq hko;rw[e13] at e11;rw[e14] at e12
 have hcb:cb=#[.int .i64 x.1.1,.int .i64 x.1.2,.slice gab (x.2.1:List (Val Ð)).length gac,.slice usb (x.2.2.1:List (Val Â)).length usc,.slice lob (x.2.2.2.1:List (Val ő)).length loc,.slice cob (x.2.2.2.2.1:List (Val Ê)).length coc,.slice kob (x.2.2.2.2.2:List (Val Â)).length koc]:=by
  rw[←d8,e0,e1,e2,e3,e4,e5,e6,e7,e8,e9,e10,e11,e12];rfl
 obtain⟨g1,q1⟩:=F6 h1;obtain⟨g2,q2⟩:=F6 h2;obtain⟨g3,q3⟩:=F6 h3;obtain⟨g4,q4⟩:=F6 h4
 have gl2:l2.length=(x.2.2.2.1:List (Val ő)).length:=by rw[g2]; simp[yc]
 have gl3:l3.length=(x.2.2.2.2.1:List (Val Ê)).length:=by rw[g3]; simp[yc]
 have up1:upE (fun j=>l1[j]?.getD 0) (x.2.2.1:List (Val Â)).length=l1:=by rw[←g1]; exact OI l1
 have up2:upE (fun j=>l2[j]?.getD 0) (x.2.2.2.1:List (Val ő)).length=l2:=by rw[←gl2]; exact OI l2
 have up3:upE (fun j=>l3[j]?.getD 0) (x.2.2.2.2.1:List (Val Ê)).length=l3:=by rw[←gl3]; exact OI l3
 have up4:upE (fun j=>l4[j]?.getD 0) (x.2.2.2.2.2:List (Val Â)).length=l4:=by rw[←g4]; exact OI l4
 have at1:∀{xs:List (Int×Int)} {ls:List Int},(∀(i:Nat) (a:Int×Int),xs[i]?=some a→∃b,ls[i]?=some b∧Ň a.1 a.2 s=some b)→∀j,j<xs.length→Ň (xs[j]?.getD (0,0)).1 (xs[j]?.getD (0,0)).2 s=some (ls[j]?.getD 0):=by
  intro xs ls hq j hj;obtain⟨b,hb,hf⟩:=hq j xs[j] (cQ hj);rw[cQ hj,hb];exact hf
 have at2:∀{n:Nat} {ls:List Int} {f:Int→Option Int},(∀(i:Nat) (a:Int),(yc n)[i]?=some a→∃b,ls[i]?=some b∧f a=some b)→∀j,j<n→f (j:Int)=some (ls[j]?.getD 0):=by
  intro n ls f hq j hj;obtain⟨b,hb,hf⟩:=hq j j (by simp[yc,hj]);rw[hb]; exact hf
 have hbel':∀{W':World},Below w.heap.size W W'→Below w.heap.size w W':=fun h=>hbel.trans h;have hcell:∀{W':World} {p:Addr} {v:Value},Below w.heap.size w W'→w.cell? p=some v→p.block<w.heap.size→W'.cell? p=some v:=fun {W'} {p} {v} h hc hp=>(h.cell (p:=p) hp).trans hc;have lb:=ę hbb;have lt:=ę htb;have ls:=ę hsb
 have:=aow te 1 (by omega) l w.heap.size bb tb sb (.int .i64 x.1.1) (.int .i64 x.1.2) (.slice gab (x.2.1:List (Val Ð)).length gac) mv lb lt ls
  ub uo (x.2.2.1:List (Val Â)).length usc kb kof (x.2.2.2.2.2:List (Val Â)).length koc usb kob lob cob (x.2.2.2.1:List (Val ő)).length loc (x.2.2.2.2.1:List (Val Ê)).length coc hub hkb
  (fun j=>(x.2.2.1:List (Int×Int))[j]?.getD (0,0)) (fun j=>(x.2.2.2.2.2:List (Int×Int))[j]?.getD (0,0)) (fun j=>l1[j]?.getD 0) (fun j=>l2[j]?.getD 0) (fun j=>l3[j]?.getD 0) (fun j=>l4[j]?.getD 0)
  hlen.1 hlen.2.1 hlen.2.2.1 hlen.2.2.2 W ((hbel.block bb lb).trans (by rw[hbb,hcb])) (hcell hbel (by simp[World.cell?,htb]) lt) (hcell hbel (by simp[World.cell?,hsb]) ls)
  (fun j hj=>⟨hcell hbel (hU j hj).1 (hub (by omega)).2,hcell hbel (hU j hj).2 (hub (by omega)).2⟩) (fun j hj=>⟨hcell hbel (hK j hj).1 (hkb (by omega)).2,hcell hbel (hK j hj).2 (hkb (by omega)).2⟩)
  (fun j hj W' hW=>abg (at1 q1 j hj) (((hbel' hW).block sb ls).trans hsb) (CR.below (hbel' hW) (cR _) hmv))
  (fun j hj W' hW=>abg (at1 q4 j hj) (((hbel' hW).block sb ls).trans hsb) (CR.below (hbel' hW) (cR _) hmv))
  (fun j hj W' hW=>alO (at2 q2 j hj) (by have:=CR.below (hbel' hW) (cR _) hbk; rwa [hcb] at this) (CR.below (hbel' hW) (cR _) hmv))
  (fun j hj W' hW=>aez (at2 q3 j hj) (by have:=CR.below (hbel' hW) (cR _) hbk; rwa [hcb] at this) (CR.below (hbel' hW) (cR _) hmv))
  J Jx (fun pre W1 W2 hj hg=>hJ pre W1 W2 none hj hg (fun r e=>by cases e)) (fun pre W1 W2 hj hg=>hJx pre W1 W2 none hj hg (fun r e=>by cases e))
  (fun pre y W1 hj hl=>hY pre y W1 hj (by simp only[cX]; omega)) h0 hbel.size
 rw[up1,up2,up3,up4] at this;exact this
end Go.Proofs.ZzM
end

noncomputable section
set_option maxRecDepth 100000
namespace Go.Proofs.ZzM
open Go Go.Am Go.RowKit
section
variable [ô] {ρ:Type} {ν:Nat→Value} {w:World}
def peel (hq:ô.Q=none) {E:Env ρ} {call:List Nat→Bool→Nat→List AV→List Blk→(AV→List Blk→Option ρ)→Option ρ} {L:Nat} (hE:l5 E L call) (hD:mm E L call) (hj:E.joins=fun _ _ _ _=>none) {fid:Nat} {path:List Nat} (hp:path.length+2=L) {x y c:Code} {bid n:Nat} {S:St} {K:Exit→St→Option ρ} {r:ρ} {a:Act} {Q:Exit→Act→World→Prop}
 (hL:∀z∈ð bid x,oG E path fid z.1 z.2) (e:goC E call fid path 0 bid (.seq x y) S K=some r) (H:Sim ν S a w)
 (hn:∀ν' S' a' w',Sim ν' S' a' w'→Ev 0 ν S.h w ν' S'.h w'→goC E call fid path 0 bid y S' K=some r→c.wpIn Fence.wide n E.P Q a' w')
 (hx:∀ν' S' a' w' e,e≠.normal→Sim ν' S' a' w'→Ev 0 ν S.h w ν' S'.h w'→K e S'=some r→Q e a' w'):(Code.seq x c).wpIn Fence.wide n E.P Q a w:=by
 simp only[goC,hj] at e;have hgo:=lQ hE hD hp x bid S _ ν a w hL e H (eA _);rw[IU hq] at hgo;refine wpIn_seq (wpIn_wide.2 (wpIn_wide.1 (wpIn_mono hgo fun e' a' w' ha=>?_)));obtain⟨ν',S',h1,h2,h3,h4,h5⟩:=ha
 cases e' with
 |normal=>exact hn ν' S' a' w' h1 h2 h5
 |exit id=>exact hx ν' S' a' w' _ (by simp) h1 h2 h5
 |goto l=>exact hx ν' S' a' w' _ (by simp) h1 h2 h5
 |ret=>exact hx ν' S' a' w' _ (by simp) h1 h2 h5
 |panic ch=>exact hx ν' S' a' w' _ (by simp) h1 h2 h5
 |outgrown=>exact hx ν' S' a' w' _ (by simp) h1 h2 h5
end
def ak3 {T:Array Value} {rb:Nat} {n:Int} {e:TypeId} {W:World} (h2:T.getD 2 undef=.pointer (some ⟨rb,0,none⟩)) (hc:W.heap[rb]?=some (.cells #[.int .i64 n] e (0,0))):(results Tryz.f66 T).run Tryz.prog W=.ok (.int .i64 n) W:=by
 letI:ô:=⟨fun _=>False,[],none⟩
 have hl:(loadVar 35 ⟨rb,0,none⟩).run Tryz.prog W=.ok (.int .i64 n) W:=by
  have:=vx (P:=Tryz.prog) (w:=W) (t:=35) (agg:=false) (n:=1) (by kernel_rfl) (us:=[.int .i64 n]) rfl (fun _=>rfl) (a:=⟨rb,0,none⟩) (fun j v hj=>by
   have:=Ő.of_cells hc j v (by simpa using hj)
   cases j with
   |zero=>simpa[Addr.add] using this
   |succ j=>simp at hj)
  exact this
 have hr:Tryz.f66.results=#[.cell 2 35]:=by kernel_rfl
 unfold results;rw[hr,Array.mapM_eq_mapM_toList];simp only[Sem.run_bind,Sem.run_map,List.mapM_cons,List.mapM_nil,h2,asAddr,Sem.run_pure,Result.andThen_ok,hl];rfl
def HR_ghost {G:Nat→Prop} {D D':List Deferred} {Q Q':Option Nat} {ν:Nat→Value} {h:List Blk} {w:World} (H:@HR ⟨G,D,Q⟩ ν h w):@HR ⟨G,D',Q'⟩ ν h w :=
 @HR.mk ⟨G,D',Q'⟩ ν h w (@HR.blk ⟨G,D,Q⟩ ν h w H) (@HR.inj ⟨G,D,Q⟩ ν h w H) (@HR.ghlt ⟨G,D,Q⟩ ν h w H) (@HR.ghne ⟨G,D,Q⟩ ν h w H)
def ari [ô] {ν:Nat→Value} {h:List Blk} {w:World} {x:Val Ä} {us:List Value} (hv:ĉ (VRc ν h w) (flat Ä x) us):CR w noG Ä x us:=by
 have h1:æ Ä (flat Ä x)=some x:=rfl;have h2:ĉ (VRs w (Av ν h)) (flat Ä x) us:=hv.mono fun c u hu=>hu.1.data;exact CR.mono (fun _ hf=>hf.elim) (Ū h1 h2)
def DM (G:Nat→Prop) (y:Int) (w:World) (e:Ending) (w':World):Prop :=
 ∃u,e=.returned u∧RR w' G [tI] y u∧(∀b,b<w.heap.size→w'.heap[b]?=w.heap[b]?)∧w.heap.size≤w'.heap.size∧w'.os=w.os∧w'.tape=w.tape∧w'.output=w.output
def aiy {G:Nat→Prop} {y:Int} {w0 w:World} {a:Act} {D rb:Nat} {e:TypeId} (hd:a.defers=[ahY D]) (hD:w.heap[D]?=some (.deferred (some []))) (h2:a.tmps.getD 2 undef=.pointer (some ⟨rb,0,none⟩)) (hc:w.heap[rb]?=some (.cells #[.int .i64 y] e (0,0)))
 (hb:∀b,b<w0.heap.size→w.heap[b]?=w0.heap[b]?) (hDl:w0.heap.size≤D) (hsz:w0.heap.size≤w.heap.size) (h3:w.os=w0.os) (h4:w.tape=w0.tape) (h5:w.output=w0.output):LeavesInM Fence.wide 2 Tryz.prog Tryz.f66 a.tmps (DM G y w0) a.defers .returning w:=by
 rw[hd]
 have hne:rb≠D:=fun h=>by rw[h,hD] at hc; cases hc
 have ho:∀b,b≠D→(w.putObj D (.deferred none)).heap[b]?=w.heap[b]?:=fun b hb=>by
  simp only[World.putObj,fe];rw[if_neg (fun h=>hb h.symm)]
 refine⟨by simp,.inl ⟨D,_,rfl,run_takeDeferred hD,?_⟩⟩;refine⟨.int .i64 y,ak3 h2 ((ho rb hne).trans hc),.int .i64 y,rfl,⟨[.int .i64 y],rfl,rfl⟩,fun b hlt=>(ho b (by omega)).trans (hb b hlt),by simpa[World.putObj] using hsz,h3,h4,h5⟩
def arb (S:St):ckK .ret S=(amG S).map .inl:=by
 unfold ckK
 cases amG S<;>rfl
def ajV (S:St):ckK .normal S=if decide (78≤S.t.length)=true then some (.inr ([lk S.t 1,lk S.t 2,lk S.t 48],S.h)) else none:=by
 unfold ckK
 cases decide (78≤S.t.length)<;>rfl
def jA [ô] {ρ:Type} {E:Env ρ} (h0:E.loops=oZ []) {path:List Nat} {fid bid:Nat} {b:Code}:oG E path fid bid b:=fun m S K r ν a w e=>by
 rw[h0] at e;cases e
def aqF:Code→String
 | .region _ ops _ => ((ops[0]?).map fun o => o.pos).getD ""
 | _ => ""
def rfA:Code→Code
 |.block _ (.rangeFunc _ _ a _)=>a
 |_=>.skip
def rfB:Code→Code
 |.block _ (.rangeFunc _ _ _ (.block _ (.seq a _)))=>a
 |_=>.skip
def rfC:Code→Code
 |.block _ (.rangeFunc _ _ _ (.block _ (.seq _ (.cond _ (.seq a _) _))))=>a
 |_=>.skip
def aq9:ckRF=Code.block 0 (Code.rangeFunc (.tmp 48) #[49] (ahB (aqF (rfA ckRF))) (ap1 (aqF (rfB ckRF)) (aqF (rfC ckRF)))):=by kernel_rfl
def aqi:∀e∈ck_pt,Î Tryz.prog e.1 e.2:=Á TH (Á TG (Á BK (Á TJ Æ)))
def amH {e:Exit} {S:St} {n:Int} (h:ckK2 e S=some n):e=.ret∧lk S.t 2=.box 1 0∧lkB S.h 1=.cells [.int .i64 n]:=by
 unfold ckK2 at h
 split at h
 ·split at h
  ·rename_i h2
   split at h
   ·rename_i h3;cases h;exact⟨rfl,h2,h3⟩
   ·cases h
  ·cases h
 ·cases h
def aea [ô] {ν:Nat→Value} {h:List Blk} {w:World} {n:Int} {id:Nat} (H:HR ν h w) (hl:lkB h id=.cells [.int .i64 n]):∃b e,ν id=.pointer (some ⟨b,0,none⟩)∧w.heap[b]?=some (.cells #[.int .i64 n] e (0,0)):=by
 have hB:=H.blk id;rw[hl] at hB;obtain⟨b,c,e,h1,h2,h3⟩:=hB;obtain⟨u,h4,h5⟩:=h3.one;have h6:u=.int .i64 n:=h5.1;refine⟨b,e,h1,?_⟩;rw[h2]
 have:c=#[.int .i64 n]:=by rw[←d8,h4,h6]
 rw[this]
def AM [ô] {ν:Nat→Value} {h:List Blk} {w:World} {id off:Nat} {v:Value} {b:Nat} (hv:VR ν h w (.box id off) v) (hb:ν id=.pointer (some ⟨b,0,none⟩)):v=.pointer (some ⟨b,off,none⟩):=by
 obtain⟨cs,b',h1,h2,h3⟩:=hv;rw[hb] at h2;cases h2;exact h3
def aq8 {G:Nat→Prop} {x:Val Ä} {s:Val (.map tI Ð)} {y:Int} (hS:ckS x=some y) {ν:Nat→Value} {w0 w6 W:World} {a:Act} {D:Nat} (H:@HR ⟨G,[],none⟩ ν (ckH x s 0) w6) (hb:Below w6.heap.size w6 W) (hD:w6.heap.size≤D) (hDo:W.heap[D]?=some (.deferred (some []))) (hd:a.defers=[ahY D]) (hlen:78≤a.tmps.size)
 (t1:@VR ⟨G,[],none⟩ ν (ckH x s 0) w6 (.box 0 0) (a.tmps.getD 1 undef)) (t2:@VR ⟨G,[],none⟩ ν (ckH x s 0) w6 (.box 1 0) (a.tmps.getD 2 undef))
 (h0:∀b,b<w0.heap.size→w6.heap[b]?=w0.heap[b]?∧¬ag8 ν (ckH x s 0) b) (hsz:w0.heap.size≤w6.heap.size) (h3:w6.os=w0.os) (h4:w6.tape=w0.tape) (h5:w6.output=w0.output) :
 Xw.wpIn Fence.wide 2 Tryz.prog (bodyPostM Fence.wide 2 Tryz.prog Tryz.f66 (DM G y w0)) a W:=by
 have hlive:∀b,ag8 ν (ckH x s 0) b→b<w6.heap.size:=fun b hl=>@HR.ltA ⟨G,[],none⟩ _ _ _ H b (.inl hl)
 have t1':∃b,ν 0=.pointer (some ⟨b,0,none⟩)∧a.tmps.getD 1 undef=.pointer (some ⟨b,0,none⟩):=by
  obtain⟨cs,b,_,h2,h3⟩:=t1;exact⟨b,h2,h3⟩
 have t2':∃b,ν 1=.pointer (some ⟨b,0,none⟩)∧a.tmps.getD 2 undef=.pointer (some ⟨b,0,none⟩):=by
  obtain⟨cs,b,_,h2,h3⟩:=t2;exact⟨b,h2,h3⟩
 letI:ô:=⟨G,[ahY D],none⟩
 have H1:HR ν (ckH x s 0) w6:=HR_ghost H;have H2:HR ν (ckH x s 0) W:=(H1.grow (fun b hlt=>hb.block b hlt) hb.size hb.os hb.tape hb.output 0).2;have hlib:OG (apn Int):=SF aqi (apn Int) rfl rfl rfl rfl rfl (ir rfl);have hdraw:∀L call,l5 (apn Int) L call→mm (apn Int) L call:=Ff hmix;have hl0:(apn Int).loops=oZ []:=rfl;have hcall:=mS (.inr fun _=>rfl) hlib hdraw (fun n hn hE path f fn c _ _ _ z _=>jA hl0) 10 (cR _);have hEnv:l5 (apn Int) 2 (kg (apn Int) 10):=⟨.inr (qG 9),hcall,hlib.plain,hlib.clone,hlib.joins⟩;have law:=ck_suf x s;rw[hS] at law
 have sim:Sim ν {t:=[.any,.box 0 0,.box 1 0]++List.replicate 75 .any,h:=ckH x s 0} a W:=by
  refine⟨hd,by simpa using hlen,fun i=>?_,H2⟩;simp only[SC];rcases i with _|_|_|i
  ·trivial
  ·obtain⟨b,g1,g2⟩:=t1';exact⟨_,b,rfl,g1,g2⟩
  ·obtain⟨b,g1,g2⟩:=t2';exact⟨_,b,rfl,g1,g2⟩
  ·trivial
 refine wpIn_wide.2 (wpIn_wide.1 (wpIn_mono (lQ hEnv (hdraw _ _ hEnv) rfl Xw 0 _ _ ν a W (fun z _=>jA hl0) law sim (eA _)) fun e a' w' ha=>?_));obtain⟨ν',S',g1,g2,_,_,g5⟩:=ha;obtain⟨rfl,k2,k3⟩:=amH g5;obtain⟨rb,te,r1,r2⟩:=aea g1.heap k3;have r3:=g1.tmps 2;rw[k2] at r3;have r4:=AM r3 r1;have hDlt:=ę hDo;refine aiy (w:=w') (a:=a') (G:=G) (y:=y) (w0:=w0) (D:=D) (rb:=rb) g1.defers ((g2.keep D hDlt fun hl=>by have:=hlive D hl; omega).1.trans hDo) r4 r2 (fun b hlt=>?_) (by omega) (by have:=g2.size; have:=hb.size; omega) (g2.os.trans (hb.os.trans h3)) (g2.tape.trans (hb.tape.trans h4)) (g2.output.trans (hb.output.trans h5));have h01:=h0 b hlt
 have hlt6:b<w6.heap.size:=by omega
 have hltW:b<W.heap.size:=by have:=hb.size; omega
 exact(g2.keep b hltW h01.2).1.trans ((hb.block b hlt6).trans h01.1)
set_option maxHeartbeats 2000000 in
def ajW (G:Nat→Prop) (x:Val Ä) (y:Int) (hF':Ā x=some y) (w:World) (vals:List Value) (hG:∀b,G b→b<w.heap.size) (hAL:AL w G [Ä] x vals) :
 (∃fn c,Tryz.prog.funcs[66]?=some fn∧fn.body=some c)∧CallsIn Fence.wide 0 Tryz.prog 66 vals.toArray w (DM G y w):=by
 rw[apm] at hF'
 letI:ô:=⟨G,[],none⟩
 have hpt:=aqi;have hlib:OG (ckE ckR):=SF hpt (ckE ckR) rfl rfl rfl rfl rfl (ir rfl);have hdraw:∀L call,l5 (ckE ckR) L call→mm (ckE ckR) L call:=Ff hmix;have h0:(ckE ckR).loops=oZ []:=rfl;have hcall:=mS (.inl ⟨rfl,rfl⟩) hlib hdraw (fun n hn hE path f fn c _ _ _ z _=>jA h0) 10 (cR _);have hEnv:l5 (ckE ckR) 2 (kg (ckE ckR) 10):=⟨.inr (qG 9),hcall,hlib.plain,hlib.clone,hlib.joins⟩;have hD:=hdraw _ _ hEnv;have H:HR (fun _=>undef) [] w:=⟨fun _=>trivial,fun _ _ _ h=>(by cases h),hG,fun _ _ h=>(by cases h)⟩;have hav:∀b,Av (fun _=>undef) [] b→G b:=fun b hb=>hb.elim (fun⟨_,h,_⟩=>by cases h) id;have hargs:ĉ (VR (fun _=>undef) [] w) (ā [Ä] x) vals:=AL.VR (hAL.mono hav);refine⟨⟨Tryz.f66,_,Tryz.func66,aqj⟩,?_⟩
 have hlen:vals.length=1:=by
  have:=hargs.length;simpa[ā,amn] using this.symm
 cases hM:ckM x with
 |none=>rw[hM] at hF'; cases hF'
 |some r0 =>
 rw[hM] at hF';have law:=ck_pre x;rw[hM] at law;refine callsIn_wide.2 (callsIn_wide.1 (callsIn_of_wp_marks (n:=2) Tryz.func66 aqj trivial ?_ (R:=DM G y w)))
 have hS:Sim (fun _=>undef) {t:=ā [Ä] x++List.replicate 77 .any,h:=[]} {tmps:=vals.toArray++Array.replicate (Tryz.f66.ntmps-vals.toArray.size) undef,defers:=[]} w:=by
  refine⟨rfl,?_,fun i=>?_,H⟩
  ·have:Tryz.f66.ntmps=78:=by kernel_rfl
   have hl2:(ā [Ä] x).length=1:=rfl;simp[this,hlen,hl2]
  ·simp only[SC];rcases dz i (ā [Ä] x).length with hi|hi
   ·have:=ĉ.lk (R:=VR (fun _=>undef) [] w) (fun _=>trivial) i hargs
    have hv:i<vals.length:=by rw[←hargs.length]; exact hi
    have h2:(vals.toArray++Array.replicate (Tryz.f66.ntmps-vals.toArray.size) undef).getD i undef=vals.getD i undef:=by
     simp[dU,eX,hv]
    rw[h2]; exact this
   ·rw[alS _ _ hi]; trivial
 -- the ways out ahead of the loop
 have out:∀ν' S' a' w' e,e≠.normal→Sim ν' S' a' w'→Ev 0 (fun _=>undef) [] w ν' S'.h w'→ckK e S'=some r0→bodyPostM Fence.wide 2 Tryz.prog Tryz.f66 (DM G y w) e a' w':=by
  intro ν' S' a' w' e hne hS' hE' hk
  cases e with
  |normal=>exact(hne rfl).elim
  |ret =>
   rw[arb] at hk
   cases hr:amG S' with
   |none=>rw[hr] at hk; cases hk
   |some n =>
    rw[hr,dW] at hk;cases hk
    have hyn:n=y:=by simpa using hF'
    subst hyn;unfold amG at hr
    split at hr
    ·rename_i v hv;obtain⟨u,q1,q2⟩:=JM hS' hv;show LeavesInM _ _ _ _ _ _ a'.defers _ _;rw[show a'.defers=[] from hS'.defers];exact⟨u,q1,u,rfl,XW hS'.heap [tI] q2 hr,fun b hb=>(hE'.keep b hb fun⟨_,h,_⟩=>by cases h).1,hE'.size,hE'.os,hE'.tape,hE'.output⟩
    ·cases hr
  |exit id=>cases hk
  |goto l=>cases hk
  |panic ch=>cases hk
  |outgrown=>cases hk
 have outT:∀{ν₁:Nat→Value} {h₁:List Blk} {w₁:World},Ev 0 (fun _=>undef) [] w ν₁ h₁ w₁→∀ν' S' a' w' e,e≠.normal→Sim ν' S' a' w'→Ev 0 ν₁ h₁ w₁ ν' S'.h w'→ckK e S'=some r0→bodyPostM Fence.wide 2 Tryz.prog Tryz.f66 (DM G y w) e a' w' :=
  fun hE ν' S' a' w' e hne hS' hE' hk=>out ν' S' a' w' e hne hS' (hE.trans hE' (cR _)) hk
 refine peel rfl hEnv hD rfl rfl (fun z _=>jA h0) law hS (fun ν1 S1 a1 w1 s1 e1 k1=>?_) out;refine peel rfl hEnv hD rfl rfl (fun z _=>jA h0) k1 s1 (fun ν2 S2 a2 w2 s2 e2 k2=>?_) (outT e1);have t2:=e1.trans e2 (cR _);refine peel rfl hEnv hD rfl rfl (fun z _=>jA h0) k2 s2 (fun ν3 S3 a3 w3 s3 e3 k3=>?_) (outT t2);have t3:=t2.trans e3 (cR _);refine peel rfl hEnv hD rfl rfl (fun z _=>jA h0) k3 s3 (fun ν4 S4 a4 w4 s4 e4 k4=>?_) (outT t3);have t4:=t3.trans e4 (cR _);refine peel rfl hEnv hD rfl rfl (fun z _=>jA h0) k4 s4 (fun ν5 S5 a5 w5 s5 e5 k5=>?_) (outT t4);have t5:=t4.trans e5 (cR _);refine wpIn_seq (wpIn_seq (wpIn_wide.2 (wpIn_wide.1 (wpIn_mono (lQ hEnv hD rfl ckA5 0 S5 _ ν5 a5 w5 (fun z _=>jA h0) k5 s5 (eA _)) fun e' a6 w6 ha=>?_))));obtain⟨ν,S,s6,e6,_,_,k6⟩:=ha;have t6:=t5.trans e6 (cR _)
 have other:∀e,e≠.normal→ckK e S=some r0→Exit.then (Code.wpIn Fence.wide 2 Tryz.prog Xw (bodyPostM Fence.wide 2 Tryz.prog Tryz.f66 (DM G y w))) (bodyPostM Fence.wide 2 Tryz.prog Tryz.f66 (DM G y w)) e a6 w6:=by
  intro e hne hk;have:=out ν S a6 w6 e hne s6 t6 hk
  cases e<;>first|exact(hne rfl).elim|exact this
 cases e' with
 |exit id=>exact other _ (by simp) k6
 |goto l=>exact other _ (by simp) k6
 |ret=>exact other _ (by simp) k6
 |panic ch=>exact other _ (by simp) k6
 |outgrown=>exact other _ (by simp) k6
 |normal =>
 clear other;rw[ajV] at k6
 split at k6<;>try (cases k6; done)
 rename_i h78
 have h78':78≤S.t.length:=by simpa using h78
 cases k6;obtain⟨hlens,s,hs,hq⟩:=ara hM;simp only[Prod.mk.injEq,List.cons.injEq,and_true] at hq;obtain⟨⟨q1,q2,q48⟩,qh⟩:=hq
 have hF2:abK (nP x s) some (ckS x)=some y:=by
  simp only at hF';rw[hs] at hF';exact hF'
 -- what the errors are
 obtain⟨L,hL,hLy⟩:∃L,nP x s=some L∧(match L.find? (fun e=>e != 0) with|some e=>some e|none=>ckS x)=some y:=by
  unfold abK at hF2
  cases hl:nP x s with
  |none=>rw[hl] at hF2; cases hF2
  |some L=>rw[hl] at hF2; exact⟨L,rfl,hF2⟩
 obtain⟨l1,l2,l3,l4,m1,m2,m3,m4,rfl⟩:∃l1 l2 l3 l4,PW (fun u=>Ň u.1 u.2 s) (x.2.2.1:List (Int×Int))=some l1∧PW (fun i=>Ψ x s i) (yc (x.2.2.2.1:List (Val ő)).length)=some l2 ∧
  PW (fun i=>Ō x s i) (yc (x.2.2.2.2.1:List (Val Ê)).length)=some l3∧PW (fun u=>Ň u.1 u.2 s) (x.2.2.2.2.2:List (Int×Int))=some l4∧L=l1++(l2++(l3++l4)):=by
  unfold nP at hL
  cases m1:PW (fun u=>Ň u.1 u.2 s) (x.2.2.1:List (Int×Int)) with
  |none=>rw[m1] at hL; cases hL
  |some l1 =>
  rw[m1] at hL
  cases m2:PW (fun i=>Ψ x s i) (yc (x.2.2.2.1:List (Val ő)).length) with
  |none=>simp only[Ã,m2] at hL; cases hL
  |some l2 =>
  cases m3:PW (fun i=>Ō x s i) (yc (x.2.2.2.2.1:List (Val Ê)).length) with
  |none=>simp only[Ã,m2,m3] at hL; cases hL
  |some l3 =>
  cases m4:PW (fun u=>Ň u.1 u.2 s) (x.2.2.2.2.2:List (Int×Int)) with
  |none=>simp only[Ã,m2,m3,m4] at hL; cases hL
  |some l4 =>
  simp only[Ã,m2,m3,m4] at hL;cases hL;exact⟨l1,l2,l3,l4,rfl,rfl,rfl,rfl,rfl⟩
 -- the blocks
 obtain⟨T,Hh⟩:=S;dsimp only at q1 q2 q48 qh h78';subst qh;have p1:=s6.tmps 1;have p2:=s6.tmps 2;have p48:=s6.tmps 48;dsimp only at p1 p2 p48;rw[q1] at p1;rw[q2] at p2;rw[q48] at p48;obtain⟨rb,te1,n1,hrb⟩:=aea (id:=1) (n:=0) s6.heap rfl;have hB2:BR ν (ckH x s 0) w6 2 (.cells (flat Ä x)):=s6.heap.blk 2;have hB3:BR ν (ckH x s 0) w6 3 (.cells [.mp tI Ð s]):=s6.heap.blk 3;have hB4:BR ν (ckH x s 0) w6 4 (.cells [.fn (.func 188) [] [.box 3 0]]):=s6.heap.blk 4;obtain⟨bb,cb,te,n2,hbb,hb2⟩:=hB2;obtain⟨sb,cs3,te3,n3,hsb,hb3⟩:=hB3;obtain⟨tb,cs4,te2,n4,htb,hb4⟩:=hB4;obtain⟨mv,z3,hm3⟩:=hb3.one;obtain⟨fv,z4,hm4⟩:=hb4.one;have hmv:CR w6 noG (.map tI Ð) s [mv]:=CR.mono (fun _ hf=>hf.elim) (show CR w6 (Av ν (ckH x s 0)) (.map tI Ð) s [mv] from hm3.1)
 have hc3:cs3=#[mv]:=by rw[←d8,z3]
 have hfv:fv=.func (.func 188) #[] #[.pointer (some ⟨sb,0,none⟩)]:=by
  obtain⟨fs,cs,h1,h2,h3⟩:=hm4.1
  have e1:fs=#[]:=by rw[←d8]; exact h2.nil_left
  obtain⟨u,e2,h4⟩:=h3.one;have e3:u=.pointer (some ⟨sb,0,none⟩):=AM (w:=w6) (id:=3) (off:=0) h4 n3
  have e4:cs=#[.pointer (some ⟨sb,0,none⟩)]:=by rw[←d8,e2,e3]
  rw[h1,e1,e4]
 have hc4:cs4=#[fv]:=by rw[←d8,z4]
 rw[hc3] at hsb;rw[hc4,hfv] at htb
 have hg:a6.tmps.getD 48 undef=.func (.func 191) #[] #[.pointer (some ⟨bb,0,none⟩),.pointer (some ⟨tb,0,none⟩),.pointer (some ⟨sb,0,none⟩)]:=by
  obtain⟨fs,cs,h1,h2,h3⟩:=p48
  have e1:fs=#[]:=by rw[←d8]; exact h2.nil_left
  have hl:=h3.length
  obtain⟨u1,u2,u3,e2⟩:∃u1 u2 u3,cs.toList=[u1,u2,u3]:=by
   rcases hcs:cs.toList with _|⟨u1,_|⟨u2,_|⟨u3,_|⟨u4,t⟩⟩⟩⟩<;>rw[hcs] at hl<;>simp at hl
   exact⟨u1,u2,u3,rfl⟩
  rw[e2] at h3;have e3:u1=.pointer (some ⟨bb,0,none⟩):=AM (w:=w6) (id:=2) (off:=0) h3.1 n2;have e4:u2=.pointer (some ⟨tb,0,none⟩):=AM (w:=w6) (id:=4) (off:=0) h3.2.1 n4;have e5:u3=.pointer (some ⟨sb,0,none⟩):=AM (w:=w6) (id:=3) (off:=0) h3.2.2.1 n3;rw[h1,e1];congr 1;rw[←d8,e2,e3,e4,e5]
 have hseq:=aoo m1 m2 m3 m4 hlens hbb (ari hb2) htb hsb hmv;have h2:=AM p2 n1;have hsz:78≤a6.tmps.size:=dC h78' s6.len
 have hkeep:∀b,b<w.heap.size→w6.heap[b]?=w.heap[b]?∧¬ag8 ν (ckH x s 0) b:=fun b hb=>t6.keep b hb fun⟨_,h,_⟩=>by cases h
 have hdef:a6.defers=[]:=s6.defers;show ckRF.wpIn Fence.wide 2 Tryz.prog (Exit.then (Xw.wpIn Fence.wide 2 Tryz.prog (bodyPostM Fence.wide 2 Tryz.prog Tryz.f66 (DM G y w))) (bodyPostM Fence.wide 2 Tryz.prog Tryz.f66 (DM G y w))) a6 w6;rw[aq9];refine wpIn_block (aqA hseq hg h2 hsz hrb (fun D W hall hbel hDl hDo=>?_) (fun D W z hz hput hDl hDo=>?_))
 ·have hck:ckS x=some y:=by
   have:(l1++(l2++(l3++l4))).find? (fun e=>e != 0)=none:=eJ.2 fun z hz=>by rw[hall z hz]; simp
   rw[this] at hLy;exact hLy
  exact aq8 (s:=s) hck s6.heap hbel hDl hDo (by show ahY D::a6.defers=_; rw[hdef]) hsz p1 p2 hkeep t6.size t6.os t6.tape t6.output
 ·have hzy:z=y:=by
   rw[hz] at hLy;simpa using hLy
  subst hzy;obtain⟨te5,hcell⟩:=hput.cell;have hlb:=ę hrb;have hlive:ag8 ν (ckH x s 0) rb:=⟨1,rfl,by rw[n1]; rfl⟩
  exact aiy (a:={a6 with defers:=ahY D::a6.defers}) (w:=W) (by show ahY D::a6.defers=_; rw[hdef]) hDo h2 hcell
   (fun b hb=>(hput.block b (by have:=t6.size; omega) (fun e=>(hkeep b hb).2 (e▸hlive))).trans (hkeep b hb).1) (by have:=t6.size; omega) (by have:=t6.size; have:=hput.size; omega) (hput.os.trans t6.os) (hput.tape.trans t6.tape) (hput.output.trans t6.output)
def ŧ:Î Tryz.prog 66 ť:=fun G x y hF w vals hG hAL=>ajW G x y hF w vals hG hAL
end Go.Proofs.ZzM
end

noncomputable section
set_option maxRecDepth 100000
namespace Go.Proofs.ZzM
open Go Go.Am Go.RowKit
abbrev cP:Type:=Val (tyL i8)
abbrev cV:Type:=Val (tyL mJ)
abbrev cS (p:cP) (v:cV):St:=jj ug i8 mJ p v
abbrev cU (p:cP) (v:cV) (x:Val Ð):St:=jj Ri i8 A8 p (EF v x)
def apf (im:List (Int×Bool)) (n:Int):ot Tryz.prog [.map tI .bool im] 184 (.omp 0) (.int .i64 n) false some=(match (tR (k:=tI) (v:=.bool) n im:Option Bool) with|some y=>some (.bool y)|none=>some (.bool false)):=by kernel_rfl
noncomputable def MapAt (W:World) (mb:Nat) (im:List (Int×Bool)):Prop:=∃(entries:Array MapEntry) (clock:Nat),W.heap[mb]?=some (.map entries clock)∧entries.size=im.length∧∀(i:Nat) (e:Int×Bool),im[i]?=some e→∃m,entries[i]?=some m∧m.key=.int .i64 e.1∧m.val=.bool e.2
noncomputable def Nq (im:List (Int×Bool)) (n:Int):Bool:=((tR (k:=tI) (v:=.bool) n im:Option Bool)).getD false
def aoK {W:World} {mb:Nat} {im:List (Int×Bool)} (h:MapAt W mb im) (n:Int):(Instr.lookup 184 (.map (some mb)) (.int .i64 n) false).run Tryz.prog W=.ok (.bool (Nq im n)) W:=by
 letI:ô:=⟨fun _=>False,[],none⟩
 obtain⟨entries,clock,h1,h2,h3⟩:=h
 have H:HR (fun _=>.map (some mb)) [.map tI .bool im] W:=by
  refine⟨fun id=>?_,fun i j b hi hj _ _=>?_,fun b hb=>hb.elim,fun id b _ _ hb=>hb.elim⟩
  ·rcases id with _|id
   ·refine⟨mb,entries,clock,rfl,h1,h2,fun i e he=>?_⟩;obtain⟨m,q1,q2,q3⟩:=h3 i e he;exact⟨m,[.bool e.2],q1,by rw[q2]; rfl,rfl,by rw[q3]; rfl⟩
   ·rw[W7 _ _ (by simp)]; trivial
  ·have one:∀i,(lkB [Blk.map tI .bool im] i).live=true→i=0:=fun i hi=>by
    rcases i with _|i
    ·rfl
    ·rw[W7 _ _ (by simp)] at hi; cases hi
   rw[one i hi,one j hj]
 have hom:VR (fun _=>.map (some mb)) [.map tI .bool im] W (.omp 0) (.map (some mb)):=⟨rfl,_,_,_,rfl,rfl⟩
 have hk:ot Tryz.prog [.map tI .bool im] 184 (.omp 0) (.int .i64 n) false some=some (.bool (Nq im n)):=by
  rw[apf];unfold Nq
  cases(tR (k:=tI) (v:=.bool) n im:Option Bool)<;>rfl
 obtain⟨u,q1,q2⟩:=adZ H hk hom (ui:=.int .i64 n) rfl;rw[q1];have:u=.bool (Nq im n):=q2;rw[this]
noncomputable def gz (l:List (Val Ð)) (j:Nat):Val Ð:=l[j]?.getD (0,0,0,(0,0),(0,0),0)
def agy {w:World} {av:Nat→Prop} {g:Val Ð} {us:List Value} (h:CR w av Ð g us) :
 us=[.int .i64 g.1,.int .i64 g.2.1,.int .i64 g.2.2.1,.int .i64 g.2.2.2.1.1,.int .i64 g.2.2.2.1.2,.int .i64 g.2.2.2.2.1.1,.int .i64 g.2.2.2.2.1.2,.int .i64 g.2.2.2.2.2]:=by
 obtain⟨a1,r1,rfl,h1,a2,r2,rfl,h2,a3,r3,rfl,h3,a4,r4,rfl,⟨b1,b2,rfl,h4,h5⟩,⟨b3,r5,rfl,⟨b5,b6,rfl,h6,h7⟩,h8⟩⟩:=h;have e1:a1=[.int .i64 g.1]:=h1;have e2:a2=[.int .i64 g.2.1]:=h2;have e3:a3=[.int .i64 g.2.2.1]:=h3;have e4:b1=[.int .i64 g.2.2.2.1.1]:=h4;have e5:b2=[.int .i64 g.2.2.2.1.2]:=h5;have e6:b5=[.int .i64 g.2.2.2.2.1.1]:=h6;have e7:b6=[.int .i64 g.2.2.2.2.1.2]:=h7;have e8:r5=[.int .i64 g.2.2.2.2.2]:=h8;subst e1 e2 e3 e4 e5 e6 e7 e8;rfl
noncomputable def KNd (w1:World) (R:Nat→Prop) (tb:Nat) (im:List (Int×Bool)) (W:World):Prop:=w1.heap.size≤W.heap.size∧(∀b,R b→W.heap[b]?=w1.heap[b]?)∧tb<w1.heap.size∧∃mb,mb<w1.heap.size∧W.cell? ⟨tb,0,none⟩=some (.map (some mb))∧MapAt W mb im
def KNd.below {w1 W W':World} {R:Nat→Prop} {tb:Nat} {im:List (Int×Bool)} (hR:∀b,R b→b<w1.heap.size) (h:KNd w1 R tb im W) (hz:W.heap.size≤W'.heap.size) (hb:∀b,b<w1.heap.size→W'.heap[b]?=W.heap[b]?):KNd w1 R tb im W':=by
 obtain⟨h1,h2,h3,mb,h4,h5,en,cl,h6,h7,h8⟩:=h;exact⟨dC h1 hz,fun b hr=>(hb b (hR b hr)).trans (h2 b hr),h3,mb,h4,by rw[World.cell?_of_block (w:=W) (hb tb h3)]; exact h5,en,cl,(hb mb h4).trans h6,h7,h8⟩
def KNd.grown {w1 W W':World} {R:Nat→Prop} {tb:Nat} {im:List (Int×Bool)} (hR:∀b,R b→b<w1.heap.size) (h:KNd w1 R tb im W) (hg:W.grownBy W' none):KNd w1 R tb im W' :=
 h.below hR hg.size fun b hb=>hg.block b (dA hb h.1) (by simp)
def ad2 {f:AV→Bool} (h0:f .any=true):∀(l:List AV),l.all f=true→∀i,f (lk l i)=true
 |[],_,i=>by cases i<;>exact h0
 |x::l,h,0=>by simp only[fT,cW] at h; exact h.1
 |x::l,h,i+1=>by simp only[fT,cW] at h; exact ad2 h0 l h.2 i
def aaf {f:Blk→Bool} (h0:f .dead=true):∀(l:List Blk),l.all f=true→∀i,f (lkB l i)=true
 |[],_,i=>by cases i<;>exact h0
 |x::l,h,0=>by simp only[fT,cW] at h; exact h.1
 |x::l,h,i+1=>by simp only[fT,cW] at h; exact aaf h0 l h.2 i
def cS_mf (p:cP) (v:cV):(cS p v).h.all mfB=true:=by kernel_rfl
def cU_mf (p:cP) (v:cV) (x:Val Ð):(cU p v x).h.all mfB=true:=by kernel_rfl
def cU_mft (p:cP) (v:cV) (x:Val Ð):(cU p v x).t.all mfV3=true:=by kernel_rfl
def cR_mf (y:Val Ä):(jj qe [] jG () (kU y)).h.all mfB=true:=by kernel_rfl
def cR_mft (y:Val Ä):(jj qe [] jG () (kU y)).t.all mfV3=true:=by kernel_rfl
noncomputable def pin0 (m:Nat):AV→Bool
 |.any=>true
 |.box id _=>Nat.blt id m
 |_=>false
noncomputable def pin3 (m:Nat):AV→Bool
 |.fn _ a b=>a.all (pin0 m)&&b.all (pin0 m)
 |a=>pin0 m a
section
variable [ô] {ν ν':Nat→Value} {h h':List Blk} {w w':World} {m:Nat}
def VR0.pin (e:Ev m ν h w ν' h' w') {a:AV} {v:Value} (hp:pin0 m a=true) (hv:VR0 ν h w a v):VR0 ν' h' w' a v:=by
 cases a with
 |any=>trivial
 |box id off =>
  obtain⟨cs,b,hl,h1,h2⟩:=hv;have hlt:id<m:=fO hp;have hb:=e.blk id hlt;rw[hl] at hb;obtain⟨⟨cs',hl'⟩,he⟩:=hb;exact⟨cs',b,hl',by rw[he]; exact h1,h2⟩
 |_=>cases hp
def VR.pin (e:Ev m ν h w ν' h' w') {a:AV} {v:Value} (hp:pin3 m a=true) (hv:VR ν h w a v):VR ν' h' w' a v:=by
 cases a with
 |fn f fa fb =>
  obtain⟨fs,cs,h1,h2,h3⟩:=hv;simp only[pin3,cW,dL] at hp;exact⟨fs,cs,h1,h2.mem fun a ha _=>VR0.pin e (hp.1 a ha),h3.mem fun a ha _=>VR0.pin e (hp.2 a ha)⟩
 |any=>trivial
 |box id off=>exact VR0.pin (a:=.box id off) e (show pin0 m (.box id off)=true from hp) hv
 |_=>cases hp
end
def aqk (p:cP) (v:cV):(cS p v).t.all (pin3 9)=true:=by kernel_rfl
def cS_len (p:cP) (v:cV):(cS p v).h.length=10:=by kernel_rfl
def cU_len (p:cP) (v:cV) (x:Val Ð):(cU p v x).h.length=11:=by kernel_rfl
def cS_t (p:cP) (v:cV) (z:List (Val Ð)):(cS p (ģ v z)).t=(cS p v).t:=by kernel_rfl
def cS_5 (p:cP) (v:cV):∃a b us lo co ko,lkB (cS p v).h 5=.cells [.int .i64 a,.int .i64 b,.slc Ð (ó v),.slc Â us,.slc ő lo,.slc Ê co,.slc Â ko]:=⟨_,_,_,_,_,_,rfl⟩
def cS_6 (p:cP) (v:cV):lkB (cS p v).h 6=.cells [.omp 7]:=by kernel_rfl
def cS_7 (p:cP) (v:cV):lkB (cS p v).h 7=.map tI .bool (Ş v):=by kernel_rfl
def cS_59 (p:cP) (v:cV):lk (cS p v).t 59=.fn (.func 186) [] [.box 5 0,.box 6 0]:=by kernel_rfl
noncomputable def ad8:Blk→Bool
 |.map _ _ _=>true
 |_=>false
def agZ (p:cP) (v:cV):(cS p v).h.map ad8=[false,false,false,false,false,false,false,true,true,false]:=by kernel_rfl
def arf (p:cP) (v:cV) (x:Val Ð):(cU p v x).h.map ad8=[false,false,false,false,false,false,false,true,true,false,false]:=by kernel_rfl
def Lf:∀(l:List Blk) (i:Nat),ad8 (lkB l i)=true→(l.map ad8)[i]?=some true
 |[],i,h=>by cases i<;>cases h
 |x::l,0,h=>by have:ad8 x=true:=h; simp[this]
 |x::l,i+1,h=>by simpa using Lf l i h
def ahZ {l:List Blk} {t:List Bool} (hl:l.map ad8=[false,false,false,false,false,false,false,true,true]++t) (ht:∀b∈t,b=false) {id:Nat} {k u:Ty} {es:List (Val k×Val u)} (h:lkB l id=.map k u es):id=7∨id=8:=by
 have:=Lf l id (by rw[h]; rfl);rw[hl] at this
 rcases id with _|_|_|_|_|_|_|_|_|id<;>simp at this ⊢
 have:=ht _ (cZ this);cases this
noncomputable def aqd {ρ:Type}:List (Val Ð)→Option ρ→Option ρ
 |[],x=>x
 |_::_,_=>none
def agM {ρ:Type} {l:List (Val Ð)} {x:Option ρ} {r:ρ} (h:aqd l x=some r):l=[]∧x=some r:=by
 cases l with
 |nil=>exact⟨rfl,h⟩
 |cons=>cases h
noncomputable def cutK (p:cP) (v:cV):Option (Val Ä):=aqd (wa v) (Ã (Bj (ó v) (Ş v)) fun z=>nB p (ģ v z) some)
def al0 {l:List (Val Ð)} {im:List (Int×Bool)} {z:List (Val Ð)} (h:Bj l im=some z):ë l.length=true∧z=(T4 (fun j=>Nq im (gz l j).1) l.length).map (gz l):=by
 unfold Bj at h;simp only[í] at h
 split at h
 ·rename_i ho;cases h;refine⟨ho,?_⟩
  have key:∀(n:Nat),n≤l.length→(l.take n).filter (fun g=>((tR (k:=tI) (v:=.bool) g.1 im:Option Bool)).getD false)=(T4 (fun j=>Nq im (gz l j).1) n).map (gz l):=by
   intro n
   induction n with
   |zero=>intro _; rfl
   |succ n ih =>
    intro hn
    have hg:l[n]?=some (gz l n):=by simp[gz,cQ (show n<l.length from hn)]
    rw[List.take_succ,gD,ih (by omega),Fv,hg];have:((tR (k:=tI) (v:=.bool) (gz l n).1 im:Option Bool)).getD false=Nq im (gz l n).1:=rfl;simp only[Option.toList_some,dZ,eo,this]
    split<;>simp
  have:=key l.length (cR _)
  rwa [gL] at this
 ·cases h
def aoy {n m:Nat} (h:ë n=true) (hm:m≤n):ë m=true:=by
 unfold ë at h ⊢;simp only[Bool.and_eq_true,decide_eq_true_eq] at h ⊢
 first|omega|(constructor<;>omega)
def aiR {G:Nat→Prop} {D D':List Deferred} {Q Q':Option Nat} {ν:Nat→Value} {h:List Blk} {w:World} {a:AV} {v:Value} (hv:@VR ⟨G,D,Q⟩ ν h w a v):@VR ⟨G,D',Q'⟩ ν h w a v:=hv
def A6 [ô] {ν2 ν':Nat→Value} {h1 h':List Blk} {w1 W:World} (H1:HR ν2 h1 w1) (ev:Ev 9 ν2 h1 w1 ν' h' W) (hl1:∀id,id=7∨id=8→∃k u es,lkB h1 id=.map k u es)
 {t:List Bool} (hl:h'.map ad8=[false,false,false,false,false,false,false,true,true]++t) (ht:∀b∈t,b=false):anN w1.heap.size ν' h':=by
 intro id k u es b hm hν
 have h9:id<9:=by rcases ahZ hl ht hm with rfl|rfl<;>omega
 obtain⟨k1,u1,es1,h7⟩:=hl1 id (ahZ hl ht hm);have hb:=ev.blk id h9;rw[h7] at hb;obtain⟨_,he⟩:=hb;have hB:=H1.blk id;rw[h7] at hB;obtain⟨b0,_,_,q1,q2,_⟩:=hB;rw[he,q1] at hν;cases hν;exact ę q2
def apG (p:cP) (v:cV):∀id,id=7∨id=8→∃k u es,lkB (cS p v).h id=.map k u es:=by
 rintro id (rfl|rfl)
 ·exact⟨_,_,_,rfl⟩
 ·exact⟨_,_,_,rfl⟩
noncomputable def CI (G:Nat→Prop) (p:cP) (v:cV) (ν2:Nat→Value) (w1:World) (pre:List Nat) (W:World):Prop :=
 ∃ν',@HR ⟨G,[],none⟩ ν' (cS p (ģ v (pre.map (gz (ó v))))).h W∧Ev 9 ν2 (cS p v).h w1 ν' (cS p (ģ v (pre.map (gz (ó v))))).h W
def CI.own {G:Nat→Prop} {p:cP} {v:cV} {ν2:Nat→Value} {w1:World} (H1:@HR ⟨G,[],none⟩ ν2 (cS p v).h w1):OwnFrom w1.heap.size (CI G p v ν2 w1):=by
 intro pre W W' row hI hg hr
 letI:ô:=⟨G,[],none⟩
 obtain⟨ν',H,ev⟩:=hI;have hml:=A6 H1 ev (apG p v) (agZ _ _) (t:=[false]) (by simp);refine⟨ν',H.ckeep (Tt hg hr) (fun id k u es b hl hν=>?_) (aaf rfl _ (cS_mf _ _)),ev.own hg fun r e=>(hr r e).1⟩;have hb:=hml id k u es b hl hν
 exact hg.block b (dA hb ev.size) fun e=>by have:=(hr b e.symm).1; omega
def CI.nd {G:Nat→Prop} {p:cP} {v:cV} {ν2:Nat→Value} {w1 W:World} {pre:List Nat} {R:Nat→Prop} {tb:Nat} (H1:@HR ⟨G,[],none⟩ ν2 (cS p v).h w1) (hR:∀b,R b→b<w1.heap.size∧¬ag8 ν2 (cS p v).h b) (htb:ν2 6=.pointer (some ⟨tb,0,none⟩)) (hI:CI G p v ν2 w1 pre W):KNd w1 R tb (Ş v) W:=by
 letI:ô:=⟨G,[],none⟩
 obtain⟨ν',H,ev⟩:=hI;have h6:=H1.blk 6;rw[cS_6] at h6;obtain⟨b6,_,_,q1,q2,_⟩:=h6;rw[htb] at q1;cases q1;have h7:=H1.blk 7;rw[cS_7] at h7;obtain⟨mb,_,_,r1,r2,_⟩:=h7;have e6:=ev.blk 6 (by omega);rw[cS_6] at e6;have e7:=ev.blk 7 (by omega);rw[cS_7] at e7;have k6:=H.blk 6;rw[show lkB (cS p (ģ v (pre.map (gz (ó v))))).h 6=.cells [.omp 7] from cS_6 _ _] at k6;obtain⟨b,c,e,s1,s2,s3⟩:=k6;rw[e6.2,htb] at s1;cases s1;obtain⟨mv,s4,s5⟩:=s3.one;obtain⟨_,k,u,es,_,s6⟩:=s5.1;have k7:=H.blk 7;rw[show lkB (cS p (ģ v (pre.map (gz (ó v))))).h 7=.map tI .bool (Ş v) from cS_7 _ _] at k7;obtain⟨mb',en,cl,t1,t2,t3,t4⟩:=k7;have e1:mv=.map (some mb'):=s6.trans t1
 have e2:mb'=mb:=by rw[e7.2,r1] at t1; cases t1; rfl
 subst e2;refine⟨ev.size,fun b hb=>(ev.keep b (hR b hb).1 (hR b hb).2).1,ę q2,mb',ę r2,?_,en,cl,t2,t3,fun i x hx=>?_⟩
 ·have hc:c=#[mv]:=by rw[←d8,s4]
  rw[hc,e1] at s2;simp[World.cell?,s2]
 ·obtain⟨m,us,u1,u2,u3,u4⟩:=t4 i x hx;have v1:[m.key]=[.int .i64 x.1]:=u2;have v2:us=[.bool x.2]:=u3;refine⟨m,u1,by simpa using v1,?_⟩;rw[u4,v2];rfl
def ajR:drawn (Am.rfA (Am.rfC 7 Ĥ))=false:=by kernel_rfl
def ajQ:drawn (Am.rfB (Am.rfC 7 Ĥ))=false:=by kernel_rfl
def ajP:ð 4 (Am.rfA (Am.rfC 7 Ĥ))=[]:=by kernel_rfl
def ajO:ð 4 (Am.rfB (Am.rfC 7 Ĥ))=[]:=by kernel_rfl
def aaF [ô] (ρ:Type):l5 (ğ ρ) 2 (kg (ğ ρ) 10):=by
 have hlib:OG (ğ ρ):=SF Rh (ğ ρ) rfl rfl rfl rfl rfl (ir rfl);have hdraw:∀L call,l5 (ğ ρ) L call→mm (ğ ρ) L call:=Ff hmix;have hcall:=mS (.inr fun _=>rfl) hlib hdraw (fun n hn hE path f fn c hp hf hc=>IA (tab:=rR ρ) rfl Mv hn hE (hdraw _ _ hE) hp hf hc) 10 (cR _);exact⟨.inr (qG 9),hcall,hlib.plain,hlib.clone,hlib.joins⟩
def amz {G:Nat→Prop} {p:cP} {v:cV} {ν2:Nat→Value} {a:Act} {w1:World} (H1:@Sim ⟨G,[],none⟩ ν2 (cS p v) a w1) (l:Nat) (pre:List Nat) (x:Nat) (W:World) (hl:w1.heap.size≤l) (hI:CI G p v ν2 w1 pre W) (hok:ë (pre.length+1)=true) {u:Value} (hu:∀[ô] (ν:Nat→Value) (h:List Blk) (w:World),VR ν h w (.agg (flat Ð (gz (ó v) x))) u) :
 (Am.rfA (Am.rfC 7 Ĥ)).wpIn (Fence.wide.inRound l) 0 Tryz.prog (Exit.then (fun a' Wa=>KeepsFrom w1.heap.size W Wa∧∀r',(∃r,Wa.heap[l]?=some (.loop r)) →
  (Am.rfB (Am.rfC 7 Ĥ)).wpIn (Fence.wide.inRound l) 0 Tryz.prog (Exit.then (fun _ W3=>KeepsFrom w1.heap.size (Wa.putObj l (.loop r')) W3∧CI G p v ν2 w1 (pre++[x]) W3) (fun _ _ _=>False)) a' (Wa.putObj l (.loop r'))) (fun _ _ _=>False)) {tmps:=a.tmps.setIfInBounds 60 u,defers:=[]} W:=by
 letI:ô:=⟨G,[],some l⟩
 have H1h:HR ν2 (cS p v).h w1:=HR_ghost (@Sim.heap ⟨G,[],none⟩ _ _ _ _ H1);obtain⟨ν',H0,ev⟩:=hI;have H:HR ν' (cS p (ģ v (pre.map (gz (ó v))))).h W:=HR_ghost H0;obtain⟨v',hv'⟩:∃v',v'=ģ v (pre.map (gz (ó v))):=⟨_,rfl⟩;rw[←hv'] at H ev
 have ht:(cS p v').t=(cS p v).t:=by rw[hv']; exact cS_t _ _ _
 have hml:=A6 H1h ev (apG p v) (agZ _ _) (t:=[false]) (by simp)
 have simA:Sim ν' (cS p v') {tmps:=a.tmps,defers:=[]} W:=by
  refine⟨rfl,?_,fun i=>?_,H⟩
  ·rw[ht]; show _≤a.tmps.size; exact @Sim.len ⟨G,[],none⟩ _ _ _ _ H1
  ·rw[ht]; exact VR.pin ev (ad2 rfl _ (aqk p v) i) (aiR (@Sim.tmps ⟨G,[],none⟩ _ _ _ _ H1 i))
 have sim0:=simA.put (Ev.refl _ _ _ _) H (some 60) (hu ν' _ W);have hEnv:=aaF (cP×Val (tyL A8));have hgo:=Ln hEnv (path:=[]) rfl (Am.rfA (Am.rfC 7 Ĥ)) 4 _ _ ν' _ W (fun h=>by rw[ajR] at h; cases h) (fun z hz=>by rw[ajP] at hz; cases hz) (ajr p v' (gz (ó v) x) fun p u=>some (p,u)) sim0 (dC (show 9≤10 by decide) (Nat.le_of_eq (cS_len p v').symm));refine wpIn_mono hgo fun e a' Wa ha=>?_;obtain⟨νa,Sa,sA,evA,lenA,ddA,kA⟩:=ha;obtain⟨rfl,p',u',hm',hk'⟩:=F4 kA;cases hk';obtain⟨νb,sB,evB,lB,dB⟩:=F1 _ _ _ _ _ _ _ νa a' Wa hm' sA;have evAB:Ev 9 ν' (cS p v').h W νb (cU p v' (gz (ó v) x)).h Wa:=evA.trans evB (cR _);have evT:=ev.trans evAB (cR _);have hmu:=A6 H1h evT (apG p v) (arf _ _ _) (t:=[false,false]) (by simp);refine⟨M6 H hml evAB,fun r' ⟨r,hr⟩=>?_⟩;have hlt:l<Wa.heap.size:=ę hr
 have K:ζ Wa (Wa.putObj l (.loop r')):=⟨by simp[World.putObj],fun b c e q hb=>by
  rw[World.putObj_heap_other (fun e'=>by subst e'; rw[hr] at hb; cases hb)]; exact hb⟩
 have sC:Sim νb (cU p v' (gz (ó v) x)) a' (Wa.putObj l (.loop r')):=sB.ckeep K (fun id k q es b hb hν=>World.putObj_heap_other (by have:=hmu id k q es b hb hν; omega)) (aaf rfl _ (cU_mf _ _ _)) (ad2 rfl _ (cU_mft _ _ _))
 have evO:Ev 9 ν2 (cS p v).h w1 νb (cU p v' (gz (ó v) x)).h (Wa.putObj l (.loop r')):=evT.own (grownBy_putObj' Wa l _) fun q e=>by cases e; exact hl
 have hEnv2:=aaF (cP×cV);have law:=ajq p v' (gz (ó v) x) fun p v=>some (p,v)
 have hrow:wa v'=pre.map (gz (ó v)):=by rw[hv']; rfl
 rw[hrow] at law;simp only[dV,dg,dw,dl,hok,í] at law;have hgo2:=Ln hEnv2 (path:=[]) rfl (Am.rfB (Am.rfC 7 Ĥ)) 4 _ _ νb _ _ (fun h=>by rw[ajQ] at h; cases h) (fun z hz=>by rw[ajO] at hz; cases hz) law sC (dC (show 9≤11 by decide) (Nat.le_of_eq (cU_len p v' (gz (ó v) x)).symm));refine wpIn_mono hgo2 fun e a3 W3 hb=>?_;obtain⟨νc,Sc,sD,evC,lenC,ddC,kC⟩:=hb;obtain⟨rfl,p',u',hm',hk'⟩:=F4 kC;cases hk';obtain⟨νd,sE,evD,lD,dD⟩:=F1 _ _ _ _ _ _ _ νc a3 W3 hm' sD;have evCD:=evC.trans evD (cR _);refine⟨M6 sC.heap hmu evCD,νd,?_⟩
 have hput:ģ v' (pre.map (gz (ó v))++[gz (ó v) x])=ģ v ((pre++[x]).map (gz (ó v))):=by
  rw[hv',gT]; rfl
 rw[←hput];exact⟨HR_ghost sE.heap,evO.trans evCD (cR _)⟩
noncomputable def ag9 (G:Nat→Prop) (y:Val Ä) (w:World) (e:Ending) (w':World):Prop :=
 ∃u,e=.returned u∧RR w' G [Ä] y u∧(∀b,b<w.heap.size→w'.heap[b]?=w.heap[b]?)∧w.heap.size≤w'.heap.size∧w'.os=w.os∧w'.tape=w.tape∧w'.output=w.output
noncomputable def agN (u:Val (tyL jG)):Val Ä:=((u.1,u.2.1),u.2.2.1,u.2.2.2.1,u.2.2.2.2.1,u.2.2.2.2.2.1,u.2.2.2.2.2.2)
def aph (p:cP) (v:cV):nB p v (fun y=>(fun u=>some (agN u)) (kU y))=nB p v some:=by kernel_rfl
def amy (u:Val (tyL jG)):kU (agN u)=u:=by kernel_rfl
def arg (y:Val Ä):(jj qe [] jG () (kU y)).h.map ad8=[false]:=by kernel_rfl
def apd {G:Nat→Prop} {p:cP} {v:cV} {y:Val Ä} {ν:Nat→Value} {a:Act} {w0 W:World} {D:Nat} (H:@Sim ⟨G,[],none⟩ ν (cS p v) a W) (hB:nB p v some=some y) (hD:W.heap[D]?=some (.deferred (some []))) (hnl:¬ag8 ν (cS p v).h D)
 (hev:Ev 0 (fun _=>undef) [] w0 ν (cS p v).h W) (hDl:w0.heap.size≤D) :
 (Am.postC 7 Ĥ).wpIn Fence.wide 2 Tryz.prog (bodyPostM Fence.wide 2 Tryz.prog Tryz.f62 (ag9 G y w0)) {a with defers:=ahY D::a.defers} W:=by
 have hdf:a.defers=[]:=@Sim.defers ⟨G,[],none⟩ _ _ _ _ H
 letI:ô:=⟨G,[ahY D],none⟩
 have sim:Sim ν (cS p v) {a with defers:=ahY D::a.defers} W:=⟨by show ahY D::a.defers=[ahY D]; rw[hdf],(show _≤a.tmps.size from @Sim.len ⟨G,[],none⟩ _ _ _ _ H),fun i=>aiR (@Sim.tmps ⟨G,[],none⟩ _ _ _ _ H i),HR_ghost (@Sim.heap ⟨G,[],none⟩ _ _ _ _ H)⟩;have hEnv:=aaF (Val Ä);have hdraw:∀L call,l5 (ğ (Val Ä)) L call→mm (ğ (Val Ä)) L call:=Ff hmix;have law:=adf p v fun u=>some (agN u);rw[aph,hB] at law
 have hL:∀z∈ð 0 (Am.postC 7 Ĥ),oG (ğ (Val Ä)) [] 62 z.1 z.2:=fun z hz =>
  IA (E:=ğ (Val Ä)) (tab:=rR _) rfl Mv (n:=10) (cR _) hEnv (hdraw _ _ hEnv) rfl Tryz.func62 rS z (ah2 7 Ĥ 0 Hj hz)
 have hgo:=lQ hEnv (hdraw _ _ hEnv) rfl (Am.postC 7 Ĥ) 0 _ _ ν _ W hL law sim (eA _);rw[IU rfl] at hgo;refine wpIn_wide.2 (wpIn_wide.1 (wpIn_mono hgo fun e a' W' ha=>?_));obtain⟨νa,Sa,sA,evA,_,_,kA⟩:=ha;obtain⟨rfl,u,hm,hk⟩:=alA kA;cases hk;obtain⟨νb,sB,evB,_,_⟩:=F1 _ _ _ _ _ _ _ νa a' W' hm sA
 have hu:jj qe [] jG () u=jj qe [] jG () (kU (agN u)):=by rw[amy]
 rw[hu] at sB evB;have evT:=(evA.trans evB (cR _));have hD':W'.heap[D]?=some (.deferred (some [])):=(evT.keep D (ę hD) hnl).1.trans hD;have hd':a'.defers=[ahY D]:=sB.defers;show LeavesInM _ _ _ _ _ _ a'.defers _ _;rw[hd'];refine⟨by simp,.inl ⟨D,_,rfl,run_takeDeferred hD',?_⟩⟩;have hlt:=ę hD'
 have K:ζ W' (W'.putObj D (.deferred none)):=⟨by simp[World.putObj],fun b c e q hb=>by
  rw[World.putObj_heap_other (fun e'=>by subst e'; rw[hD'] at hb; cases hb)]; exact hb⟩
 have sC:=sB.ckeep K (fun id k q es b hb hν=>by
  have:=Lf _ id (by rw[hb]; rfl);rw[arg] at this
  rcases id with _|id<;>simp at this) (aaf rfl _ (cR_mf _)) (ad2 rfl _ (cR_mft _))
 obtain⟨uu,q1,q2⟩:=JM sC (afX (agN u));have hall:=hev.trans evT (cR _);refine⟨uu,q1,uu,rfl,XW sC.heap [Ä] q2 (show ă [Ä] _ (enc Ä (agN u))=some (agN u) from rfl),fun b hb=>?_,?_,hall.os,hall.tape,hall.output⟩
 ·rw[World.putObj_heap_other (by omega)];exact(hall.keep b hb fun⟨_,h,_⟩=>by cases h).1
 ·have:=hall.size;simpa[World.putObj] using this
def apj (x:Val (.pair Ä (.pair (.slice Â) (.slice Â)))):Hk x.1 x.2.1 x.2.2 cutK=pJ.F x:=by kernel_rfl
noncomputable def encG (g:Val Ð):Value:=.agg #[.int .i64 g.1,.int .i64 g.2.1,.int .i64 g.2.2.1,.int .i64 g.2.2.2.1.1,.int .i64 g.2.2.2.1.2,.int .i64 g.2.2.2.2.1.1,.int .i64 g.2.2.2.2.1.2,.int .i64 g.2.2.2.2.2]
def aq1 [ô] (g:Val Ð) (ν:Nat→Value) (h:List Blk) (w:World):VR ν h w (.agg (flat Ð g)) (encG g) :=
 ⟨_,rfl,⟨rfl,rfl⟩,⟨rfl,rfl⟩,⟨rfl,rfl⟩,⟨rfl,rfl⟩,⟨rfl,rfl⟩,⟨rfl,rfl⟩,⟨rfl,rfl⟩,⟨rfl,rfl⟩,trivial⟩
def apg (G:Nat→Prop) (x:Val (tyL pJ.ts)) (y:Val Ä) (hF:pJ.F x=some y) (w:World) (vals:List Value) (hG:∀b,G b→b<w.heap.size) (hAL:AL w G pJ.ts x vals) :
 (∃fn c,Tryz.prog.funcs[62]?=some fn∧fn.body=some c)∧CallsIn Fence.wide 0 Tryz.prog 62 vals.toArray w (ag9 G y w):=by
 letI:ô:=⟨G,[],none⟩
 have hlib:OG (ź (Val Ä)):=SF Rh _ rfl rfl rfl rfl rfl (ir rfl);have hdraw:∀L call,l5 (ź (Val Ä)) L call→mm (ź (Val Ä)) L call:=Ff hmix;have hloops:ag7 (ź (Val Ä)):=fun n hn hE hD path f fn c hp hf hc=>IA (tab:=EE _) rfl afZ hn hE hD hp hf hc;have hcall:=mS (.inl ⟨rfl,rfl⟩) hlib hdraw (fun n hn hE=>hloops n hn hE (hdraw _ _ hE)) 10 (cR _);have hEnv:l5 (ź (Val Ä)) 2 (kg (ź (Val Ä)) 10):=⟨.inr (qG 9),hcall,hlib.plain,hlib.clone,hlib.joins⟩;have H:HR (fun _=>undef) [] w:=⟨fun _=>trivial,fun _ _ _ h=>(by cases h),hG,fun _ _ h=>(by cases h)⟩;have hav:∀b,Av (fun _=>undef) [] b→G b:=fun b hb=>hb.elim (fun⟨_,h,_⟩=>by cases h) id;have hargs:ĉ (VR (fun _=>undef) [] w) (ā pJ.ts x) vals:=AL.VR (hAL.mono hav);refine⟨⟨Tryz.f62,_,Tryz.func62,rS⟩,?_⟩;have hlen:vals.length=3:=hargs.length.symm;refine callsIn_wide.2 (callsIn_wide.1 (callsIn_of_wp_marks (n:=2) Tryz.func62 rS trivial ?_ (R:=ag9 G y w)))
 have hS:Sim (fun _=>undef) {t:=ā pJ.ts x++List.replicate 127 .any,h:=[]} {tmps:=vals.toArray++Array.replicate (Tryz.f62.ntmps-vals.toArray.size) undef,defers:=[]} w:=by
  refine⟨rfl,?_,fun i=>?_,H⟩
  ·have:Tryz.f62.ntmps=130:=by kernel_rfl
   have hl2:(ā pJ.ts x).length=3:=rfl;simp[this,hlen,hl2]
  ·simp only[SC];rcases dz i (ā pJ.ts x).length with hi|hi
   ·have:=ĉ.lk (R:=VR (fun _=>undef) [] w) (fun _=>trivial) i hargs
    have hv:i<vals.length:=by rw[←hargs.length]; exact hi
    have h2:(vals.toArray++Array.replicate (Tryz.f62.ntmps-vals.toArray.size) undef).getD i undef=vals.getD i undef:=by
     simp[dU,eX,hv]
    rw[h2]; exact this
   ·rw[alS _ _ hi]; trivial
 have law:=(afY x cutK).trans ((apj x).trans hF);refine peelN rfl hEnv (hdraw _ _ hEnv) rfl (path:=[]) rfl (fun e S hne h=>hne (F4 h).1) 7 Ĥ _ _ _ _ Hj (fun z hz=>hloops 10 (cR _) hEnv (hdraw _ _ hEnv) [] 62 Tryz.f62 Ĥ rfl Tryz.func62 rS z hz) law hS (fun ν1 S1 a1 w1 s1 e1 k1=>?_);obtain⟨_,p,v,hm,hk⟩:=F4 k1;obtain⟨hrow,hk⟩:=agM hk
 cases hz:Bj (ó v) (Ş v) with
 |none=>rw[hz] at hk; cases hk
 |some z =>
 rw[hz] at hk;have hB:nB p (ģ v z) some=some y:=hk;obtain⟨hzl,hzs⟩:=al0 hz;obtain⟨ν2,s2,e2,_,_⟩:=F1 _ _ _ _ _ _ _ ν1 a1 w1 hm s1;have evw:=e1.trans e2 (cR _)
 have hv0:ģ v []=v:=by rw[←hrow]; rfl
 have s2':Sim ν2 (cS p v) a1 w1:=s2
 -- the blocks
 obtain⟨fa,fb,us,lo,co,ko,h5⟩:=cS_5 p v;have hB5:=s2'.heap.blk 5;rw[h5] at hB5;obtain⟨bb,cb,te,n5,hbb,hc5⟩:=hB5;have hB6:=s2'.heap.blk 6;rw[cS_6] at hB6;obtain⟨tb,ct,tt,n6,htb,hc6⟩:=hB6;have hl5:=hc5.length
 obtain⟨u1,u2,u3,u4,u5,u6,u7,hcb⟩:∃u1 u2 u3 u4 u5 u6 u7,cb.toList=[u1,u2,u3,u4,u5,u6,u7]:=by
  rcases hcs:cb.toList with _|⟨u1,_|⟨u2,_|⟨u3,_|⟨u4,_|⟨u5,_|⟨u6,_|⟨u7,_|⟨u8,t⟩⟩⟩⟩⟩⟩⟩⟩<;>rw[hcs] at hl5<;>simp at hl5
  exact⟨u1,u2,u3,u4,u5,u6,u7,rfl⟩
 rw[hcb] at hc5;obtain⟨_,_,hc3,_⟩:=hc5;have hg3:CR w1 (Av ν2 (cS p v).h) (.slice Ð) (ó v) [u3]:=hc3.1;obtain⟨base,cap,eu3,hcap,hgl⟩:=hg3
 have eu3:u3=.slice base (ó v).length cap:=by simpa using eu3
 obtain⟨gb,go,hgb⟩:∃gb go,0<(ó v).length→base=some ⟨gb,go,none⟩∧¬Av ν2 (cS p v).h gb∧gb<w1.heap.size∧∀(i:Nat) (g:Val Ð),(ó v)[i]?=some g→∃us,CR w1 (Av ν2 (cS p v).h) Ð g us∧Ő w1 gb (go+i*8) us:=by
  rcases hgl with hgl|⟨gb,go,q1,q2,q3,q4⟩
  ·exact⟨0,0,fun h=>by rw[show(ó v)=[] from hgl] at h; simp at h⟩
  ·exact⟨gb,go,fun _=>⟨q1,q2,q3,q4⟩⟩
 obtain⟨gl,hgle⟩:∃gl,gl=ó v:=⟨_,rfl⟩;rw[←hgle] at hgb eu3
 have hR:∀b,(0<gl.length∧b=gb)→b<w1.heap.size∧¬ag8 ν2 (cS p v).h b:=fun b ⟨h,e⟩=>by subst e; obtain⟨_,q2,q3,_⟩:=hgb h; exact⟨q3,fun hl=>q2 (.inl hl)⟩
 have hnd:∀pre W,CI G p v ν2 w1 pre W→KNd w1 (fun b=>0<gl.length∧b=gb) tb (Ş v) W:=fun pre W hI=>hI.nd s2'.heap hR n6
 have hI0:CI G p v ν2 w1 [] w1:=by
  refine⟨ν2,?_,?_⟩
  ·rw[show ģ v (([]:List Nat).map (gz (ó v)))=v from hv0]; exact s2'.heap
  ·rw[show ģ v (([]:List Nat).map (gz (ó v)))=v from hv0]; exact Ev.refl _ _ _ _
 have hp59:=s2'.tmps 59;rw[cS_59] at hp59
 have hg:a1.tmps.getD 59 undef=.func (.func 186) #[] #[.pointer (some ⟨bb,0,none⟩),.pointer (some ⟨tb,0,none⟩)]:=by
  obtain⟨fs,cs,h1,h2,h3⟩:=hp59
  have e1:fs=#[]:=by rw[←d8]; exact h2.nil_left
  have hl:=h3.length
  obtain⟨v1,v2,e2⟩:∃v1 v2,cs.toList=[v1,v2]:=by
   rcases hcs:cs.toList with _|⟨v1,_|⟨v2,_|⟨v3,t⟩⟩⟩<;>rw[hcs] at hl<;>simp at hl
   exact⟨v1,v2,rfl⟩
  rw[e2] at h3;have e3:v1=.pointer (some ⟨bb,0,none⟩):=AM (w:=w1) (id:=5) (off:=0) h3.1 n5;have e4:v2=.pointer (some ⟨tb,0,none⟩):=AM (w:=w1) (id:=6) (off:=0) h3.2.1 n6;rw[h1,e1];congr 1;rw[←d8,e2,e3,e4]
 have hcbe:cb=#[u1,u2,.slice base gl.length cap,u4,u5,u6,u7]:=by rw[←d8,hcb,eu3]
 have hseq:SeqStopsK Fence.wide 1 Tryz.prog 186 #[.pointer (some ⟨bb,0,none⟩),.pointer (some ⟨tb,0,none⟩)] (fun j:Nat=>#[encG (gz gl j)]) (fun A B=>KNd w1 (fun b=>0<gl.length∧b=gb) tb (Ş v) A→KNd w1 (fun b=>0<gl.length∧b=gb) tb (Ş v) B)
  (fun xs=>xs=T4 (fun j=>Nq (Ş v) (gz gl j).1) gl.length) (fun _=>True) (T4 (fun j=>Nq (Ş v) (gz gl j).1) gl.length).length w1:=by
  intro l J Jx W hbel hJ hJx hY h0
  refine aqS te 1 (by omega) l bb tb u1 u2 u4 u5 u6 u7 gb go gl.length cap base (fun h=>(hgb h).1) (fun j=>(gz gl j).1) (fun j=>(gz gl j).2.1) (fun j=>(gz gl j).2.2.1) (fun j=>(gz gl j).2.2.2.1.1) (fun j=>(gz gl j).2.2.2.1.2) (fun j=>(gz gl j).2.2.2.2.1.1) (fun j=>(gz gl j).2.2.2.2.1.2) (fun j=>(gz gl j).2.2.2.2.2)
   (fun j=>Nq (Ş v) (gz gl j).1) ?len (KNd w1 (fun b=>0<gl.length∧b=gb) tb (Ş v)) W ((hbel.block bb (ę hbb)).trans (by rw[hbb,hcbe])) ?cells ?maps (fun W1 W2 h hg=>h.grown (fun b hb=>(hR b hb).1) hg) ((hnd [] w1 hI0).below (fun b hb=>(hR b hb).1) hbel.size hbel.block)
   J Jx (fun pre W1 W2 hj hg=>hJ pre W1 W2 none hj hg (fun r e=>by cases e)) (fun pre W1 W2 hj hg=>hJx pre W1 W2 none hj hg (fun r e=>by cases e)) (fun pre j W1 hj hl=>hY pre j W1 hj hl) h0
  case len =>
   have:=hzl;rw[←hgle] at this;simp only[ë,decide_eq_true_eq] at this;omega
  case cells =>
   intro W' hW j hj;obtain⟨q1,q2,q3,q4⟩:=hgb (by omega);obtain⟨vs,r1,r2⟩:=q4 j (gz gl j) (by simp[gz,cQ hj]);have r2:=r2.keep (w':=W') (hW.2.1 gb ⟨by omega,rfl⟩);rw[agy r1] at r2;refine⟨?_,?_,?_,?_,?_,?_,?_,?_⟩
   ·simpa using r2 0 _ rfl
   ·simpa[fc] using r2 1 _ rfl
   ·simpa[fc] using r2 2 _ rfl
   ·simpa[fc] using r2 3 _ rfl
   ·simpa[fc] using r2 4 _ rfl
   ·simpa[fc] using r2 5 _ rfl
   ·simpa[fc] using r2 6 _ rfl
   ·simpa[fc] using r2 7 _ rfl
  case maps =>
   intro W' hW;obtain⟨_,_,h3,mb,h4,h5,h6⟩:=id hW;refine⟨.map (some mb),fun W'' hg=>?_⟩;obtain⟨k1,_,k3,mb',k4,k5,k6⟩:=hW.grown (fun b hb=>(hR b hb).1) hg
   have:mb'=mb:=by
    have e:=World.cell?_of_block (a:=⟨tb,0,none⟩) (hg.block tb (dA h3 hW.1) (by simp));rw[e,h5] at k5;cases k5; rfl
   subst this;exact⟨k5,fun j _=>aoK k6 _⟩
 rw[ajp];refine wpIn_block (T6 (n:=2) rfl (by omega) hg trivial (fun args w=>?eg) hseq (fun h k=>fun q=>k (h q)) (fun W l o o' hl ho _ _ hW=>?kb) (Below.refl _ _) (fun _=>rfl) (CI G p v ν2 w1) (CI.own s2'.heap) hI0 (fun l pre j W hl _ hI hlt=>?round) (fun D xs W hD hxs hI hDo=>?done))
 case eg=>simp[callFunc,Sem.run_bind,run_program,Result.andThen_ok,Tryz.func186,plain 186 _ Tryz.func186,show Tryz.f186.body.isNone=false from rfl]; rfl
 case kb=>exact hW.below (fun b hb=>(hR b hb).1) (by simp[World.putObj]) fun b hb=>World.putObj_heap_other (by omega)
 case round =>
  have hf:∀u:Value,((#[60]:Array Tmp).zip #[u]).foldl (fun t (p,v)=>t.setIfInBounds p v) a1.tmps=a1.tmps.setIfInBounds 60 u:=fun u=>by simp
  show Code.wpIn (Fence.wide.inRound l) 0 Tryz.prog _ _ ⟨((#[60]:Array Tmp).zip #[encG (gz gl j)]).foldl (fun t (p,v)=>t.setIfInBounds p v) a1.tmps,[]⟩ W;rw[hf];refine wpIn_mono (amz s2' l pre j W hl hI ?_ (u:=encG (gz gl j)) (by rw[hgle]; exact fun ν h w=>aq1 _ ν h w)) fun e a' Wa ha=>?_
  ·refine aoy hzl ?_;have:=afm (fun j=>Nq (Ş v) (gz gl j).1) gl.length;rw[←hgle];omega
  ·cases e with
   |normal =>
    refine⟨ha.1,fun r' hr=>wpIn_mono (ha.2 r' hr) fun e a3 W3 hb=>?_⟩
    cases e with
    |normal=>exact⟨hb.1,fun _=>hnd _ _ hb.2,hb.2⟩
    |_=>exact hb
   |_=>exact ha
 case done =>
  subst hxs;obtain⟨ν',Hd,evd⟩:=hI
  have hzz:(T4 (fun j=>Nq (Ş v) (gz gl j).1) gl.length).map (gz (ó v))=z:=by rw[hzs,hgle]
  rw[hzz] at Hd evd;have hml:=A6 s2'.heap evd (apG p v) (agZ _ _) (t:=[false]) (by simp);have ht:(cS p (ģ v z)).t=(cS p v).t:=cS_t _ _ _
  have simD:Sim ν' (cS p (ģ v z)) a1 W:=by
   refine⟨s2'.defers,?_,fun i=>?_,Hd⟩
   ·rw[ht]; exact s2'.len
   ·rw[ht]; exact VR.pin evd (ad2 rfl _ (aqk p v) i) (s2'.tmps i)
  exact apd simD hB hDo (W8 Hd hml hD hDo rfl) (evw.trans (evd.mono (eA _)) (cR _)) (dC evw.size hD)
def am0:Î Tryz.prog 62 pJ:=fun G x y hF w vals hG hAL=>apg G x y hF w vals hG hAL
end Go.Proofs.ZzM
end

noncomputable section
set_option maxRecDepth 100000
namespace Go.Proofs.ZzM
open Go Go.Am
def aj0:Î Tryz.prog 30 Wg:=Ç (L5 _) (fun {_}=>Ċ Æ _) hmix (tab:=Cj _) rfl Æ (Å fun x=>Ua x some)
def apt:Î Tryz.prog 10 ahH:=Ç (J1 _) (fun {_}=>Ċ (Á aj0 Æ) _) hmix (tab:=L4 _) rfl (Á T9 Æ) (Å fun x=>acE x some)
def jx:Î Tryz.prog 136 ŵ:=Ç (š _) (fun {_}=>Ċ Æ _) hmix (tab:=ii _) rfl (Á lp Æ) (Å fun x=>mz x some)
def kh:Î Tryz.prog 67 j3:=Ç (Sx _) (fun {_}=>Ċ (Á ŧ (Á TH (Á jx Æ))) _) hmix (tab:=Iz _) rfl Æ (Å fun x=>aaa x some)
def mU:Î Tryz.prog 50 kB:=Ç (GS _) (fun {_}=>Ċ (Á kh Æ) _) hmix (tab:=zt _) rfl Æ (Å fun x=>Q9 x some)
def AI:Î Tryz.prog 117 qR:=Ç (κ _) (fun {_}=>Ċ Æ _) hmix (tab:=xG _) rfl (Á HD (Á HC (Á HA (Á HB (Á Hz Æ))))) (Å fun x=>Oc x some)
def aaP:Î Tryz.prog 139 OS:=Ç (WQ _) (fun {_}=>Ċ Æ _) hmix (tab:=MC _) rfl Æ (Å fun x=>adr x some)
def AJ:Î Tryz.prog 138 tN:=Ç (EN _) (fun {_}=>Ċ (Á aaP Æ) _) hmix (tab:=HJ _) rfl (Á RE Æ) (Å fun x=>ZD x some)
def am4:Î Tryz.prog 112 aci:=Ç (EM _) (fun {_}=>Ċ (Á AI (Á AJ (Á aaP Æ))) _) hmix (tab:=HG _) rfl (Á Rw Æ) (Å fun x=>ZB x some)
def akf:Î Tryz.prog 120 Wx:=Ç (jq _) (fun {_}=>Ċ Æ _) hmix (tab:=Db _) rfl (Á Oj (Á Oi (Á Oh (Á Oe (Á Og Æ))))) (Å fun x=>Vk x some)
def TE:Î Tryz.prog 114 FQ:=Ç (RK _) (fun {_}=>Ċ (Á am4 (Á akf Æ)) _) hmix (tab:=HN _) rfl Æ (Å fun x=>ZF x some)
def ni:Î Tryz.prog 51 jZ:=Ç (xv _) (fun {_}=>Ċ (Á TE Æ) _) hmix (tab:=rO _) rfl Æ (Å fun x=>GR x some)
def DK:Î Tryz.prog 64 sN:=Ç (xu _) (fun {_}=>Ċ (Á mU (Á ni Æ)) _) hmix (tab:=rN _) rfl Æ (Å fun x=>GQ x some)
def vp:Î Tryz.prog 65 mr:=Ç (pX _) (fun {_}=>Ċ (Á mU (Á ni Æ)) _) hmix (tab:=nA _) rfl Æ (Å fun x=>zr x some)
def mT:Î Tryz.prog 48 jz:=Ç (kI _) (fun {_}=>SF (Á DK (Á vp Æ)) (kI _) rfl rfl rfl rfl rfl (ir rfl)) hmix (tab:=nz _) rfl Æ (Å fun x=>zq x some)
def Ni:Î Tryz.prog 198 yr:=Ç (DA _) (fun {_}=>Ċ (Á jx Æ) _) hmix (tab:=xO _) rfl Æ (Å fun x=>Oo x some)
def OA:Î Tryz.prog 263 xn:=Ç (si _) (fun {_}=>Ċ Æ _) hmix (tab:=oA _) rfl Æ (Å fun x=>B0 x some)
def AK:Î Tryz.prog 266 tO:=Ç (EO _) (fun {_}=>Ċ (Á Jr Æ) _) hmix (tab:=HO _) rfl (Á RM Æ) (Å fun x=>ZG x some)
def TF:Î Tryz.prog 294 D6:=Ç (HP _) (fun {_}=>Ċ (Á aiD (Á am7 Æ)) _) hmix (tab:=zW _) rfl Æ (Å fun x=>RO x some)
def ard:Î Tryz.prog 283 ak8:=Ç (adE _) (fun {_}=>Ċ (Á AK (Á TF Æ)) _) hmix (tab:=RW _) rfl Æ (Å fun x=>agc x some)
def aaR:Î Tryz.prog 264 FT:=Ç (zZ _) (fun {_}=>Ċ (Á ard Æ) _) hmix (tab:=uL _) rfl Æ (Å fun x=>K5 x some)
def agV:Î Tryz.prog 300 afy:=Ç (adC _) (fun {_}=>Ċ Æ _) hmix (tab:=RT _) rfl Æ (Å fun x=>aga x some)
def DL:Î Tryz.prog 295 Ch:=Ç (xL _) (fun {_}=>Ċ (Á AK (Á agV Æ)) _) hmix (tab:=sh _) rfl Æ (Å fun x=>HU x some)
def am9:Î Tryz.prog 298 ak9:=Ç (adG _) (fun {_}=>Ċ (Á AK (Á TF Æ)) _) hmix (tab:=RY _) rfl Æ (Å fun x=>age x some)
def am8:Î Tryz.prog 284 acl:=abL (EQ _) (adF _) (fun {_}=>SF (Á Jr (Á DL (Á am9 (Á agV Æ)))) (EQ _) rfl rfl rfl rfl rfl (ir rfl)) (fun {_}=>Ċ (Á Jr (Á DL (Á am9 (Á agV Æ)))) _) rfl hmix (tab:=wt _) rfl Æ (us:=ML) rfl (Á (by kernel_rfl) Æ) (Å fun x=>ZL x some)
def aaQ:Î Tryz.prog 265 FS:=Ç (zY _) (fun {_}=>Ċ (Á am8 Æ) _) hmix (tab:=uK _) rfl Æ (Å fun x=>K4 x some)
def Xz:Î Tryz.prog 238 JX:=Ç (MU _) (fun {_}=>Ċ (Á TG (Á Js (Á OA (Á aaR (Á aaQ Æ))))) _) hmix (tab:=DD _) rfl Æ (Å fun x=>VE x some)
def aeO:Î Tryz.prog 239 PM:=Ç (Su _) (fun {_}=>Ċ Æ _) hmix (tab:=Ik _) rfl Æ (Å fun x=>Z2 x some)
def aeM:Î Tryz.prog 267 PJ:=Ç (RS _) (fun {_}=>Ċ Æ _) hmix (tab:=HQ _) rfl Æ (Å fun x=>ZJ x some)
def aiE:Î Tryz.prog 240 X6:=Ç (WZ _) (fun {_}=>Ċ (Á AK (Á aeM Æ)) _) hmix (tab:=MN _) rfl Æ (Å fun x=>adI x some)
def aeN:Î Tryz.prog 241 PK:=Ç (RZ _) (fun {_}=>Ċ (Á AK (Á aeM Æ)) _) hmix (tab:=HV _) rfl Æ (Å fun x=>ZM x some)
def aiF:Î Tryz.prog 203 X7:=Ç (W0 _) (fun {_}=>Ċ (Á Xz (Á aeO (Á aiE (Á aeN Æ)))) _) hmix (tab:=MP _) rfl Æ (Å fun x=>adL x some)
def apD:Î Tryz.prog 235 ahR:=Ç (Be _) (fun {_}=>Ċ (Á mV Æ) _) hmix (tab:=MR _) rfl (Á Vy (Á Vx Æ)) (Å fun x=>adO x some)
def aiG:Î Tryz.prog 137 X8:=Ç (uM _) (fun {_}=>Ċ (Á TH (Á aiH (Á Ni (Á Js (Á aiF (Á apD Æ)))))) _) hmix (tab:=MQ _) rfl (Á Vv (Á Vw (Á Vu Æ))) (Å fun x=>adN x some)
def Ų:Î Tryz.prog 68 ů:=Ç (MY _) (fun {_}=>Ċ (Á ŧ (Á aiG Æ)) _) hmix (tab:=DE _) rfl Æ (Å fun x=>VJ x some)
def sI:Î Tryz.prog 110 qS:=Ç (Ld _) (fun {_}=>Ċ (Á ŧ Æ) _) hmix (tab:=M3 _) rfl (Á VL Æ) (Å fun x=>adW x some)
def ŭ:Î Tryz.prog 111 ū:=Ç (xI _) (fun {_}=>Ċ (Á AI (Á AJ Æ)) _) hmix (tab:=rZ _) rfl Æ (Å fun x=>HH x some)
def aeK:Î Tryz.prog 12 L3:=Ç (sW _) (fun {_}=>Ċ (Á mT (Á ŧ (Á kh (Á Ų (Á sI (Á ŭ Æ)))))) _) hmix (tab:=xy _) rfl (Á Hv Æ) (Å fun x=>N9 x some)
def agU:Î Tryz.prog 14 PH:=Ç (wj _) (fun {_}=>Ċ (Á mU (Á ni (Á ŧ (Á kh (Á Ų (Á sI (Á ŭ Æ))))))) _) hmix (tab:=zJ _) rfl (Á KO Æ) (Å fun x=>Rs x some)
def Fk:Î Tryz.prog 57 D2:=Ç (GP _) (fun {_}=>Ċ Æ _) hmix (tab:=zo _) rfl Æ (Å fun x=>Q7 x some)
def am2:Î Tryz.prog 21 acg:=Ç (EI _) (fun {_}=>Ċ (Á mT (Á Fk (Á ŧ (Á kh (Á Ų (Á sI (Á ŭ Æ))))))) _) hmix (tab:=Hu _) rfl (Á Rm Æ) (Å fun x=>Zu x some)
def aeL:Î Tryz.prog 122 PI:=Ç (KS _) (fun {_}=>Ċ Æ _) hmix (tab:=ads _) rfl (Á af6 (Á af4 (Á af3 (Á af5 Æ)))) (Å fun x=>alE x some)
def am6:Î Tryz.prog 61 ack:=Ç (qg _) (fun {_}=>Ċ (Á TE (Á aeL Æ)) _) hmix (tab:=HM _) rfl (Á RI (Á RG (Á RH Æ))) (Å fun x=>ZE x some)
def aaO:Î Tryz.prog 60 FP:=Ç (zI _) (fun {_}=>Ċ (Á mU (Á am6 Æ)) _) hmix (tab:=uA _) rfl Æ (Å fun x=>KN x some)
def TB:Î Tryz.prog 63 D3:=Ç (vV _) (fun {_}=>Ċ (Á Ų Æ) _) hmix (tab:=zp _) rfl (Á Kw Æ) (Å fun x=>Q8 x some)
def TC:Î Tryz.prog 24 D4:=Ç (lO _) (fun {_}=>SF (Á aaO (Á am0 (Á TB (Á DK (Á vp (Á ŧ (Á kh (Á Ų (Á sI (Á ŭ Æ)))))))))) (lO _) rfl rfl rfl rfl rfl (ir rfl)) hmix (tab:=zH _) rfl (Á KM (Á KL Æ)) (Å fun x=>Rr x some)
def TD:Î Tryz.prog 140 D5:=Ç (wn _) (fun {_}=>Ċ Æ _) hmix (tab:=zL _) rfl (Á KR Æ) (Å fun x=>Ru x some)
def aiC:Î Tryz.prog 141 X4:=Ç (KP _) (fun {_}=>Ċ Æ _) hmix (tab:=MB _) rfl (Á Vi Æ) (Å fun x=>adq x some)
def VV:Î Tryz.prog 69 Cg:=Ç (xK _) (fun {_}=>Ċ (Á AJ (Á aaP (Á TD (Á aiC Æ)))) _) hmix (tab:=sd _) rfl Æ (Å fun x=>HL x some)
def xd:Î Tryz.prog 25 oI:=Ç (zG _) (fun {_}=>Ċ (Á ŧ (Á kh (Á Ų (Á VV Æ)))) _) hmix (tab:=uz _) rfl Æ (Å fun x=>KK x some)
def aiI:Î Tryz.prog 147 Yb:=Ç (Lb _) (fun {_}=>Ċ (Á ŧ Æ) _) hmix (tab:=MX _) rfl (Á VI Æ) (Å fun x=>adU x some)
def anb:Î Tryz.prog 200 acn:=Ç (Se _) (fun {_}=>Ċ (Á Xz (Á aeO (Á aiE (Á aeN Æ)))) _) hmix (tab:=HX _) rfl Æ (Å fun x=>ZQ x some)
def agY:Î Tryz.prog 146 PN:=Ç (Iw _) (fun {_}=>Ċ (Á TE (Á aiG (Á aiI (Á Ni (Á Js (Á anb Æ)))))) _) hmix (tab:=Ag _) rfl Æ (Å fun x=>Sw x some)
def ana:Î Tryz.prog 202 acm:=Ç (Sb _) (fun {_}=>Ċ (Á ŧ Æ) _) hmix (tab:=HW _) rfl Æ (Å fun x=>ZP x some)
def apF:Î Tryz.prog 148 ahT:=Ç (W4 _) (fun {_}=>Ċ (Á ana (Á aiF Æ)) _) hmix (tab:=MZ _) rfl Æ (Å fun x=>adV x some)
def XA:Î Tryz.prog 149 JY:=Ç (M4 _) (fun {_}=>Ċ (Á Js (Á Xy Æ)) _) hmix (tab:=DF _) rfl Æ (Å fun x=>VM x some)
def aeJ:Î Tryz.prog 150 L2:=Ç (C3 _) (fun {_}=>Ċ (Á mU Æ) _) hmix (tab:=xx _) rfl Æ (Å fun x=>N5 x some)
def aeI:Î Tryz.prog 151 L1:=Ç (C2 _) (fun {_}=>Ċ (Á ni Æ) _) hmix (tab:=xw _) rfl Æ (Å fun x=>N4 x some)
def LI:Î Tryz.prog 76 JV:=Ç (rQ _) (fun {_}=>SF (Á mU (Á Ų (Á agY (Á aiI (Á apF (Á XA (Á aeJ (Á aeI Æ)))))))) (rQ _) rfl rfl rfl rfl rfl (ir rfl)) hmix (tab:=C1 _) rfl (Á N3 Æ) (Å fun x=>U8 x some)
def xc:Î Tryz.prog 82 vA:=Ç (zz _) (fun {_}=>Ċ Æ _) hmix (tab:=ue _) rfl Æ (Å fun x=>KA x some)
def akd:Î Tryz.prog 154 Wv:=Ç (Mu _) (fun {_}=>Ċ Æ _) hmix (tab:=C4 _) rfl Æ (Å fun x=>U9 x some)
def tv:Î Tryz.prog 86 sL:=Ç (xr _) (fun {_}=>Ċ (Á akd Æ) _) hmix (tab:=rL _) rfl Æ (Å fun x=>GN x some)
def tx:Î Tryz.prog 88 sM:=Ç (kq _) (fun {_}=>Ċ Æ _) hmix (tab:=rM _) rfl (Á BV (Á BW Æ)) (Å fun x=>GO x some)
def TA:Î Tryz.prog 77 yq:=Ç (mE _) (fun {_}=>Ċ (Á Š (Á xc (Á tv (Á tx Æ)))) _) hmix (tab:=pS _) rfl (Á zn Æ) (Å fun x=>Ey x some)
def am1:Î Tryz.prog 31 acf:=Ç (EG _) (fun {_}=>Ċ (Á ŧ (Á kh (Á Ų (Á LI (Á TA (Á sI (Á ŭ Æ))))))) _) hmix (tab:=Hl _) rfl (Á Rj Æ) (Å fun x=>Zr x some)
def Jq:Î Tryz.prog 83 FO:=Ç (zD _) (fun {_}=>Ċ Æ _) hmix (tab:=ur _) rfl Æ (Å fun x=>KI x some)
def Jp:Î Tryz.prog 84 FN:=Ç (zA _) (fun {_}=>Ċ Æ _) hmix (tab:=uf _) rfl Æ (Å fun x=>KB x some)
def agT:Î Tryz.prog 35 PG:=abL (wc _) (ė _) (fun {_}=>SF (Á Fk (Á ŧ (Á kh (Á Ų (Á LI (Á Š (Á xc (Á Jq (Á Jp (Á tv (Á tx (Á sI (Á ŭ Æ))))))))))))) (wc _) rfl rfl rfl rfl rfl (ir rfl)) (fun {_}=>SF (Á Fk (Á ŧ (Á kh (Á Ų (Á LI (Á Š (Á xc (Á Jq (Á Jp (Á tv (Á tx (Á sI (Á ŭ Æ))))))))))))) (ė _) rfl rfl rfl rfl rfl (ir rfl)) rfl hmix (tab:=qf _) rfl (Á KH (Á KG Æ)) (us:=sU) rfl (Á (by kernel_rfl) Æ) (Å fun x=>Rl x some)
def am5:Î Tryz.prog 91 acj:=Ç (kK _) (fun {_}=>Ċ (Á AI (Á aeL (Á AJ Æ))) _) hmix (tab:=HI _) rfl (Á RC (Á Ry (Á Rz (Á RA (Á RB Æ))))) (Å fun x=>ZC x some)
def am3:Î Tryz.prog 38 ach:=Ç (Rp _) (fun {_}=>Ċ (Á am0 (Á TB (Á Ų (Á am5 Æ)))) _) hmix (tab:=Hw _) rfl Æ (Å fun x=>Zv x some)
def aeF:Î Tryz.prog 44 LZ:=Ç (Ci _) (fun {_}=>Ċ Æ _) hmix (tab:=xo _) rfl Æ (Å fun x=>Nx x some)
def apA:Î Tryz.prog 106 ahO:=Ç (WP _) (fun {_}=>Ċ (Á XA Æ) _) hmix (tab:=Mr _) rfl Æ (Å fun x=>ada x some)
def amZ:Î Tryz.prog 107 ace:=Ç (Rf _) (fun {_}=>Ċ Æ _) hmix (tab:=Hg _) rfl Æ (Å fun x=>Zj x some)
def amY:Î Tryz.prog 108 acd:=Ç (ED _) (fun {_}=>Ċ (Á Š Æ) _) hmix (tab:=Hf _) rfl (Á Ra Æ) (Å fun x=>Zh x some)
def apC:Î Tryz.prog 45 ahQ:=Ç (Ba _) (fun {_}=>Ċ (Á mT (Á ŧ (Á kh (Á Ų (Á apA (Á amZ (Á amY (Á sI (Á ŭ Æ))))))))) _) hmix (tab:=MA _) rfl (Á Vf (Á Ve Æ)) (Å fun x=>adn x some)
def VU:Î Tryz.prog 92 Cf:=Ç (xJ _) (fun {_}=>Ċ (Á AJ (Á TD (Á aiC Æ))) _) hmix (tab:=sc _) rfl Æ (Å fun x=>HK x some)
def VT:Î Tryz.prog 39 Ce:=Ç (xz _) (fun {_}=>Ċ (Á ŧ (Á Ų (Á VU Æ))) _) hmix (tab:=rX _) rfl Æ (Å fun x=>Hx x some)
def ov:Î Tryz.prog 248 iV:=Ç (Ŕ _) (fun {_}=>Ċ Æ _) hmix (tab:=Ρ _) rfl (Á kF Æ) (Å fun x=>lr x some)
def mf:Î Tryz.prog 216 gW:=Ç (Ε _) (fun {_}=>Ċ (Á ov Æ) _) hmix (tab:=Ŭ _) rfl Æ (Å fun x=>j7 x some)
def tr:Î Tryz.prog 250 jY:=Ç (ŷ _) (fun {_}=>Ċ Æ _) hmix (tab:=iW _) rfl (Á mw Æ) (Å fun x=>og x some)
def pk:Î Tryz.prog 219 jd:=Ç (iy _) (fun {_}=>Ċ (Á tr Æ) _) hmix (tab:=gZ _) rfl Æ (Å fun x=>me x some)
def qH:Î Tryz.prog 252 jl:=Ç (Ţ _) (fun {_}=>Ċ Æ _) hmix (tab:=ij _) rfl (Á lq Æ) (Å fun x=>mA x some)
def nY:Î Tryz.prog 222 iw:=Ç (g8 _) (fun {_}=>Ċ (Á qH Æ) _) hmix (tab:=Δ _) rfl Æ (Å fun x=>ld x some)
def apB:Î Tryz.prog 109 ahP:=Ç (Θ _) (fun {_}=>Ċ (Á mf (Á pk (Á nY Æ))) _) hmix (tab:=Ms _) rfl (Á U6 (Á U3 (Á U2 (Á U4 (Á U5 (Á U1 (Á U0 (Á UZ (Á UY (Á UX Æ)))))))))) (Å fun x=>adb x some)
def ake:Î Tryz.prog 46 Ww:=Ç (Mz _) (fun {_}=>Ċ (Á xd (Á VT (Á ŧ (Á apB Æ)))) _) hmix (tab:=C7 _) rfl Æ (Å fun x=>Vd x some)
def agR:Î Tryz.prog 11 PC:=Ç (F7 _) (fun {_}=>Ċ (Á aeK (Á agU (Á am2 (Á TC (Á xd (Á am1 (Á agT (Á am3 (Á aeF (Á apC (Á ake Æ))))))))))) _) hmix (tab:=yy _) rfl Æ (Å fun x=>PY x some)
def sH:Î Tryz.prog 94 nk:=Ç (Cw _) (fun {_}=>Ċ Æ _) hmix (tab:=xq _) rfl Æ (Å fun x=>NC x some)
def Tx:Î Tryz.prog 164 JU:=Ç (acV _) (fun {_}=>Ċ Æ _) hmix (tab:=QM _) rfl Æ (Å fun x=>afI x some)
def Pb:Î Tryz.prog 100 FM:=Ç (WJ _) (fun {_}=>Ċ (Á Tx Æ) _) hmix (tab:=Mg _) rfl Æ (Å fun x=>acY x some)
def aiA:Î Tryz.prog 209 X2:=Ç (Ks _) (fun {_}=>Ċ Æ _) hmix (tab:=Mn _) rfl (Á US Æ) (Å fun x=>ac6 x some)
def aiB:Î Tryz.prog 210 X3:=Ç (WO _) (fun {_}=>Ċ Æ _) hmix (tab:=Mq _) rfl Æ (Å fun x=>ac9 x some)
def aka:Î Tryz.prog 163 Ws:=Ç (Mi _) (fun {_}=>Ċ (Á aiA (Á aiB Æ)) _) hmix (tab:=CX _) rfl Æ (Å fun x=>UQ x some)
def aj7:Î Tryz.prog 95 Wp:=Ç (Ma _) (fun {_}=>Ċ (Á sH (Á Pb (Á aka (Á Tx Æ)))) _) hmix (tab:=CA _) rfl Æ (Å fun x=>Uq x some)
def Jn:Î Tryz.prog 166 yp:=Ç (Eu _) (fun {_}=>Ċ Æ _) hmix (tab:=GC _) rfl (Á QO Æ) (Å fun x=>YV x some)
def BI:Î Tryz.prog 101 tK:=Ç (Mc _) (fun {_}=>Ċ (Á Jn Æ) _) hmix (tab:=CE _) rfl Æ (Å fun x=>Uy x some)
def amN:Î Tryz.prog 96 ab1:=Ç (Ef _) (fun {_}=>Ċ (Á Pb (Á BI Æ)) _) hmix (tab:=Gf _) rfl (Á Qf Æ) (Å fun x=>Yy x some)
def aj5:Î Tryz.prog 97 Wn:=Ç (nw _) (fun {_}=>Ċ (Á sH (Á BI (Á Tx Æ))) _) hmix (tab:=Cy _) rfl (Á NE (Á ND (Á NF Æ))) (Å fun x=>Uo x some)
def amS:Î Tryz.prog 165 ab6:=Ç (Eo _) (fun {_}=>Ċ (Á Tx Æ) _) hmix (tab:=Gv _) rfl (Á Qy Æ) (Å fun x=>YM x some)
def aj4:Î Tryz.prog 98 Wm:=Ç (L7 _) (fun {_}=>Ċ (Á sH (Á Pb (Á Tx (Á amS Æ)))) _) hmix (tab:=Cx _) rfl Æ (Å fun x=>Un x some)
def aeG:Î Tryz.prog 167 PD:=Ç (Er _) (fun {_}=>Ċ Æ _) hmix (tab:=Gy _) rfl (Á QH Æ) (Å fun x=>YQ x some)
def apu:Î Tryz.prog 211 ahI:=Ç (Kj _) (fun {_}=>Ċ Æ _) hmix (tab:=Md _) rfl (Á UI Æ) (Å fun x=>acW x some)
def aeH:Î Tryz.prog 168 PE:=Ç (Es _) (fun {_}=>Ċ (Á apu Æ) _) hmix (tab:=Gz _) rfl (Á QJ Æ) (Å fun x=>YR x some)
def aaM:Î Tryz.prog 99 FK:=Ç (jn _) (fun {_}=>Ċ (Á BI (Á Jn (Á aeG (Á aeH Æ)))) _) hmix (tab:=tZ _) rfl (Á Ei (Á Eh (Á Eg Æ))) (Å fun x=>Kd x some)
def aaL:Î Tryz.prog 158 OQ:=Ç (WH _) (fun {_}=>Ċ (Á aeH Æ) _) hmix (tab:=L8 _) rfl Æ (Å fun x=>acK x some)
def amO:Î Tryz.prog 169 ab2:=Ç (vN _) (fun {_}=>Ċ (Á aaL Æ) _) hmix (tab:=Gj _) rfl (Á Qm (Á Ql Æ)) (Å fun x=>YE x some)
def BJ:Î Tryz.prog 102 tM:=Ç (iz _) (fun {_}=>Ċ (Á amO Æ) _) hmix (tab:=CM _) rfl (Á NN (Á NM (Á NL (Á NI (Á NJ (Á NK Æ)))))) (Å fun x=>UE x some)
def vn:Î Tryz.prog 52 pr:=Ç (yX _) (fun {_}=>Ċ (Á BJ Æ) _) hmix (tab:=CS _) rfl (Á NP Æ) (Å fun x=>UH x some)
def amP:Î Tryz.prog 212 ab3:=Ç (Ej _) (fun {_}=>Ċ Æ _) hmix (tab:=Gk _) rfl (Á Qo Æ) (Å fun x=>YF x some)
def amT:Î Tryz.prog 170 ab7:=Ç (Ep _) (fun {_}=>Ċ (Á Jn (Á aeG (Á amP Æ))) _) hmix (tab:=Gw _) rfl (Á QD Æ) (Å fun x=>YO x some)
def Tz:Î Tryz.prog 285 D1:=Ç (GG _) (fun {_}=>Ċ (Á aiA (Á aiB Æ)) _) hmix (tab:=zm _) rfl Æ (Å fun x=>Q0 x some)
def apz:Î Tryz.prog 268 ahN:=Ç (WN _) (fun {_}=>Ċ (Á Tz Æ) _) hmix (tab:=Mp _) rfl Æ (Å fun x=>ac8 x some)
def apx:Î Tryz.prog 269 ahL:=Ç (WL _) (fun {_}=>Ċ Æ _) hmix (tab:=Ml _) rfl Æ (Å fun x=>ac4 x some)
def apw:Î Tryz.prog 242 ahK:=Ç (WK _) (fun {_}=>Ċ (Á apz (Á apx Æ)) _) hmix (tab:=Mj _) rfl Æ (Å fun x=>ac3 x some)
def aj6:Î Tryz.prog 243 Wo:=Ç (L9 _) (fun {_}=>Ċ (Á Jn Æ) _) hmix (tab:=Cz _) rfl Æ (Å fun x=>Up x some)
def amW:Î Tryz.prog 270 aca:=Ç (Q3 _) (fun {_}=>Ċ Æ _) hmix (tab:=GI _) rfl Æ (Å fun x=>Y3 x some)
def apy:Î Tryz.prog 271 ahM:=Ç (WM _) (fun {_}=>Ċ (Á Tz Æ) _) hmix (tab:=Mm _) rfl Æ (Å fun x=>ac5 x some)
def akb:Î Tryz.prog 244 Wt:=Ç (Mk _) (fun {_}=>Ċ (Á amW (Á apy Æ)) _) hmix (tab:=CY _) rfl Æ (Å fun x=>UR x some)
def agS:Î Tryz.prog 205 PF:=Ç (GB _) (fun {_}=>Ċ (Á aaL (Á apw (Á aj6 (Á akb Æ)))) _) hmix (tab:=yY _) rfl Æ (Å fun x=>QN x some)
def aj8:Î Tryz.prog 206 Wq:=Ç (Me _) (fun {_}=>Ċ Æ _) hmix (tab:=CU _) rfl Æ (Å fun x=>UL x some)
def arc:Î Tryz.prog 245 ak7:=Ç (ac0 _) (fun {_}=>Ċ Æ _) hmix (tab:=QZ _) rfl Æ (Å fun x=>afN x some)
def amX:Î Tryz.prog 207 acb:=Ç (Q5 _) (fun {_}=>Ċ (Á arc Æ) _) hmix (tab:=GK _) rfl Æ (Å fun x=>Zc x some)
def amV:Î Tryz.prog 246 ab9:=Ç (Q1 _) (fun {_}=>Ċ Æ _) hmix (tab:=GH _) rfl Æ (Å fun x=>Y2 x some)
def akc:Î Tryz.prog 208 Wu:=Ç (Mo _) (fun {_}=>Ċ (Á amV Æ) _) hmix (tab:=CZ _) rfl Æ (Å fun x=>UT x some)
def amQ:Î Tryz.prog 171 ab4:=Ç (Qr _) (fun {_}=>Ċ (Á agS (Á aj8 (Á amX (Á akc Æ)))) _) hmix (tab:=Gr _) rfl Æ (Å fun x=>YK x some)
def aiz:Î Tryz.prog 103 X1:=Ç (t7 _) (fun {_}=>Ċ (Á vn (Á BJ (Á aaL (Á amT (Á amQ Æ))))) _) hmix (tab:=Mb _) rfl (Á Uv (Á Uw (Á Uu Æ))) (Å fun x=>acN x some)
def LH:Î Tryz.prog 41 A3:=Ç (kT _) (fun {_}=>Ċ (Á sH (Á aj7 (Á amN (Á aj5 (Á aj4 (Á aaM (Á Pb (Á BI (Á BJ (Á aiz Æ)))))))))) _) hmix (tab:=CV _) rfl (Á NT (Á NR (Á NS (Á NQ Æ)))) (Å fun x=>UM x some)
def Tw:Î Tryz.prog 43 D0:=Ç (Gq _) (fun {_}=>Ċ (Á BJ (Á aiz Æ)) _) hmix (tab:=yM _) rfl Æ (Å fun x=>Qq x some)
def amU:Î Tryz.prog 53 ab8:=Ç (QF _) (fun {_}=>Ċ (Á LH Æ) _) hmix (tab:=Gx _) rfl Æ (Å fun x=>YP x some)
def aj9:Î Tryz.prog 54 Wr:=Ç (Τ _) (fun {_}=>Ċ Æ _) hmix (tab:=CW _) rfl (Á NZ (Á N0 (Á NY (Á NV (Á NW (Á NU (Á NX Æ))))))) (Å fun x=>UN x some)
def amM:Î Tryz.prog 15 ab0:=Ç (Ee _) (fun {_}=>Ċ (Á LH (Á Tw (Á vn (Á amU (Á aj9 Æ))))) _) hmix (tab:=Gd _) rfl (Á Qd Æ) (Å fun x=>Yw x some)
def Fh:Î Tryz.prog 16 pI:=Ç (nu _) (fun {_}=>Ċ Æ _) hmix (tab:=lE _) rfl Æ (Å fun x=>vK x some)
def aaK:Î Tryz.prog 17 FJ:=Ç (yH _) (fun {_}=>Ċ (Á vn Æ) _) hmix (tab:=tY _) rfl Æ (Å fun x=>J6 x some)
def apv:Î Tryz.prog 142 ahJ:=Ç (Kn _) (fun {_}=>Ċ Æ _) hmix (tab:=Mh _) rfl (Á UO Æ) (Å fun x=>acZ x some)
def aj3:Î Tryz.prog 70 Wj:=Ç (L6 _) (fun {_}=>Ċ (Á Tw (Á vn (Á apv Æ))) _) hmix (tab:=Cu _) rfl Æ (Å fun x=>Ul x some)
def VQ:Î Tryz.prog 26 Cc:=Ç (xp _) (fun {_}=>Ċ (Á LH (Á vn (Á aj3 Æ))) _) hmix (tab:=ri _) rfl Æ (Å fun x=>Ge x some)
def aaN:Î Tryz.prog 197 FL:=Ç (pQ _) (fun {_}=>Ċ Æ _) hmix (tab:=t8 _) rfl (Á Em Æ) (Å fun x=>Kg x some)
def Oz:Î Tryz.prog 143 xm:=Ç (rD _) (fun {_}=>Ċ (Á aaN Æ) _) hmix (tab:=oy _) rfl Æ (Å fun x=>BT x some)
def VS:Î Tryz.prog 144 Cd:=Ç (oi _) (fun {_}=>Ċ Æ _) hmix (tab:=rB _) rfl (Á BS Æ) (Å fun x=>Gt x some)
def amR:Î Tryz.prog 71 ab5:=Ç (mD _) (fun {_}=>Ċ (Á Oz (Á VS Æ)) _) hmix (tab:=Gs _) rfl (Á Qw (Á Qv (Á Qu (Á Qt Æ)))) (Å fun x=>YL x some)
def Jo:Î Tryz.prog 72 vz:=Ç (pR _) (fun {_}=>Ċ Æ _) hmix (tab:=ud _) rfl (Á Ew Æ) (Å fun x=>Ko x some)
def aaJ:Î Tryz.prog 27 FI:=Ç (yG _) (fun {_}=>Ċ (Á amR (Á Jo Æ)) _) hmix (tab:=tX _) rfl Æ (Å fun x=>J5 x some)
def aj2:Î Tryz.prog 73 Wi:=Ç (yF _) (fun {_}=>Ċ Æ _) hmix (tab:=Cp _) rfl (Á Nz Æ) (Å fun x=>Ug x some)
def Oy:Î Tryz.prog 74 xl:=Ç (re _) (fun {_}=>Ċ (Á Jo Æ) _) hmix (tab:=ox _) rfl Æ (Å fun x=>BQ x some)
def aj1:Î Tryz.prog 145 Wh:=Ç (yD _) (fun {_}=>Ċ Æ _) hmix (tab:=Co _) rfl (Á Ny Æ) (Å fun x=>Uf x some)
def amK:Î Tryz.prog 75 abY:=Ç (mC _) (fun {_}=>Ċ (Á aj1 Æ) _) hmix (tab:=Gb _) rfl (Á P4 (Á P5 (Á P2 (Á P3 Æ)))) (Å fun x=>Ys x some)
def amL:Î Tryz.prog 28 abZ:=Ç (pN _) (fun {_}=>Ċ (Á aj2 (Á Oy (Á amK Æ))) _) hmix (tab:=Gc _) rfl (Á Qb (Á P9 (Á Qa Æ))) (Å fun x=>Yv x some)
def amJ:Î Tryz.prog 29 abX:=Ç (P0 _) (fun {_}=>Ċ Æ _) hmix (tab:=F9 _) rfl Æ (Å fun x=>Yr x some)
def c_w6_SharpCerts:Î Tryz.prog 6 lm:=Ç (tT _) (fun {_}=>Ċ (Á apt (Á agR (Á amM (Á Fh (Á aaK (Á TC (Á xd (Á VQ (Á aaJ (Á amL (Á amJ Æ))))))))))) _) hmix (tab:=pL _) rfl Æ (Å fun x=>Ec x some)
end Go.Proofs.ZzM
end
