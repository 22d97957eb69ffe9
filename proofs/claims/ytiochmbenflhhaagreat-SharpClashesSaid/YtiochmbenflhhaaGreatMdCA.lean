/- lemmas -/
import Derived.Test.YtiochmbenflhhaaGreatAmD
import Derived.Test.YtiochmbenflhhaaGreatAmE
import Derived.Ground.NamesProg
import Derived.Ground.Names2Prog
import Derived.KernelRfl
import Derived.Test.YtiochmbenflhhaaGreatMdMA
import Derived.Test.YtiochmbenflhhaaGreatMdKD
import Derived.RangeFuncBox
import Derived.Lib.SliceRun
import Derived.RangeFuncLeaves
import Derived.WalkKit
import Derived.OwnWalkIn
import Derived.TacticsInMore
import Derived.LoopNIn
import Derived.LoopIn
import Derived.Test.YtiochmbenflhhaaGreatProg
import Derived.RangeFuncFrom
import Derived.RangeFuncRecord
import Derived.Test.YtiochmbenflhhaaGreatMdKC
import Derived.Test.YtiochmbenflhhaaGreatMdKB
import Derived.Test.YtiochmbenflhhaaGreatMdKA
set_option linter.all false
set_option linter.unusedSectionVars false
set_option linter.unusedVariables false
set_option linter.unusedSimpArgs false
noncomputable section
namespace Go.Proofs
open Go.Shelf
def Tryz.laysSort_ren:Go.Shelf.Ren:=⟨fun|189=>223|125=>253|257=>252|128=>272|129=>273|294=>263|295=>264|296=>265|297=>266|298=>267|299=>268|216=>269|300=>270|301=>271|328=>277|329=>278|330=>279|331=>280|332=>281|215=>282|343=>290|n=>n,fun|28=>39|3=>3|46=>284|0=>0|51=>303|53=>279|4=>4|183=>296|182=>295|131=>61|5=>5|9=>9|218=>311|222=>315|228=>323|229=>324|n=>n,fun|n=>n⟩
def Tryz.laysSort:Go.Proofs.Lays.n189 Tryz.prog Tryz.laysSort_ren:={
 mixed:=by kernel_rfl
 f125:=Tryz.func253.trans (congrArg some (by kernel_rfl))
 f128:=Tryz.func272.trans (congrArg some (by kernel_rfl))
 f129:=Tryz.func273.trans (congrArg some (by kernel_rfl))
 f189:=Tryz.func223.trans (congrArg some (by kernel_rfl))
 f215:=Tryz.func282.trans (congrArg some (by kernel_rfl))
 f216:=Tryz.func269.trans (congrArg some (by kernel_rfl))
 f257:=Tryz.func252.trans (congrArg some (by kernel_rfl))
 f294:=Tryz.func263.trans (congrArg some (by kernel_rfl))
 f295:=Tryz.func264.trans (congrArg some (by kernel_rfl))
 f296:=Tryz.func265.trans (congrArg some (by kernel_rfl))
 f297:=Tryz.func266.trans (congrArg some (by kernel_rfl))
 f298:=Tryz.func267.trans (congrArg some (by kernel_rfl))
 f299:=Tryz.func268.trans (congrArg some (by kernel_rfl))
 f300:=Tryz.func270.trans (congrArg some (by kernel_rfl))
 f301:=Tryz.func271.trans (congrArg some (by kernel_rfl))
 f328:=Tryz.func277.trans (congrArg some (by kernel_rfl))
 f329:=Tryz.func278.trans (congrArg some (by kernel_rfl))
 f330:=Tryz.func279.trans (congrArg some (by kernel_rfl))
 f331:=Tryz.func280.trans (congrArg some (by kernel_rfl))
 f332:=Tryz.func281.trans (congrArg some (by kernel_rfl))
 f343:=Tryz.func290.trans (congrArg some (by kernel_rfl))
 t0:=Tryz.underlying0
 a0:=Tryz.isAgg0
 z0:=Tryz.sizeOf0
 v0:=Tryz.zeroValue0
 t3:=Tryz.underlying3
 a3:=Tryz.isAgg3
 z3:=Tryz.sizeOf3
 v3:=Tryz.zeroValue3
 t4:=Tryz.underlying4
 a4:=Tryz.isAgg4
 z4:=Tryz.sizeOf4
 v4:=Tryz.zeroValue4
 t5:=Tryz.underlying5
 a5:=Tryz.isAgg5
 z5:=Tryz.sizeOf5
 v5:=Tryz.zeroValue5
 t9:=Tryz.underlying9
 a9:=Tryz.isAgg9
 z9:=Tryz.sizeOf9
 v9:=Tryz.zeroValue9
 t28:=Tryz.underlying39
 a28:=Tryz.isAgg39
 z28:=Tryz.sizeOf39
 v28:=Tryz.zeroValue39
 t46:=Tryz.underlying284
 a46:=Tryz.isAgg284
 z46:=Tryz.sizeOf284
 v46:=Tryz.zeroValue284
 t51:=Tryz.underlying303
 a51:=Tryz.isAgg303
 z51:=Tryz.sizeOf303
 v51:=Tryz.zeroValue303
 t53:=Tryz.underlying279
 a53:=Tryz.isAgg279
 z53:=Tryz.sizeOf279
 v53:=Tryz.zeroValue279
 t131:=Tryz.underlying61
 a131:=Tryz.isAgg61
 z131:=Tryz.sizeOf61
 v131:=Tryz.zeroValue61
 t182:=Tryz.underlying295
 a182:=Tryz.isAgg295
 z182:=Tryz.sizeOf295
 v182:=Tryz.zeroValue295
 t183:=Tryz.underlying296
 a183:=Tryz.isAgg296
 z183:=Tryz.sizeOf296
 v183:=Tryz.zeroValue296
 t218:=Tryz.underlying311
 a218:=Tryz.isAgg311
 z218:=Tryz.sizeOf311
 v218:=Tryz.zeroValue311
 t222:=Tryz.underlying315
 a222:=Tryz.isAgg315
 z222:=Tryz.sizeOf315
 v222:=Tryz.zeroValue315
 t228:=Tryz.underlying323
 a228:=Tryz.isAgg323
 z228:=Tryz.sizeOf323
 v228:=Tryz.zeroValue323
 t229:=Tryz.underlying324
 a229:=Tryz.isAgg324
 z229:=Tryz.sizeOf324
 v229:=Tryz.zeroValue324}
def Tryz.laysCompact_ren:Go.Shelf.Ren:=⟨fun|20=>224|n=>n,fun|22=>39|3=>3|4=>4|0=>0|n=>n,fun|n=>n⟩
def Tryz.laysCompact:Go.Proofs.Lays2.n20 Tryz.prog Tryz.laysCompact_ren:={
 mixed:=by kernel_rfl
 f20:=Tryz.func224.trans (congrArg some (by kernel_rfl))
 t0:=Tryz.underlying0
 a0:=Tryz.isAgg0
 z0:=Tryz.sizeOf0
 v0:=Tryz.zeroValue0
 t3:=Tryz.underlying3
 a3:=Tryz.isAgg3
 z3:=Tryz.sizeOf3
 v3:=Tryz.zeroValue3
 t4:=Tryz.underlying4
 a4:=Tryz.isAgg4
 z4:=Tryz.sizeOf4
 v4:=Tryz.zeroValue4
 t22:=Tryz.underlying39
 a22:=Tryz.isAgg39
 z22:=Tryz.sizeOf39
 v22:=Tryz.zeroValue39
 i3:=by kernel_rfl}
end Go.Proofs
namespace Go.Proofs.ZzM
open Go Go.Am
def hmix:Tryz.prog.follows .mixedOrders=true:=by kernel_rfl
def plain_ : (Tryz.prog.funcs.toList.all fun fn => !(fn.name == "runtime.NumGoroutine")) = true := by kernel_rfl
def plain (f : Nat) (fn : Func) (h : Tryz.prog.funcs[f]? = some fn) : (fn.name == "runtime.NumGoroutine") = false := by
 have:=dN.1 plain_ fn (dg (i:=f) (by simpa using h));simpa using this
def ar0:Tryz.laysSort_ren.f 189=223:=by kernel_rfl
def aki:Tryz.laysCompact_ren.f 20=224:=by kernel_rfl
section
variable [ô] {ρ:Type}
def sortOk (f:Nat) (hf:ae7 f=true) (h:List Blk) (x:AV) (K:AV→List Blk→Option ρ) (q:ρ) (e:XS h x K=some q) (ν:Nat→Value) (w:World) (u:Value) (H:HR ν h w) (hx:VR ν h w x u):Mh Tryz.prog f ν h w [u] K q:=by
 have h1:f=223:=by
  unfold ae7 at hf
  split at hf
  ·rfl
  ·cases hf
 subst h1;have:=arS Tryz.laysSort e H hx ⟨_,rfl⟩
 rwa [ar0] at this
def anN (f:Nat) (hf:Ab f=true) (h:List Blk) (x:AV) (K:AV→List Blk→Option ρ) (q:ρ) (e:pn h x K=some q) (ν:Nat→Value) (w:World) (u:Value) (H:HR ν h w) (hx:VR ν h w x u):Mh Tryz.prog f ν h w [u] K q:=by
 have h1:f=224:=by
  unfold Ab at hf
  split at hf
  ·rfl
  ·cases hf
 subst h1;have:=akY Tryz.laysCompact e H hx ⟨_,rfl⟩
 rwa [aki] at this
def asx:Ll Tryz.prog Sf:=by
 intro g hg fz S nid x v S' e ν w u H hx hn hd;unfold Sf at hg
 split at hg
 ·exact Bs Tryz.func154 (T:=39) (by kernel_rfl) (by kernel_rfl) e H hx hn hd
 ·exact Bs Tryz.func227 (T:=24) (by kernel_rfl) (by kernel_rfl) e H hx hn hd
 ·exact Bs Tryz.func228 (T:=25) (by kernel_rfl) (by kernel_rfl) e H hx hn hd
 ·exact Bs Tryz.func229 (T:=26) (by kernel_rfl) (by kernel_rfl) e H hx hn hd
 ·exact Bs Tryz.func230 (T:=28) (by kernel_rfl) (by kernel_rfl) e H hx hn hd
 ·exact Bs Tryz.func231 (T:=27) (by kernel_rfl) (by kernel_rfl) e H hx hn hd
 ·cases hg
def RZ {pt:List (Nat×Ô)} (h:∀e∈pt,kw Tryz.prog e.1 e.2) (E:Env ρ) (hP:E.P=Tryz.prog) (h1:E.pure=akP pt) (h2:E.sort=ae7) (h3:E.compact=Ab) (h4:E.clone=Sf) (hj:ajX E):NL E:=by
 constructor
 ·intro f p hf;rw[h1] at hf;rw[hP];exact h (f,p) (Xr hf)
 ·intro f hf;rw[h2] at hf;rw[hP];exact sortOk f hf
 ·intro f hf;rw[h3] at hf;rw[hP];exact anN f hf
 ·rw[hP]; exact plain
 ·rw[hP,h4]; exact asx
 ·exact hj
def libN {pt:List (Nat×Ô)} (h:∀e∈pt,kw Tryz.prog e.1 e.2) (tab:List (Ú ρ)):NL (Õ pt tab):=RZ h _ rfl rfl rfl rfl rfl (il rfl)
end
abbrev ZP (f:Nat) (p:Ô):Prop:=kw Tryz.prog f p
def zt {f:Nat} {p:Ô} {pt:List (Nat×Ô)} {tab:List (Ú (Val (tyL p.rs)))} (E:Env (Val (tyL p.rs))) (hc:∀e∈pt,kw Tryz.prog e.1 e.2) (hE:E=Õ pt tab) (hok:∀x∈tab,x.Ok E) (law:∀x:Val (tyL p.ts),topK E f (aft p.ts x) (fun h v=>Å (arg p.rs h v) some)=p.F x):kw Tryz.prog f p:=by
 subst hE;exact NV (Õ pt tab) (fun {_}=>libN hc _) hmix (tab:=tab) rfl hok (pB law)
end Go.Proofs.ZzM
end

noncomputable section
set_option maxRecDepth 100000
namespace Go.Proofs.ZzM
open Go Go.Am
def By:ZP 109 tT:=zt (LY _) Ä rfl Ä fun x=>VH x some
def nj:ZP 144 lf:=zt (LX _) Ä rfl Ä fun x=>Vs x some
def Tg:ZP 176 Fs:=zt (RL _) (Á nj Ä) rfl Ä fun x=>aaH x some
def ajE:ZP 249 Ya:=zt (WX _) Ä rfl Ä fun x=>aeq x some
def aoj:ZP 250 agy:=zt (Rp _) Ä rfl (Á aaj Ä) fun x=>ahc x some
def Iw:ZP 218 Fo:=zt (Rr _) (Á ajE (Á aoj Ä)) rfl Ä fun x=>aan x some
def ah2:ZP 174 O2:=zt (Hk _) (Á By (Á nj (Á Tg (Á Iw Ä)))) rfl Ä fun x=>RK x some
def Th:ZP 110 yn:=zt (m6 _) (Á ah2 Ä) rfl (Á zV Ä) fun x=>Ew x some
def Te:ZP 111 DA:=zt (wg _) Ä rfl (Á Kq Ä) fun x=>RB x some
def La:ZP 116 tN:=zt (kR _) Ä rfl (Á vx Ä) fun x=>yw x some
def oM:ZP 49 j3:=zt (mD _) (Á La Ä) rfl Ä fun x=>tY x some
def ajI:ZP 181 Ye:=zt (A1 _) (Á oM Ä) rfl (Á VL (Á VK Ä)) fun x=>aeP x some
def Tf:ZP 113 Fr:=zt (wj _) (Á ajI Ä) rfl (Á RE (Á RF Ä)) fun x=>aaz x some
def tD:ZP 177 nk:=zt (xI _) Ä rfl Ä fun x=>G3 x some
def ah1:ZP 175 agA:=zt (G4 _) (Á Tg (Á tD Ä)) rfl Ä fun x=>RD x some
def abx:ZP 179 Yf:=zt (l6 _) (Á By (Á nj (Á tD Ä))) rfl (Á Et (Á Es Ä)) fun x=>KA x some
def ŕ:ZP 100 Œ:=zt (ψ _) Ä rfl (Á t7 (Á tZ Ä)) fun x=>xO x some
def XB:ZP 182 I6:=zt (zU _) (Á nj Ä) rfl (Á NA Ä) fun x=>VE x some
def Ix:ZP 183 AO:=zt (A0 _) (Á oM Ä) rfl (Á VC (Á VB Ä)) fun x=>aeL x some
def aqR:ZP 222 aiW:=zt (KB _) (Á nj Ä) rfl (Á VM Ä) fun x=>aeR x some
def NH:ZP 180 Mn:=zt (Ŕ _) (Á ŕ (Á By (Á nj (Á Tg (Á tD (Á XB (Á Ix (Á aqR Ä)))))))) rfl (Á xS (Á xQ (Á xR (Á xP Ä)))) fun x=>BV x some
def QP:∀e∈J1,kw Tryz.prog e.1 e.2:=(Á ŕ Ä)
def ag2 {ρ:Type}:∀e∈Ea ρ,e.Ok (Ű ρ):=(Á ZR (Á ZS (Á ZQ (Á ZO (Á ZN (Á ZM Ä))))))
def LM {ρ:Type}:∀e∈rU ρ,e.Ok (ę ρ):=(Á Va (Á U9 (Á U8 Ä)))
end Go.Proofs.ZzM
end

noncomputable section
namespace Go.Proofs
open Go.RowKit
attribute [local go_sem] Oper.semAt_some
def TH (sel:Nat→Bool) (k:Nat):List Nat:=(List.range k).filter sel
def ER (sel:Nat→Bool) (k:Nat):TH sel (k+1)=if sel k then TH sel k++[k] else TH sel k:=by
 unfold TH;rw[List.range_succ,List.filter_append]
 cases h:sel k<;>simp[h]
def ago (sel:Nat→Bool) (k:Nat):(TH sel k).length≤k:=by
 unfold TH;exact Nat.le_trans (List.length_filter_le _ _) (by simp)
def al9 (sel:Nat→Bool) {j k:Nat} (h:j≤k):(TH sel j).length≤(TH sel k).length:=by
 obtain⟨d,rfl⟩:∃d,k=j+d:=⟨k-j,by omega⟩;unfold TH;rw[List.range_add,List.filter_append,List.length_append];omega
def arT {sel:Nat→Bool} {k n:Nat} (h:k<n) (hs:sel k=true):(TH sel k).length<(TH sel n).length:=by
 have h1:=al9 sel (j:=k+1) (k:=n) h;rw[ER,hs] at h1;simp at h1;omega
set_option maxRecDepth 100000 in
set_option maxHeartbeats 1000000 in
def ash (te:TypeId) (n:Nat) (hn:1≤n) (l bb tb:Nat) (flo fhi us lo co ko:Value) (gb go len cap:Nat) (gbase:Option Addr) (hgb:0<len→gbase=some ⟨gb,go,none⟩)
 (c0 c1 c2 c3 c4 c5 c6 c7:Nat→Int) (sel:Nat→Bool) (hlen:(len:Int)<9223372036854775807) (Nd:World→Prop)
 (W:World) (hb0:W.heap[bb]?=some (.cells #[flo,fhi,.slice gbase len cap,us,lo,co,ko] te (0,0)))
 (hNc:∀W',Nd W'→∀j,j<len→W'.cell? ⟨gb,go+j*8,none⟩=some (.int .i64 (c0 j))∧W'.cell? ⟨gb,go+j*8+1,none⟩=some (.int .i64 (c1 j))∧W'.cell? ⟨gb,go+j*8+2,none⟩=some (.int .i64 (c2 j))∧W'.cell? ⟨gb,go+j*8+3,none⟩=some (.int .i64 (c3 j)) ∧
  W'.cell? ⟨gb,go+j*8+4,none⟩=some (.int .i64 (c4 j))∧W'.cell? ⟨gb,go+j*8+5,none⟩=some (.int .i64 (c5 j))∧W'.cell? ⟨gb,go+j*8+6,none⟩=some (.int .i64 (c6 j))∧W'.cell? ⟨gb,go+j*8+7,none⟩=some (.int .i64 (c7 j)))
 (hNm:∀W',Nd W'→∃mv,∀W'',W'.grownBy W'' none→W''.cell? ⟨tb,0,none⟩=some mv∧∀j,j<len→(Instr.lookup 182 mv (.int .i64 (c0 j)) false).run Tryz.prog W''=.ok (.bool (sel j)) W'')
 (hNs:∀W1 W2,Nd W1→W1.grownBy W2 none→Nd W2) (hN:Nd W)
 (J Jx:List Nat→World→Prop) (hJ:∀pre W W',J pre W→W.grownBy W' none→J pre W') (hJx:∀pre W W',Jx pre W→W.grownBy W' none→Jx pre W')
 (hY:∀pre x W,J pre W→pre.length<(TH sel len).length→YieldAt Fence.wide (n-1) Tryz.prog l #[.agg #[.int .i64 (c0 x),.int .i64 (c1 x),.int .i64 (c2 x),.int .i64 (c3 x),.int .i64 (c4 x),.int .i64 (c5 x),.int .i64 (c6 x),.int .i64 (c7 x)]] W fun e W' =>
  (e=.returned (.bool true)∧J (pre++[x]) W'∧(Nd W→Nd W'))∨(e=.returned (.bool false)∧Jx (pre++[x]) W'))
 (h0 : J [] W) :
  CallsIn Fence.wide n Tryz.prog 212 #[.func (.yield l) #[] #[],.pointer (some ⟨bb,0,none⟩),.pointer (some ⟨tb,0,none⟩)] W fun e W'=>(∃v,e=.returned v) ∧
   ((∃xs,xs=TH sel len∧J xs W')∨(∃pre,True∧Jx pre W')):=by
 have hb3:W.cell? ⟨bb,2,none⟩=some (.slice gbase len cap):=by simp[World.cell?,hb0]
 refine callsIn_of_wp Tryz.func212 rfl trivial ?_ rfl;simp only[Tryz.ntmps212,eY,dj,dE,Nat.reduceAdd,Nat.reduceSub,Array.replicate_succ,Array.replicate_zero,List.push_toArray,gE,fM,ff]
 gi_wp2
 gi_loopw [9] (fun i wr=>∃k:Nat,k≤len∧i=.int .i64 k∧J (TH sel k) wr∧Nd wr)
  (fun i _=>len-(intOf i).toNat)
 case atStart=>exact⟨0,eI _,rfl,h0,hN⟩
 case round =>
  obtain⟨k,hk,rfl,hJs,hNw⟩:=hrel
  by_cases hlt:k<len
  ·have hg:=hgb (by omega);subst hg;obtain⟨q0,q1,q2,q3,q4,q5,q6,q7⟩:=hNc _ hNw k hlt;obtain⟨mv,hmv⟩:=hNm _ hNw;have hta:∀o,(wr.alloc o).cell? ⟨tb,0,none⟩=some mv:=fun o=>(hmv _ (World.grownBy_alloc _ o none)).1;have hlk:∀o,(Instr.lookup 182 mv (.int .i64 (c0 k)) false).run Tryz.prog (wr.alloc o)=.ok (.bool (sel k)) (wr.alloc o):=fun o=>(hmv _ (World.grownBy_alloc _ o none)).2 k hlt;have hNa:∀o,Nd (wr.alloc o):=fun o=>hNs _ _ hNw (World.grownBy_alloc _ o none);have hJa:∀o,J (TH sel k) (wr.alloc o):=fun o=>hJ _ _ _ hJs (World.grownBy_alloc _ o none);clear hmv hNm hNc
   cases hsel:sel k with
   |false =>
    rw[hsel] at hlk
    iterate 52 (first|go_values|gi_guarded|gi_step|gi_upon)
    refine⟨fun f hf=>by simp[undef,go_sem] at hf,?_⟩
    gi_wp2
    go_roundw
    case rel=>exact⟨k+1,by omega,by simp,by rw[ER,hsel]; exact hJa _,hNa _⟩
    case measure=>simp[intOf]; omega
   |true =>
    rw[hsel] at hlk
    gi_wp2
    obtain⟨fn,tmps,assign,body,hy,hR⟩:=hY (TH sel k) k (wr.alloc (.cells #[.int .i64 (c0 k),.int .i64 (c1 k),.int .i64 (c2 k),.int .i64 (c3 k),.int .i64 (c4 k),.int .i64 (c5 k),.int .i64 (c6 k),.int .i64 (c7 k)] 108)) (hJa _) (arT hlt hsel);rw[hy];refine⟨fun h=>(by cases h),hR.mono ?_⟩;rintro e W3 (⟨rfl,hJ3,hk3⟩|⟨rfl,hJx3⟩)
    ·gi_wp2
     go_roundw
     case rel=>exact⟨k+1,by omega,by simp,by rw[ER,hsel]; exact hJ3,hk3 (hNa _)⟩
     case measure=>simp[intOf]; omega
    ·gi_wp2
     refine bodyPost_ret (results_none rfl _ _ _) rfl ?_;exact⟨⟨_,rfl⟩,.inr ⟨_,trivial,hJx3⟩⟩
  ·obtain rfl:len=k:=by omega
   gi_wp2
   go_end0
   exact⟨⟨_,rfl⟩,.inl ⟨_,rfl,hJs⟩⟩
end Go.Proofs
end

noncomputable section
namespace Go.Proofs
open Go.RowKit
attribute [local go_sem] Oper.semAt_some
def upE (f:Nat→Int) (k:Nat):List Int:=(List.range k).map f
def qU (f:Nat→Int) (k:Nat):upE f (k+1)=upE f k++[f k]:=by simp[upE,List.range_succ]
def AI (f:Nat→Int) (k:Nat):(upE f k).length=k:=by simp[upE]
def NM (f:Nat→Int) {j k:Nat} (h:j≤k):upE f j <+: upE f k:=by
 have:k=j+(k-j):=by omega
 rw[this,upE,upE,List.range_add,gG];exact eQ _ _
set_option maxRecDepth 100000 in
set_option maxHeartbeats 1000000 in
def apO (te:TypeId) (n:Nat) (hn:1≤n) (l n₀ bb tb sb:Nat) (flo fhi ga mv:Value) (hbb:bb<n₀) (htb:tb<n₀) (hsb:sb<n₀)
 (ub uo ul uc kb ko kl kc:Nat) (ubase kbase lbase cbase:Option Addr) (ll lc cl cc:Nat) (hub:0<ul→ubase=some ⟨ub,uo,none⟩∧ub<n₀) (hkb:0<kl→kbase=some ⟨kb,ko,none⟩∧kb<n₀)
 (U K:Nat→Int×Int) (eU eL eC eK:Nat→Int)
 (hul:ul≤1000) (hll:ll≤1000) (hcl:cl≤1000) (hkl:kl≤1000)
 (W:World) (hb0:W.heap[bb]?=some (.cells #[flo,fhi,ga,.slice ubase ul uc,.slice lbase ll lc,.slice cbase cl cc,.slice kbase kl kc] te (0,0)))
 (ht:W.cell? ⟨tb,0,none⟩=some (.func (.func 175) #[] #[.pointer (some ⟨sb,0,none⟩)])) (hs:W.cell? ⟨sb,0,none⟩=some mv)
 (hU:∀j,j<ul→W.cell? ⟨ub,uo+j*2,none⟩=some (.int .i64 (U j).1)∧W.cell? ⟨ub,uo+j*2+1,none⟩=some (.int .i64 (U j).2))
 (hK:∀j,j<kl→W.cell? ⟨kb,ko+j*2,none⟩=some (.int .i64 (K j).1)∧W.cell? ⟨kb,ko+j*2+1,none⟩=some (.int .i64 (K j).2))
 (cU:∀j,j<ul→∀W',Below n₀ W W'→CallsIn Fence.wide (n-1) Tryz.prog 175 #[.int .i64 (U j).1,.int .i64 (U j).2,.pointer (some ⟨sb,0,none⟩)] W' fun e W''=>e=.returned (.int .i64 (eU j))∧W'.grownBy W'' none)
 (cK:∀j,j<kl→∀W',Below n₀ W W'→CallsIn Fence.wide (n-1) Tryz.prog 175 #[.int .i64 (K j).1,.int .i64 (K j).2,.pointer (some ⟨sb,0,none⟩)] W' fun e W''=>e=.returned (.int .i64 (eK j))∧W'.grownBy W'' none)
 (cL:∀j,j<ll→∀W',Below n₀ W W'→CallsIn Fence.wide (n-1) Tryz.prog 179 #[.agg #[flo,fhi,ga,.slice ubase ul uc,.slice lbase ll lc,.slice cbase cl cc,.slice kbase kl kc],mv,.int .i64 j] W' fun e W''=>e=.returned (.int .i64 (eL j))∧W'.grownBy W'' none)
 (cC:∀j,j<cl→∀W',Below n₀ W W'→CallsIn Fence.wide (n-1) Tryz.prog 180 #[.agg #[flo,fhi,ga,.slice ubase ul uc,.slice lbase ll lc,.slice cbase cl cc,.slice kbase kl kc],mv,.int .i64 j] W' fun e W''=>e=.returned (.int .i64 (eC j))∧W'.grownBy W'' none)
 (J Jx:List Int→World→Prop) (hJ:∀pre W W',J pre W→W.grownBy W' none→J pre W') (hJx:∀pre W W',Jx pre W→W.grownBy W' none→Jx pre W')
 (hY:∀pre x W,J pre W→pre.length<ul+(ll+(cl+kl))→YieldAt Fence.wide (n-1) Tryz.prog l #[.int .i64 x] W fun e W' =>
  (e=.returned (.bool true)∧J (pre++[x]) W'∧Below n₀ W W')∨(e=.returned (.bool false)∧Jx (pre++[x]) W'))
 (h0 : J [] W) (hn₀ : n₀ ≤ W.heap.size) :
  CallsIn Fence.wide n Tryz.prog 178 #[.func (.yield l) #[] #[],.pointer (some ⟨bb,0,none⟩),.pointer (some ⟨tb,0,none⟩),.pointer (some ⟨sb,0,none⟩)] W fun e W'=>(∃v,e=.returned v) ∧
   ((∃xs,xs=upE eU ul++(upE eL ll++(upE eC cl++upE eK kl))∧J xs W')∨(∃pre,(pre <+: upE eU ul++(upE eL ll++(upE eC cl++upE eK kl)))∧Jx pre W')):=by
 have grown_alloc:∀(X:World) (o:Obj),X.grownBy (X.alloc o) none:=fun X o=>World.grownBy_alloc X o none
 have bel:∀{X Y:World},Below n₀ W X→X.grownBy Y none→Below n₀ W Y:=fun {X Y} h g =>
  ⟨g.os.trans h.os,g.tape.trans h.tape,g.output.trans h.output,dG h.size g.size,fun k hk=>(g.block k (dF (dF hk hn₀) h.size) (by simp)).trans (h.block k hk)⟩
 have hc:∀{X:World},Below n₀ W X→X.heap[bb]?=some (.cells #[flo,fhi,ga,.slice ubase ul uc,.slice lbase ll lc,.slice cbase cl cc,.slice kbase kl kc] te (0,0)):=fun h=>(h.block bb hbb).trans hb0;refine callsIn_of_wp Tryz.func178 rfl trivial ?_ rfl;simp only[Tryz.ntmps178,eY,dj,dE,Nat.reduceAdd,Nat.reduceSub,Array.replicate_succ,Array.replicate_zero,List.push_toArray,gE,fM,ff]
 have hb3:W.cell? ⟨bb,3,none⟩=some (.slice ubase ul uc):=by simp[World.cell?,hb0]
 gi_wp2
 gi_loopw [14] (fun i wr=>∃k:Nat,k≤ul∧i=.int .i64 k∧J (upE eU k) wr∧Below n₀ W wr)
  (fun i _=>ul-(intOf i).toNat)
 case atStart=>exact⟨0,eI _,rfl,h0,Below.refl _ _⟩
 case round =>
  obtain⟨k,hk,rfl,hJs,hnx⟩:=hrel
  by_cases hlt:k<ul
  ·obtain⟨rfl,hlu⟩:=hub (by omega);have hu1:=(hnx.cell (p:=⟨ub,uo+k*2,none⟩) hlu).trans (hU k hlt).1;have hu2:=(hnx.cell (p:=⟨ub,uo+k*2+1,none⟩) hlu).trans (hU k hlt).2;have ht':=(hnx.cell (p:=⟨tb,0,none⟩) htb).trans ht;have hta:∀o,(wr.alloc o).cell? ⟨tb,0,none⟩=some (.func (.func 175) #[] #[.pointer (some ⟨sb,0,none⟩)]):=fun o=>Lib.cell?_alloc_some _ ht'
   gi_wp2
   refine⟨trivial,(cU k hlt _ (bel hnx (grown_alloc _ _))).mono ?_⟩;rintro e W2 ⟨rfl,hg2⟩;obtain⟨fn,tmps,assign,body,hy,hR⟩:=hY _ (eU k) W2 (hJ _ _ _ (hJ _ _ _ hJs (grown_alloc _ _)) hg2) (by rw[AI]; omega);have hb2:=bel (bel hnx (grown_alloc _ _)) hg2
   gi_wp2
   refine hR.mono ?_;rintro e W3 (⟨rfl,hJ3,hk3⟩|⟨rfl,hJx3⟩)
   ·gi_wp2
    go_roundw
    case rel=>exact⟨k+1,by omega,by simp,by rw[qU]; exact hJ3,hb2.trans hk3⟩
    case measure=>simp[intOf]; omega
   ·gi_wp2
    refine bodyPost_ret (results_none rfl _ _ _) rfl ?_;refine⟨⟨_,rfl⟩,.inr ⟨_,?_,hJx3⟩⟩;rw[←qU];exact(NM eU (by omega)).trans (eQ _ _)
  ·obtain rfl:ul=k:=by omega
   have hb4:wr.cell? ⟨bb,4,none⟩=some (.slice lbase ll lc):=by simp[World.cell?,hc hnx]
   gi_wp2
   gi_loopw [31] (fun i wr=>∃k:Nat,k≤ll∧i=.int .i64 k∧J (upE eU ul++upE eL k) wr∧Below n₀ W wr)
    (fun i _=>ll-(intOf i).toNat)
   case atStart=>exact⟨0,eI _,rfl,by simpa[upE] using hJs,hnx⟩
   case round =>
    clear hJs hnx;obtain⟨k,hk,rfl,hJs,hnx⟩:=hrel
    by_cases hlt:k<ll
    ·have q0:wr.cell? ⟨bb,0,none⟩=some flo:=by simp[World.cell?,hc hnx]
     have q1:wr.cell? ⟨bb,1,none⟩=some fhi:=by simp[World.cell?,hc hnx]
     have q2:wr.cell? ⟨bb,2,none⟩=some ga:=by simp[World.cell?,hc hnx]
     have q3:wr.cell? ⟨bb,3,none⟩=some (.slice ubase ul uc):=by simp[World.cell?,hc hnx]
     have q4:wr.cell? ⟨bb,4,none⟩=some (.slice lbase ll lc):=by simp[World.cell?,hc hnx]
     have q5:wr.cell? ⟨bb,5,none⟩=some (.slice cbase cl cc):=by simp[World.cell?,hc hnx]
     have q6:wr.cell? ⟨bb,6,none⟩=some (.slice kbase kl kc):=by simp[World.cell?,hc hnx]
     have hs':=(hnx.cell (p:=⟨sb,0,none⟩) hsb).trans hs
     gi_wp2
     refine⟨trivial,(cL k hlt _ hnx).mono ?_⟩;rintro e W2 ⟨rfl,hg2⟩;obtain⟨fn,tmps,assign,body,hy,hR⟩:=hY _ (eL k) W2 (hJ _ _ _ hJs hg2) (by simp only[dc,AI]; omega);have hb2:=bel hnx hg2
     gi_wp2
     refine hR.mono ?_;rintro e W3 (⟨rfl,hJ3,hk3⟩|⟨rfl,hJx3⟩)
     ·gi_wp2
      go_roundw
      case rel=>exact⟨k+1,by omega,by simp,by rw[qU,←dz]; exact hJ3,hb2.trans hk3⟩
      case measure=>simp[intOf]; omega
     ·gi_wp2
      refine bodyPost_ret (results_none rfl _ _ _) rfl ?_;refine⟨⟨_,rfl⟩,.inr ⟨_,?_,hJx3⟩⟩;rw[dz,←qU];exact(eW _).2 ((NM eL (by omega)).trans (eQ _ _))
    ·obtain rfl:ll=k:=by omega
     have hb5:wr.cell? ⟨bb,5,none⟩=some (.slice cbase cl cc):=by simp[World.cell?,hc hnx]
     gi_wp2
     gi_loopw [45] (fun i wr=>∃k:Nat,k≤cl∧i=.int .i64 k∧J (upE eU ul++upE eL ll++upE eC k) wr∧Below n₀ W wr)
      (fun i _=>cl-(intOf i).toNat)
     case atStart=>exact⟨0,eI _,rfl,by simpa[upE] using hJs,hnx⟩
     case round =>
      clear hJs hnx;obtain⟨k,hk,rfl,hJs,hnx⟩:=hrel
      by_cases hlt:k<cl
      ·have q0:wr.cell? ⟨bb,0,none⟩=some flo:=by simp[World.cell?,hc hnx]
       have q1:wr.cell? ⟨bb,1,none⟩=some fhi:=by simp[World.cell?,hc hnx]
       have q2:wr.cell? ⟨bb,2,none⟩=some ga:=by simp[World.cell?,hc hnx]
       have q3:wr.cell? ⟨bb,3,none⟩=some (.slice ubase ul uc):=by simp[World.cell?,hc hnx]
       have q4:wr.cell? ⟨bb,4,none⟩=some (.slice lbase ll lc):=by simp[World.cell?,hc hnx]
       have q5:wr.cell? ⟨bb,5,none⟩=some (.slice cbase cl cc):=by simp[World.cell?,hc hnx]
       have q6:wr.cell? ⟨bb,6,none⟩=some (.slice kbase kl kc):=by simp[World.cell?,hc hnx]
       have hs':=(hnx.cell (p:=⟨sb,0,none⟩) hsb).trans hs
       gi_wp2
       refine⟨trivial,(cC k hlt _ hnx).mono ?_⟩;rintro e W2 ⟨rfl,hg2⟩;obtain⟨fn,tmps,assign,body,hy,hR⟩:=hY _ (eC k) W2 (hJ _ _ _ hJs hg2) (by simp only[dc,AI]; omega);have hb2:=bel hnx hg2
       gi_wp2
       refine hR.mono ?_;rintro e W3 (⟨rfl,hJ3,hk3⟩|⟨rfl,hJx3⟩)
       ·gi_wp2
        go_roundw
        case rel=>exact⟨k+1,by omega,by simp,by rw[qU,←dz]; exact hJ3,hb2.trans hk3⟩
        case measure=>simp[intOf]; omega
       ·gi_wp2
        refine bodyPost_ret (results_none rfl _ _ _) rfl ?_;refine⟨⟨_,rfl⟩,.inr ⟨_,?_,hJx3⟩⟩;rw[dz,←qU]
        exact by rw[dz]; exact(eW _).2 ((eW _).2 ((NM eC (by omega)).trans (eQ _ _)))
      ·obtain rfl:cl=k:=by omega
       have hb6:wr.cell? ⟨bb,6,none⟩=some (.slice kbase kl kc):=by simp[World.cell?,hc hnx]
       gi_wp2
       gi_loopw [59] (fun i wr=>∃k:Nat,k≤kl∧i=.int .i64 k∧J ((upE eU ul++upE eL ll++upE eC cl)++upE eK k) wr∧Below n₀ W wr)
        (fun i _=>kl-(intOf i).toNat)
       case atStart=>exact⟨0,eI _,rfl,by simpa[upE] using hJs,hnx⟩
       case round =>
        clear hJs hnx;obtain⟨k,hk,rfl,hJs,hnx⟩:=hrel
        by_cases hlt:k<kl
        ·obtain⟨rfl,hlk⟩:=hkb (by omega);have hu1:=(hnx.cell (p:=⟨kb,ko+k*2,none⟩) hlk).trans (hK k hlt).1;have hu2:=(hnx.cell (p:=⟨kb,ko+k*2+1,none⟩) hlk).trans (hK k hlt).2;have ht':=(hnx.cell (p:=⟨tb,0,none⟩) htb).trans ht;have hta:∀o,(wr.alloc o).cell? ⟨tb,0,none⟩=some (.func (.func 175) #[] #[.pointer (some ⟨sb,0,none⟩)]):=fun o=>Lib.cell?_alloc_some _ ht'
         gi_wp2
         refine⟨trivial,(cK k hlt _ (bel hnx (grown_alloc _ _))).mono ?_⟩;rintro e W2 ⟨rfl,hg2⟩;obtain⟨fn,tmps,assign,body,hy,hR⟩:=hY _ (eK k) W2 (hJ _ _ _ (hJ _ _ _ hJs (grown_alloc _ _)) hg2) (by simp only[dc,AI]; omega);have hb2:=bel (bel hnx (grown_alloc _ _)) hg2
         gi_wp2
         refine hR.mono ?_;rintro e W3 (⟨rfl,hJ3,hk3⟩|⟨rfl,hJx3⟩)
         ·gi_wp2
          go_roundw
          case rel=>exact⟨k+1,by omega,by simp,by rw[qU,←dz]; exact hJ3,hb2.trans hk3⟩
          case measure=>simp[intOf]; omega
         ·gi_wp2
          refine bodyPost_ret (results_none rfl _ _ _) rfl ?_;refine⟨⟨_,rfl⟩,.inr ⟨_,?_,hJx3⟩⟩;rw[dz,←qU,dz,dz];exact(eW _).2 ((eW _).2 ((eW _).2 (NM eK (by omega))))
        ·obtain rfl:kl=k:=by omega
         gi_wp2
         go_end0
         exact⟨⟨_,rfl⟩,.inl ⟨_,rfl,by simpa[dz] using hJs⟩⟩
end Go.Proofs
end

noncomputable section
set_option maxRecDepth 100000
namespace Go.Proofs.ZzM
open Go Go.Am Go.RowKit
def aiH (p:String):Code:=.region 10 #[{dst:=some 5,op:=.assign (.tmp 49),type:=35,pos:=p,after:=#[],guard:=none}] false
def arf (q r:String):Code:=.block 1 (.seq (.region 11 #[{dst:=some 50,op:=.move (.tmp 5),type:=35,pos:=q,after:=#[],guard:=none},{dst:=some 51,op:=.binOp .neq 35 (.tmp 50) (.const (.int .i64 0)) 35,type:=4,pos:=q,after:=#[{on:=0,ground:=.data}],guard:=none}] false)
 (.cond (.tmp 51) (.seq (.region 12 #[{dst:=some 52,op:=.move (.tmp 5),type:=35,pos:=r,after:=#[],guard:=none},{dst:=none,op:=.store 35 (.tmp 2) (.tmp 52),type:=0,pos:=r,after:=#[{on:=0,ground:=.data},{on:=0,ground:=.phase}],guard:=none}] false) .ret) .skip))
section
variable {P:Program} {F:Fence} {n:Nat}
def Ft {ops:Array Oper} {i d:Nat} {o:Oper} {u:Value} {w w':World} {a:Act} {next:Act→World→Prop} {Q:Exit→Act→World→Prop} (hF:∀f,F.fn f) (ho:ops[i]?=some o) (hg:o.guard=none) (hd:o.dst=some d) (hdf:∀c,o.op≠.defer c)
 (hrun:(execOp a.eval o).run P w=.ok (.value u) w') (k:next (a.put (some d) u) w'):wpOpIn F n P ops Q i next a w:=by
 unfold wpOpIn;rw[ho]
 have hw:Region.wanted o (yielded ops a.tmps)=true:=by simp[Region.wanted,hg]
 simp only[hw,if_true];refine⟨fun _ _=>hF _,?_⟩;rw[Oper.semAt_eq _ _ _ hdf,hrun];rw[←hd] at k;exact k
def ako {ops:Array Oper} {i:Nat} {o:Oper} {w w':World} {a:Act} {next:Act→World→Prop} {Q:Exit→Act→World→Prop} (hF:∀f,F.fn f) (ho:ops[i]?=some o) (hg:o.guard=none) (hd:o.dst=none) (hdf:∀c,o.op≠.defer c)
 (hrun:(execOp a.eval o).run P w=.ok .skip w') (k:next a w'):wpOpIn F n P ops Q i next a w:=by
 unfold wpOpIn;rw[ho]
 have hw:Region.wanted o (yielded ops a.tmps)=true:=by simp[Region.wanted,hg]
 simp only[hw,if_true];refine⟨fun _ _=>hF _,?_⟩;rw[Oper.semAt_eq _ _ _ hdf,hrun];show next (a.put o.dst undef) w';rw[hd];exact k
end
def jQ (T:Array Value) (i j:Nat) (v:Value):(T.setIfInBounds i v).getD j undef=if i=j∧i<T.size then v else T.getD j undef:=by
 simp only[dW,fj]
 by_cases h:i=j
 ·subst h
  by_cases h2:i<T.size
  ·simp[h2]
  ·simp[h2]
 ·simp[h]
def ai2 (D:Nat):Deferred:={target:=.collected D,args:=#[]}
structure Put1 (n₀ rb:Nat) (x:Int) (w W:World):Prop where
 os:W.os=w.os
 tape:W.tape=w.tape
 output:W.output=w.output
 size:w.heap.size≤W.heap.size
 block:∀k,k<n₀→k≠rb→W.heap[k]?=w.heap[k]?
 cell:∃e,W.heap[rb]?=some (.cells #[.int .i64 x] e (0,0))
set_option maxHeartbeats 4000000 in
def arX {a:Act} {w:World} {Q:Exit→Act→World→Prop} {lb:Array Value} {L:List Int} {rb:Nat} {e0:TypeId} {v0:Value} {p q r:String}
 (hseq:SeqStopsK Fence.wide 1 Tryz.prog 178 lb (fun x:Int=>#[.int .i64 x]) (Below w.heap.size) (fun xs=>xs=L) (fun pre=>pre <+: L) L.length w)
 (hg:a.tmps.getD 48 undef=.func (.func 178) #[] lb) (h2:a.tmps.getD 2 undef=.pointer (some ⟨rb,0,none⟩)) (hsz:78≤a.tmps.size)
 (hrb:w.heap[rb]?=some (.cells #[v0] e0 (0,0)))
 (hdone:∀D W,(∀x∈L,x=0)→Below w.heap.size w W→w.heap.size≤D→W.heap[D]?=some (.deferred (some []))→Q .normal {a with defers:=ai2 D::a.defers} W)
 (hstop:∀D W x,L.find? (fun e=>e != 0)=some x→Put1 w.heap.size rb x w W→w.heap.size≤D→W.heap[D]?=some (.deferred (some []))→Q .ret {a with defers:=ai2 D::a.defers} W) :
 (Code.rangeFunc (.tmp 48) #[49] (aiH p) (arf q r)).wpIn Fence.wide 2 Tryz.prog Q a w:=by
 have hT:∀f,Fence.wide.fn f:=fun _=>trivial;have hrl:=ē hrb
 refine wpIn_rangeFunc_ownF (α:=Int) (encs:=fun x=>#[.int .i64 x]) (Kp:=Below w.heap.size) (S:=fun xs=>xs=L) (Sp:=fun pre=>pre <+: L) (N:=L.length) (w0:=w) rfl (by omega) hg trivial (fun args w=>?eg) hseq
  (fun h k=>h.trans k) (fun W l o o' hl ho hc hw=>belowK_b (cY _) W l o o' hl ho hc hw) (Below.refl _ _) (fun _=>rfl)
  (fun pre W=>(∀x∈pre,x=0)∧Below w.heap.size w W)
  (fun c pre W=>c=.ret∧∃pre' x,pre=pre'++[x]∧(∀x∈pre',x=0)∧x≠0∧Put1 w.heap.size rb x w W)
  ?hI ?hIx ⟨by simp,Below.refl _ _⟩ (fun x=>{tmps:=(a.tmps.setIfInBounds 49 (.int .i64 x)).setIfInBounds 5 (.int .i64 x),defers:=[]}) ?hassign ?hbody ?hdone ?hstop
 case eg=>simp[callFunc,Sem.run_bind,run_program,Result.andThen_ok,Tryz.func178,plain 178 _ Tryz.func178,show Tryz.f178.body.isNone=false from rfl]; rfl
 case hI =>
  intro s W W' row ⟨h1,h2⟩ hgr hr;exact⟨h1,hgr.os.trans h2.os,hgr.tape.trans h2.tape,hgr.output.trans h2.output,dG h2.size hgr.size,fun k hk=>(hgr.block k (dF hk h2.size) (fun e=>by have:=(hr k e.symm).1; omega)).trans (h2.block k hk)⟩
 case hIx =>
  intro c s W W' row ⟨h1,pre',x,h3,h4,h5,h6⟩ hgr hr;have hb:∀k,k<w.heap.size→W'.heap[k]?=W.heap[k]?:=fun k hk=>hgr.block k (dF hk h6.size) (fun e=>by have:=(hr k e.symm).1; omega)
  exact⟨h1,pre',x,h3,h4,h5,hgr.os.trans h6.os,hgr.tape.trans h6.tape,hgr.output.trans h6.output,dG h6.size hgr.size,fun k hk hne=>(hb k hk).trans (h6.block k hk hne),by
   obtain⟨e,he⟩:=h6.cell
   exact⟨e,(hb rb hrl).trans he⟩⟩
 case hassign =>
  intro l x W K hK
  have hf:((#[49]:Array Tmp).zip #[Value.int .i64 x]).foldl (fun t (p,v)=>t.setIfInBounds p v) a.tmps=a.tmps.setIfInBounds 49 (.int .i64 x):=by simp
  rw[hf];refine wpIn_region ?_;rw[show ∀o:Oper,List.range (#[o]:Array Oper).size=[0] from fun _=>rfl,wpOpsIn_cons];refine Ft (d:=5) (u:=.int .i64 x) (w':=W) hT rfl rfl rfl (by simp) ?_ hK;show Result.ok (Next.value ((a.tmps.setIfInBounds 49 (.int .i64 x)).getD 49 undef)) W=_;rw[jQ,if_pos ⟨rfl,by omega⟩]
 case hbody =>
  intro l pre x W ⟨h1,hbel⟩ hpre;refine wpIn_block (wpIn_seq (wpIn_region ?_));rw[show ∀o p:Oper,List.range (#[o,p]:Array Oper).size=[0,1] from fun _ _=>rfl,wpOpsIn_cons]
  refine Ft (d:=50) (u:=.int .i64 x) (w':=W) hT rfl rfl rfl (by simp) (by
   show Result.ok (Next.value (((a.tmps.setIfInBounds 49 (.int .i64 x)).setIfInBounds 5 (.int .i64 x)).getD 5 undef)) W=_
   rw[jQ,if_pos ⟨rfl,by simp; omega⟩]) ?_
  rw[wpOpsIn_cons]
  refine Ft (d:=51) (u:=.bool (x != 0)) (w':=W) hT rfl rfl rfl (by simp) (by
   show((do let u ←(do eqGuard .neq 35 (.tmp 50) (.const (.int .i64 0)) ((((a.tmps.setIfInBounds 49 (.int .i64 x)).setIfInBounds 5 (.int .i64 x)).setIfInBounds 50 (.int .i64 x)).getD 50 undef) (.int .i64 0); binOp .neq 35 ((((a.tmps.setIfInBounds 49 (.int .i64 x)).setIfInBounds 5 (.int .i64 x)).setIfInBounds 50 (.int .i64 x)).getD 50 undef) (.int .i64 0)); pure (.value u)):Sem Next).run Tryz.prog W=_;rw[jQ,if_pos ⟨rfl,by simp; omega⟩]
   simp[eqGuard,binOp,Op.intCmp]) ?_
  show Code.wpIn (Fence.wide.inRound l) (2-1-1) Tryz.prog (Code.cond (.tmp 51) _ .skip) _ {tmps:=((((a.tmps.setIfInBounds 49 (.int .i64 x)).setIfInBounds 5 (.int .i64 x)).setIfInBounds 50 (.int .i64 x)).setIfInBounds 51 (.bool (x != 0))),defers:=[]} W;obtain⟨T,hTd⟩:∃T,T=((((a.tmps.setIfInBounds 49 (.int .i64 x)).setIfInBounds 5 (.int .i64 x)).setIfInBounds 50 (.int .i64 x)).setIfInBounds 51 (.bool (x != 0))):=⟨_,rfl⟩;rw[←hTd]
  have t51:T.getD 51 undef=.bool (x != 0):=by rw[hTd,jQ,if_pos ⟨rfl,by simp; omega⟩]
  have t5:T.getD 5 undef=.int .i64 x:=by rw[hTd,jQ,if_neg (by simp),jQ,if_neg (by simp),jQ,if_pos ⟨rfl,by simp; omega⟩]
  have t2:T.getD 2 undef=.pointer (some ⟨rb,0,none⟩):=by rw[hTd,jQ,if_neg (by simp),jQ,if_neg (by simp),jQ,if_neg (by simp),jQ,if_neg (by simp),h2]
  have tsz:78≤T.size:=by rw[hTd]; simpa using hsz
  clear hTd
  by_cases hx:x=0
  ·have e51:Act.eval {tmps:=T,defers:=[]} (.tmp 51)=.bool false:=t51.trans (by simp[hx]);refine wpIn_cond_false e51 (wpIn_skip ?_);simp only[Exit.inBlock,ownPostK];exact⟨KeepsOthers.refl _,Below.refl _ _,fun y hy=>(dh.1 hy).elim (h1 y) (fun h=>by rw[dk] at h; rw[h,hx]),hbel⟩
  ·have e51:Act.eval {tmps:=T,defers:=[]} (.tmp 51)=.bool true:=t51.trans (by simp[hx]);refine wpIn_cond_true e51 (wpIn_seq (wpIn_region ?_));rw[show ∀o p:Oper,List.range (#[o,p]:Array Oper).size=[0,1] from fun _ _=>rfl,wpOpsIn_cons]
   have e5:(execOp (Act.eval {tmps:=T,defers:=[]}) {dst:=some 52,op:=.move (.tmp 5),type:=35,pos:=r,after:=#[],guard:=none}).run Tryz.prog W=.ok (.value (.int .i64 x)) W:=by
    show Result.ok (Next.value (T.getD 5 undef)) W=_;rw[t5]
   refine Ft (d:=52) (u:=.int .i64 x) (w':=W) hT rfl rfl rfl (by simp) e5 ?_;rw[wpOpsIn_cons];have hW:W.heap[rb]?=some (.cells #[v0] e0 (0,0)):=(hbel.block rb hrl).trans hrb
   letI:ô:=⟨fun _=>False,[],none⟩
   have hst:=qX (P:=Tryz.prog) (w:=W) (t:=35) (u:=.int .i64 x) (n:=1) (b:=rb) (o:=0) (by kernel_rfl) rfl hW (by simp) (by simp[Value.cells,Value.oneCell'])
   have hst':(storeVar 35 ⟨rb,0,none⟩ (.int .i64 x)).run Tryz.prog W=.ok () (W.setRow rb #[.int .i64 x]):=by simpa[Value.cells] using hst
   have t52:(T.setIfInBounds 52 (.int .i64 x)).getD 52 undef=.int .i64 x:=by rw[jQ,if_pos ⟨rfl,by omega⟩]
   have t2':(T.setIfInBounds 52 (.int .i64 x)).getD 2 undef=.pointer (some ⟨rb,0,none⟩):=by rw[jQ,if_neg (by simp),t2]
   have e6:(execOp (Act.eval {tmps:=T.setIfInBounds 52 (.int .i64 x),defers:=[]}) {dst:=none,op:=.store 35 (.tmp 2) (.tmp 52),type:=0,pos:=r,after:=#[{on:=0,ground:=.data},{on:=0,ground:=.phase}],guard:=none}).run Tryz.prog W=.ok .skip (W.setRow rb #[.int .i64 x]):=by
    show((do Instr.storeAt 35 ((T.setIfInBounds 52 (.int .i64 x)).getD 2 undef) ((T.setIfInBounds 52 (.int .i64 x)).getD 52 undef); pure .skip):Sem Next).run Tryz.prog W=_;rw[t52,t2'];simp[Instr.storeAt,Instr.sureAddr,hst']
   refine ako (w':=W.setRow rb #[.int .i64 x]) hT rfl rfl rfl (by simp) e6 ?_;refine wpIn_ret ?_;simp only[Exit.inBlock,ownPostK];refine⟨⟨by simp,fun k o hk ho=>?_⟩,trivial,pre,x,rfl,h1,hx,hbel.os,hbel.tape,hbel.output,by simpa using hbel.size,fun k hk hne=>(setRow_other _ _ _ _ hne).trans (hbel.block k hk),⟨_,setRow_heap _ _ _ _ _ _ hW⟩⟩
   by_cases hk2:k=rb
   ·subst hk2; rw[hW] at hk; cases hk; simp[Obj.isCells] at ho
   ·rw[setRow_other _ _ _ _ hk2]; exact hk
 case hdone =>
  intro D xs W hD hS ⟨h1,hbel⟩ hDo;subst hS;exact hdone D W h1 hbel hD hDo
 case hstop =>
  intro D c pre W hD hS ⟨hc,pre',x,h3,h4,h5,h6⟩ hDo;subst hc;refine wpIn_ret (hstop D W x ?_ h6 hD hDo);obtain⟨t,rfl⟩:=hS;rw[h3,dz,List.find?_append]
  have:List.find? (fun e=>e != 0) pre'=none:=ew.2 fun y hy=>by simp[h4 y hy]
  rw[this];simp[h5]
end Go.Proofs.ZzM
end

noncomputable section
set_option maxRecDepth 100000
namespace Go.Proofs.ZzM
open Go Go.Am Go.RowKit
def fstC:Code→Code
 |.seq a _=>a
 |c=>c
def sndC:Code→Code
 |.seq _ b=>b
 |c=>c
def amC:Nat→Code→Code
 |0,c=>fstC c
 |n+1,c=>amC n (sndC c)
def aqn:Nat→Code→Code
 |0,c=>c
 |n+1,c=>aqn n (sndC c)
def ckB:Code:=Tryz.f43.body.getD .skip
def ckA5:Code:=fstC (aqn 5 ckB |> fstC)
def ckRF:Code:=sndC (aqn 5 ckB |> fstC)
def Xy:Code:=sndC (aqn 5 ckB)
def ckPre:Code:=.seq (amC 0 ckB) (.seq (amC 1 ckB) (.seq (amC 2 ckB) (.seq (amC 3 ckB) (.seq (amC 4 ckB) ckA5))))
def arC:Tryz.f43.body=some (.seq (amC 0 ckB) (.seq (amC 1 ckB) (.seq (amC 2 ckB) (.seq (amC 3 ckB) (.seq (amC 4 ckB) (.seq (.seq ckA5 ckRF) Xy)))))):=by kernel_rfl
def ck_pt:List (Nat×Ô):=[(113,Fr),(111,DA),(109,tT),(110,yn)]
def ckE (ρ:Type):Env ρ:=Õ ck_pt []
abbrev ckR:Type:=Int ⊕ (List AV×List Blk)
def anT (S:St):Option Int:=match pQ Tryz.prog Tryz.f43 S with
 |some v=>arg [tI] S.h v
 |none=>none
def ckK (e:Exit) (S:St):Option ckR:=match e with
 |.ret=>match anT S with
  |some n=>some (.inl n)
  |none=>none
 |.normal=>match decide (78≤S.t.length) with
  |true=>some (.inr ([lk S.t 1,lk S.t 2,lk S.t 48],S.h))
  |false=>none
 |_=>none
def ckH (x:Val Ã) (s:Val (.map tI Ï)) (n:Int):List Blk :=
 [.cells (flat Ã x),.cells [.int .i64 n],.cells (flat Ã x),.cells [.mp tI Ï s],.cells [.fn (.func 175) [] [.box 3 0]]]
def ckM (x:Val Ã):Option ckR :=
 Å (Ζ x.1 (0:Int) (1000000:Int)) fun r1=>ifb (!r1) (some (.inl 1)) (ifb (igt (Ö x.2.1) (12:Int)) (some (.inl 2)) (ifb (igt (Ö x.2.2.1) (40:Int)) (some (.inl 2)) (ifb (igt (Ö x.2.2.2.1) (12:Int)) (some (.inl 2)) (ifb (igt (Ö x.2.2.2.2.1) (40:Int)) (some (.inl 2)) (ifb (igt (Ö x.2.2.2.2.2) (10:Int)) (some (.inl 2))
  (Å (ų x) fun r2=>ifb (ine r2 (0:Int)) (some (.inl r2)) (Å (η x) fun r3=>some (.inr ([.box 0 0,.box 1 0,.fn (.func 178) [] [.box 2 0,.box 4 0,.box 3 0]],ckH x r3 0)))))))))
def ck_pre (x:Val Ã):goC (ckE ckR) (ks (ckE ckR) 10) 43 [] 0 0 ckPre {t:=aft [Ã] x++List.replicate 77 .any,h:=[]} ckK=ckM x:=by kernel_rfl
def aqC (ρ:Type):Env ρ:={ckE ρ with inl:=fun _=>false}
def ckS (x:Val Ã):Option Int :=
 Å (qL x) fun r5=>ifb (igt (Ö r5) (59:Int)) (some (2:Int)) (ck ((2:Int)*(Ö x.2.1)) fun n6=>ck ((Ö r5)-(Ö x.2.1)) fun n7=>ck ((2:Int)*n7) fun n8=>ck (n6+n8) fun n9=>ck ((2:Int)*(Ö x.2.2.2.2.1)) fun n10=>ck (n9+n10) fun n11=>ifb (igt n11 (300:Int)) (some (2:Int)) (some (0:Int)))
def ckK2 (e:Exit) (S:St):Option Int:=match e with
 |.ret=>match lk S.t 2 with
  |.box 1 0=>match lkB S.h 1 with
   |.cells [.int .i64 n]=>some n
   |_=>none
  |_=>none
 |_=>none
def ck_suf (x:Val Ã) (s:Val (.map tI Ï)):goC (aqC Int) (ks (aqC Int) 10) 43 [] 0 0 Xy {t:=[.any,.box 0 0,.box 1 0]++List.replicate 75 .any,h:=ckH x s 0} ckK2=ckS x:=by kernel_rfl
def aqB (x:Val Ã):û x=match ckM x with
 |none=>none
 |some (.inl n)=>some n
 |some (.inr _)=>Å (η x) fun s=>acn (oc x s) some (ckS x):=by
 unfold û RU ckM ckS
 cases Ζ x.1 (0:Int) (1000000:Int) with
 |none=>rfl
 |some r1 =>
 cases r1 with
 |false=>rfl
 |true =>
 simp only[Å,ifb,eJ]
 cases igt (Ö x.2.1) (12:Int) with
 |true=>rfl
 |false =>
 cases igt (Ö x.2.2.1) (40:Int) with
 |true=>rfl
 |false =>
 cases igt (Ö x.2.2.2.1) (12:Int) with
 |true=>rfl
 |false =>
 cases igt (Ö x.2.2.2.2.1) (40:Int) with
 |true=>rfl
 |false =>
 cases igt (Ö x.2.2.2.2.2) (10:Int) with
 |true=>rfl
 |false =>
 cases ų x with
 |none=>rfl
 |some r2 =>
 simp only
 cases ine r2 (0:Int) with
 |true=>rfl
 |false =>
 cases η x with
 |none=>rfl
 |some r3=>rfl
def asA {x:Val Ã} {q:List AV×List Blk} (h:ckM x=some (.inr q)):((x.2.2.1:List (Val Â)).length≤1000∧(x.2.2.2.1:List (Val Ń)).length≤1000∧(x.2.2.2.2.1:List (Val È)).length≤1000∧(x.2.2.2.2.2:List (Val Â)).length≤1000) ∧
 ∃s,η x=some s∧q=([.box 0 0,.box 1 0,.fn (.func 178) [] [.box 2 0,.box 4 0,.box 3 0]],ckH x s 0):=by
 unfold ckM at h
 cases h0:Ζ x.1 (0:Int) (1000000:Int) with
 |none=>rw[h0] at h; cases h
 |some r1 =>
 rw[h0] at h
 cases r1 with
 |false=>cases h
 |true =>
 simp only[Å,ifb,eJ] at h
 cases h1:igt (Ö x.2.1) (12:Int) with
 |true=>rw[h1] at h; cases h
 |false =>
 rw[h1] at h
 cases h2:igt (Ö x.2.2.1) (40:Int) with
 |true=>rw[h2] at h; cases h
 |false =>
 rw[h2] at h
 cases h3:igt (Ö x.2.2.2.1) (12:Int) with
 |true=>rw[h3] at h; cases h
 |false =>
 rw[h3] at h
 cases h4:igt (Ö x.2.2.2.2.1) (40:Int) with
 |true=>rw[h4] at h; cases h
 |false =>
 rw[h4] at h
 cases h5:igt (Ö x.2.2.2.2.2) (10:Int) with
 |true=>rw[h5] at h; cases h
 |false =>
 rw[h5] at h
 cases h6:ų x with
 |none=>rw[h6] at h; cases h
 |some r2 =>
 rw[h6] at h;simp only at h
 cases h7:ine r2 (0:Int) with
 |true=>rw[h7] at h; cases h
 |false =>
 rw[h7] at h
 cases h8:η x with
 |none=>rw[h8] at h; cases h
 |some r3 =>
 rw[h8] at h
 have lt:∀{α:Type} (l:List α) (n:Nat),igt (Ö l) (n:Int)=false→l.length≤n:=by
  intro α l n h;unfold Ö at h;rw[O9] at h;simp only[igt,gt_iff_lt,decide_eq_false_iff_not] at h;omega
 simp only[Option.some.injEq,Sum.inr.injEq] at h;exact⟨⟨by have:=lt x.2.2.1 40 h2; omega,by have:=lt x.2.2.2.1 12 h3; omega,by have:=lt x.2.2.2.2.1 40 h4; omega,by have:=lt x.2.2.2.2.2 10 h5; omega⟩,r3,rfl,h.symm⟩
def FA {α β:Type} {f:α→Option β}:∀{l:List α} {m:List β},Pe f l=some m→m.length=l.length∧∀(i:Nat) (a:α),l[i]?=some a→∃b,m[i]?=some b∧f a=some b
 |[],m,h=>by cases h; exact⟨rfl,fun i a ha=>by simp at ha⟩
 |a::l,m,h=>by
  unfold Pe at h
  cases ha:f a with
  |none=>rw[ha] at h; cases h
  |some b =>
   rw[ha] at h
   cases hl:Pe f l with
   |none=>rw[hl] at h; cases h
   |some m' =>
    rw[hl] at h;cases h;obtain⟨h1,h2⟩:=FA hl;refine⟨by simp[h1],fun i c hc=>?_⟩
    cases i with
    |zero=>simp at hc; subst hc; exact⟨b,by simp,ha⟩
    |succ i=>simpa using h2 i c (by simpa using hc)
def NN (l:List Int):upE (fun j=>l[j]?.getD 0) l.length=l:=by
 unfold upE;refine List.ext_getElem (by simp) fun i h1 h2=>?_;simp at h1;simp[h1]
def CR.below {n₀:Nat} {w W:World} {av:Nat→Prop} (hb:Below n₀ w W) (hn:w.heap.size≤n₀) {t:Ty} {x:Val t} {vs:List Value} (h:CR w av t x vs):CR W av t x vs :=
 h.keep fun b hlt ha=>⟨hb.block b (dF hlt hn),ha⟩
def OA {w:World} {av:Nat→Prop} {xs:List (Int×Int)} {v:Value} (h:CR w av (.slice Â) xs [v]):∃base cap b off,v=.slice base xs.length cap∧(0<xs.length→base=some ⟨b,off,none⟩∧b<w.heap.size) ∧
 ∀j,j<xs.length→w.cell? ⟨b,off+j*2,none⟩=some (.int .i64 (xs[j]?.getD (0,0)).1)∧w.cell? ⟨b,off+j*2+1,none⟩=some (.int .i64 (xs[j]?.getD (0,0)).2):=by
 obtain⟨base,cap,e,hc,hx⟩:=h;cases e;rcases hx with hx|⟨b,off,hb,hav,hlt,hx⟩
 ·refine⟨base,cap,0,0,rfl,fun h=>?_,fun j hj=>?_⟩
  ·rw[show xs=[] from hx] at h; simp at h
  ·rw[show xs=[] from hx] at hj; simp at hj
 ·refine⟨base,cap,b,off,rfl,fun _=>⟨hb,hlt⟩,fun j hj=>?_⟩;obtain⟨us,h1,h2⟩:=hx j xs[j] (cX hj);obtain⟨u1,u2,e1,h3,h4⟩:=h1;have e3:u1=[.int .i64 xs[j].1]:=h3;have e4:u2=[.int .i64 xs[j].2]:=h4;subst e3 e4 e1;have s:(Â).size=2:=rfl;rw[s] at h2;have c1:=h2 0 _ rfl;have c2:=h2 1 _ rfl;rw[cX hj];exact⟨by simpa using c1,by simpa[fh] using c2⟩
end Go.Proofs.ZzM
end

noncomputable section
set_option maxRecDepth 100000
namespace Go.Proofs.ZzM
open Go Go.Am Go.RowKit
section
variable {w W W':World}
abbrev noG:Nat→Prop:=fun _=>False
def aa4 (w:World) (n:Int):lv w noG tI n (.int .i64 n):=⟨[.int .i64 n],rfl,rfl⟩
def asf {sb:Nat} {mv:Value} {e:TypeId} {s:Val (.map tI Ï)} (h:w.heap[sb]?=some (.cells #[mv] e (0,0))) (hm:CR w noG (.map tI Ï) s [mv]):lv w noG (.ptr (.map tI Ï)) s (.pointer (some ⟨sb,0,none⟩)):=by
 letI:ô:=⟨fun _=>False,[],none⟩
 exact⟨[.pointer (some ⟨sb,0,none⟩)],⟨sb,0,[mv],rfl,id,ē h,hm,ļ.of_cells h⟩,rfl⟩
def arZ {y:Int} {u:Value} (h:RR w noG [tI] y u):u=.int .i64 y:=by
 obtain⟨us,h1,rfl⟩:=h;have:us=[.int .i64 y]:=h1;rw[this]; rfl
def aqd (h1:∀b,b<W.heap.size→W'.heap[b]?=W.heap[b]?) (h2:W.heap.size≤W'.heap.size) (h3:W'.os=W.os) (h4:W'.tape=W.tape) (h5:W'.output=W.output):W.grownBy W' none :=
 ⟨h3,h4,h5,h2,fun b hb _=>h1 b hb⟩
def abn {f:Nat} {p:Ô} (hp:kw Tryz.prog f p) (hrs:p.rs=[tI]) {x:Val (tyL p.ts)} {y:Int} (hF:p.F x=some (hrs▸(show Val (tyL [tI]) from y))) {vals:List Value} (ha:AL W noG p.ts x vals) :
 CallsIn Fence.wide 0 Tryz.prog f vals.toArray W fun e W''=>e=.returned (.int .i64 y)∧W.grownBy W'' none:=by
 obtain⟨ts,rs,F⟩:=p;dsimp only at hrs hF ha x;subst hrs;refine(hp noG x y hF W vals (fun _ h=>h.elim) ha).2.mono fun e w' ⟨u,h0,h1,h2,h3,h4,h5,h6⟩=>⟨?_,aqd h2 h3 h4 h5 h6⟩;rw[h0,arZ h1]
def abV {s:Val (.map tI Ï)} {a b y:Int} (hF:ĺ a b s=some y) {sb:Nat} {mv:Value} {e:TypeId} (h:W.heap[sb]?=some (.cells #[mv] e (0,0))) (hm:CR W noG (.map tI Ï) s [mv]) :
 CallsIn Fence.wide 0 Tryz.prog 175 #[.int .i64 a,.int .i64 b,.pointer (some ⟨sb,0,none⟩)] W fun e W''=>e=.returned (.int .i64 y)∧W.grownBy W'' none :=
 abn ah1 rfl (x:=(a,b,s)) (y:=y) hF (vals:=[.int .i64 a,.int .i64 b,.pointer (some ⟨sb,0,none⟩)]) ⟨_,_,rfl,aa4 _ _,_,_,rfl,aa4 _ _,_,rfl,asf h hm⟩
def amP {mv:Value} {s:Val (.map tI Ï)} (hm:CR W noG (.map tI Ï) s [mv]):lv W noG (.map tI Ï) s mv:=⟨[mv],hm,rfl⟩
def ajL {x:Val Ã} {cs:Array Value} (hb:CR W noG Ã x cs.toList):lv W noG Ã x (.agg cs):=⟨cs.toList,hb,by show Value.agg cs=Value.agg cs.toList.toArray; rw[Array.toArray_toList]⟩
def am0 {x:Val Ã} {s:Val (.map tI Ï)} {i y:Int} (hF:Λ x s i=some y) {mv:Value} {cs:Array Value} (hb:CR W noG Ã x cs.toList) (hm:CR W noG (.map tI Ï) s [mv]) :
 CallsIn Fence.wide 0 Tryz.prog 179 #[.agg cs,mv,.int .i64 i] W fun e W''=>e=.returned (.int .i64 y)∧W.grownBy W'' none :=
 abn abx rfl (x:=(x,s,i)) (y:=y) hF (vals:=[.agg cs,mv,.int .i64 i]) ⟨_,_,rfl,ajL hb,_,_,rfl,amP hm,_,rfl,aa4 _ _⟩
def afz {x:Val Ã} {s:Val (.map tI Ï)} {i y:Int} (hF:Ľ x s i=some y) {mv:Value} {cs:Array Value} (hb:CR W noG Ã x cs.toList) (hm:CR W noG (.map tI Ï) s [mv]) :
 CallsIn Fence.wide 0 Tryz.prog 180 #[.agg cs,mv,.int .i64 i] W fun e W''=>e=.returned (.int .i64 y)∧W.grownBy W'' none :=
 abn NH rfl (x:=(x,s,i)) (y:=y) hF (vals:=[.agg cs,mv,.int .i64 i]) ⟨_,_,rfl,ajL hb,_,_,rfl,amP hm,_,rfl,aa4 _ _⟩
end
def pO {w:World} {av:Nat→Prop} {t:Ty} {xs:List (Val t)} {vs:List Value} (h:CR w av (.slice t) xs vs):∃base cap,vs=[.slice base xs.length cap]:=by
 obtain⟨base,cap,e,_⟩:=h;exact⟨base,cap,e⟩
def apE {x:Val Ã} {s:Val (.map tI Ï)} {l1 l2 l3 l4:List Int} (h1:Pe (fun u=>ĺ u.1 u.2 s) (x.2.2.1:List (Int×Int))=some l1) (h2:Pe (fun i=>Λ x s i) (xV (x.2.2.2.1:List (Val Ń)).length)=some l2)
 (h3:Pe (fun i=>Ľ x s i) (xV (x.2.2.2.2.1:List (Val È)).length)=some l3) (h4:Pe (fun u=>ĺ u.1 u.2 s) (x.2.2.2.2.2:List (Int×Int))=some l4)
 (hlen:(x.2.2.1:List (Val Â)).length≤1000∧(x.2.2.2.1:List (Val Ń)).length≤1000∧(x.2.2.2.2.1:List (Val È)).length≤1000∧(x.2.2.2.2.2:List (Val Â)).length≤1000)
 {w:World} {bb tb sb:Nat} {te te2 te3:TypeId} {cb:Array Value} {mv:Value} (hbb:w.heap[bb]?=some (.cells cb te (0,0))) (hbk:CR w noG Ã x cb.toList) (htb:w.heap[tb]?=some (.cells #[.func (.func 175) #[] #[.pointer (some ⟨sb,0,none⟩)]] te2 (0,0)))
 (hsb:w.heap[sb]?=some (.cells #[mv] te3 (0,0))) (hmv:CR w noG (.map tI Ï) s [mv]) :
 SeqStopsK Fence.wide 1 Tryz.prog 178 #[.pointer (some ⟨bb,0,none⟩),.pointer (some ⟨tb,0,none⟩),.pointer (some ⟨sb,0,none⟩)] (fun x:Int=>#[.int .i64 x]) (Below w.heap.size) (fun xs=>xs=l1++(l2++(l3++l4))) (fun pre=>pre <+: (l1++(l2++(l3++l4)))) (l1++(l2++(l3++l4))).length w:=by
 intro l J Jx W hbel hJ hJx hY h0;obtain⟨fl,r0,e0,hfl,hr0⟩:=id hbk;obtain⟨ga,r1,e1,hga,hr1⟩:=hr0;obtain⟨us,r2,e2,hus,hr2⟩:=hr1;obtain⟨lo,r3,e3,hlo,hr3⟩:=hr2;obtain⟨co,ko,e4,hco,hko⟩:=hr3;obtain⟨f1,f2,e5,hf1,hf2⟩:=hfl;have e6:f1=[.int .i64 x.1.1]:=hf1;have e7:f2=[.int .i64 x.1.2]:=hf2;obtain⟨gab,gac,e8⟩:=pO hga;obtain⟨lob,loc,e9⟩:=pO hlo;obtain⟨cob,coc,e10⟩:=pO hco;obtain⟨usb0,usc0,e11⟩:=pO hus;obtain⟨kob0,koc0,e12⟩:=pO hko;rw[e11] at hus;rw[e12] at hko;obtain⟨usb,usc,ub,uo,e13,hub,hU⟩:=OA hus;obtain⟨kob,koc,kb,kof,e14,hkb,hK⟩:=OA hko;rw[e13] at e11;rw[e14] at e12
 have hcb:cb=#[.int .i64 x.1.1,.int .i64 x.1.2,.slice gab (x.2.1:List (Val Ï)).length gac,.slice usb (x.2.2.1:List (Val Â)).length usc,.slice lob (x.2.2.2.1:List (Val Ń)).length loc,.slice cob (x.2.2.2.2.1:List (Val È)).length coc,.slice kob (x.2.2.2.2.2:List (Val Â)).length koc]:=by
  rw[←dX,e0,e1,e2,e3,e4,e5,e6,e7,e8,e9,e10,e11,e12];rfl
 obtain⟨g1,q1⟩:=FA h1;obtain⟨g2,q2⟩:=FA h2;obtain⟨g3,q3⟩:=FA h3;obtain⟨g4,q4⟩:=FA h4
 have gl2:l2.length=(x.2.2.2.1:List (Val Ń)).length:=by rw[g2]; simp[xV]
 have gl3:l3.length=(x.2.2.2.2.1:List (Val È)).length:=by rw[g3]; simp[xV]
 have up1:upE (fun j=>l1[j]?.getD 0) (x.2.2.1:List (Val Â)).length=l1:=by rw[←g1]; exact NN l1
 have up2:upE (fun j=>l2[j]?.getD 0) (x.2.2.2.1:List (Val Ń)).length=l2:=by rw[←gl2]; exact NN l2
 have up3:upE (fun j=>l3[j]?.getD 0) (x.2.2.2.2.1:List (Val È)).length=l3:=by rw[←gl3]; exact NN l3
 have up4:upE (fun j=>l4[j]?.getD 0) (x.2.2.2.2.2:List (Val Â)).length=l4:=by rw[←g4]; exact NN l4
 have at1:∀{xs:List (Int×Int)} {ls:List Int},(∀(i:Nat) (a:Int×Int),xs[i]?=some a→∃b,ls[i]?=some b∧ĺ a.1 a.2 s=some b)→∀j,j<xs.length→ĺ (xs[j]?.getD (0,0)).1 (xs[j]?.getD (0,0)).2 s=some (ls[j]?.getD 0):=by
  intro xs ls hq j hj;obtain⟨b,hb,hf⟩:=hq j xs[j] (cX hj);rw[cX hj,hb];exact hf
 have at2:∀{n:Nat} {ls:List Int} {f:Int→Option Int},(∀(i:Nat) (a:Int),(xV n)[i]?=some a→∃b,ls[i]?=some b∧f a=some b)→∀j,j<n→f (j:Int)=some (ls[j]?.getD 0):=by
  intro n ls f hq j hj;obtain⟨b,hb,hf⟩:=hq j j (by simp[xV,hj]);rw[hb]; exact hf
 have hbel':∀{W':World},Below w.heap.size W W'→Below w.heap.size w W':=fun h=>hbel.trans h;have hcell:∀{W':World} {p:Addr} {v:Value},Below w.heap.size w W'→w.cell? p=some v→p.block<w.heap.size→W'.cell? p=some v:=fun {W'} {p} {v} h hc hp=>(h.cell (p:=p) hp).trans hc;have lb:=ē hbb;have lt:=ē htb;have ls:=ē hsb
 have:=apO te 1 (by omega) l w.heap.size bb tb sb (.int .i64 x.1.1) (.int .i64 x.1.2) (.slice gab (x.2.1:List (Val Ï)).length gac) mv lb lt ls
  ub uo (x.2.2.1:List (Val Â)).length usc kb kof (x.2.2.2.2.2:List (Val Â)).length koc usb kob lob cob (x.2.2.2.1:List (Val Ń)).length loc (x.2.2.2.2.1:List (Val È)).length coc hub hkb
  (fun j=>(x.2.2.1:List (Int×Int))[j]?.getD (0,0)) (fun j=>(x.2.2.2.2.2:List (Int×Int))[j]?.getD (0,0)) (fun j=>l1[j]?.getD 0) (fun j=>l2[j]?.getD 0) (fun j=>l3[j]?.getD 0) (fun j=>l4[j]?.getD 0)
  hlen.1 hlen.2.1 hlen.2.2.1 hlen.2.2.2 W ((hbel.block bb lb).trans (by rw[hbb,hcb])) (hcell hbel (by simp[World.cell?,htb]) lt) (hcell hbel (by simp[World.cell?,hsb]) ls)
  (fun j hj=>⟨hcell hbel (hU j hj).1 (hub (by omega)).2,hcell hbel (hU j hj).2 (hub (by omega)).2⟩) (fun j hj=>⟨hcell hbel (hK j hj).1 (hkb (by omega)).2,hcell hbel (hK j hj).2 (hkb (by omega)).2⟩)
  (fun j hj W' hW=>abV (at1 q1 j hj) (((hbel' hW).block sb ls).trans hsb) (CR.below (hbel' hW) (cY _) hmv))
  (fun j hj W' hW=>abV (at1 q4 j hj) (((hbel' hW).block sb ls).trans hsb) (CR.below (hbel' hW) (cY _) hmv))
  (fun j hj W' hW=>am0 (at2 q2 j hj) (by have:=CR.below (hbel' hW) (cY _) hbk; rwa [hcb] at this) (CR.below (hbel' hW) (cY _) hmv))
  (fun j hj W' hW=>afz (at2 q3 j hj) (by have:=CR.below (hbel' hW) (cY _) hbk; rwa [hcb] at this) (CR.below (hbel' hW) (cY _) hmv))
  J Jx (fun pre W1 W2 hj hg=>hJ pre W1 W2 none hj hg (fun r e=>by cases e)) (fun pre W1 W2 hj hg=>hJx pre W1 W2 none hj hg (fun r e=>by cases e))
  (fun pre y W1 hj hl=>hY pre y W1 hj (by simp only[dc]; omega)) h0 hbel.size
 rw[up1,up2,up3,up4] at this;exact this
end Go.Proofs.ZzM
end

noncomputable section
set_option maxRecDepth 100000
namespace Go.Proofs.ZzM
open Go Go.Am Go.RowKit
section
variable [ô] {ρ:Type} {ν:Nat→Value} {w:World}
def peel (hq:ô.Q=none) {E:Env ρ} {call:List Nat→Bool→Nat→List AV→List Blk→(AV→List Blk→Option ρ)→Option ρ} {L:Nat} (hE:mo E L call) (hD:mE E L call) (hj:E.joins=fun _ _ _ _=>none) {fid:Nat} {path:List Nat} (hp:path.length+2=L) {x y c:Code} {bid n:Nat} {S:St} {K:Exit→St→Option ρ} {r:ρ} {a:Act} {Q:Exit→Act→World→Prop}
 (hL:∀z∈î bid x,qQ E path fid z.1 z.2) (e:goC E call fid path 0 bid (.seq x y) S K=some r) (H:Sim ν S a w)
 (hn:∀ν' S' a' w',Sim ν' S' a' w'→Ev 0 ν S.h w ν' S'.h w'→goC E call fid path 0 bid y S' K=some r→c.wpIn Fence.wide n E.P Q a' w')
 (hx:∀ν' S' a' w' e,e≠.normal→Sim ν' S' a' w'→Ev 0 ν S.h w ν' S'.h w'→K e S'=some r→Q e a' w'):(Code.seq x c).wpIn Fence.wide n E.P Q a w:=by
 simp only[goC,hj] at e;have hgo:=l7 hE hD hp x bid S _ ν a w hL e H (eI _);rw[HO hq] at hgo;refine wpIn_seq (wpIn_wide.2 (wpIn_wide.1 (wpIn_mono hgo fun e' a' w' ha=>?_)));obtain⟨ν',S',h1,h2,h3,h4,h5⟩:=ha
 cases e' with
 |normal=>exact hn ν' S' a' w' h1 h2 h5
 |exit id=>exact hx ν' S' a' w' _ (by simp) h1 h2 h5
 |goto l=>exact hx ν' S' a' w' _ (by simp) h1 h2 h5
 |ret=>exact hx ν' S' a' w' _ (by simp) h1 h2 h5
 |panic ch=>exact hx ν' S' a' w' _ (by simp) h1 h2 h5
 |outgrown=>exact hx ν' S' a' w' _ (by simp) h1 h2 h5
end
def amg {T:Array Value} {rb:Nat} {n:Int} {e:TypeId} {W:World} (h2:T.getD 2 undef=.pointer (some ⟨rb,0,none⟩)) (hc:W.heap[rb]?=some (.cells #[.int .i64 n] e (0,0))):(results Tryz.f43 T).run Tryz.prog W=.ok (.int .i64 n) W:=by
 letI:ô:=⟨fun _=>False,[],none⟩
 have hl:(loadVar 35 ⟨rb,0,none⟩).run Tryz.prog W=.ok (.int .i64 n) W:=by
  have:=vm (P:=Tryz.prog) (w:=W) (t:=35) (agg:=false) (n:=1) (by kernel_rfl) (us:=[.int .i64 n]) rfl (fun _=>rfl) (a:=⟨rb,0,none⟩) (fun j v hj=>by
   have:=ļ.of_cells hc j v (by simpa using hj)
   cases j with
   |zero=>simpa[Addr.add] using this
   |succ j=>simp at hj)
  exact this
 have hr:Tryz.f43.results=#[.cell 2 35]:=by kernel_rfl
 unfold results;rw[hr,Array.mapM_eq_mapM_toList];simp only[Sem.run_bind,Sem.run_map,List.mapM_cons,List.mapM_nil,h2,asAddr,Sem.run_pure,Result.andThen_ok,hl];rfl
def HR_ghost {G:Nat→Prop} {D D':List Deferred} {Q Q':Option Nat} {ν:Nat→Value} {h:List Blk} {w:World} (H:@HR ⟨G,D,Q⟩ ν h w):@HR ⟨G,D',Q'⟩ ν h w :=
 @HR.mk ⟨G,D',Q'⟩ ν h w (@HR.blk ⟨G,D,Q⟩ ν h w H) (@HR.inj ⟨G,D,Q⟩ ν h w H) (@HR.ghlt ⟨G,D,Q⟩ ν h w H) (@HR.ghne ⟨G,D,Q⟩ ν h w H)
def asH [ô] {ν:Nat→Value} {h:List Blk} {w:World} {x:Val Ã} {us:List Value} (hv:Ć (VRc ν h w) (flat Ã x) us):CR w noG Ã x us:=by
 have h1:ä Ã (flat Ã x)=some x:=rfl;have h2:Ć (VRs w (Av ν h)) (flat Ã x) us:=hv.mono fun c u hu=>hu.1.data;exact CR.mono (fun _ hf=>hf.elim) (š h1 h2)
def Dk (G:Nat→Prop) (y:Int) (w:World) (e:Ending) (w':World):Prop :=
 ∃u,e=.returned u∧RR w' G [tI] y u∧(∀b,b<w.heap.size→w'.heap[b]?=w.heap[b]?)∧w.heap.size≤w'.heap.size∧w'.os=w.os∧w'.tape=w.tape∧w'.output=w.output
def ajz {G:Nat→Prop} {y:Int} {w0 w:World} {a:Act} {D rb:Nat} {e:TypeId} (hd:a.defers=[ai2 D]) (hD:w.heap[D]?=some (.deferred (some []))) (h2:a.tmps.getD 2 undef=.pointer (some ⟨rb,0,none⟩)) (hc:w.heap[rb]?=some (.cells #[.int .i64 y] e (0,0)))
 (hb:∀b,b<w0.heap.size→w.heap[b]?=w0.heap[b]?) (hDl:w0.heap.size≤D) (hsz:w0.heap.size≤w.heap.size) (h3:w.os=w0.os) (h4:w.tape=w0.tape) (h5:w.output=w0.output):LeavesInM Fence.wide 2 Tryz.prog Tryz.f43 a.tmps (Dk G y w0) a.defers .returning w:=by
 rw[hd]
 have hne:rb≠D:=fun h=>by rw[h,hD] at hc; cases hc
 have ho:∀b,b≠D→(w.putObj D (.deferred none)).heap[b]?=w.heap[b]?:=fun b hb=>by
  simp only[World.putObj,fj];rw[if_neg (fun h=>hb h.symm)]
 refine⟨by simp,.inl ⟨D,_,rfl,run_takeDeferred hD,?_⟩⟩;refine⟨.int .i64 y,amg h2 ((ho rb hne).trans hc),.int .i64 y,rfl,⟨[.int .i64 y],rfl,rfl⟩,fun b hlt=>(ho b (by omega)).trans (hb b hlt),by simpa[World.putObj] using hsz,h3,h4,h5⟩
def asB (S:St):ckK .ret S=(anT S).map .inl:=by
 unfold ckK
 cases anT S<;>rfl
def ak2 (S:St):ckK .normal S=if decide (78≤S.t.length)=true then some (.inr ([lk S.t 1,lk S.t 2,lk S.t 48],S.h)) else none:=by
 unfold ckK
 cases decide (78≤S.t.length)<;>rfl
def jG [ô] {ρ:Type} {E:Env ρ} (h0:E.loops=sn []) {path:List Nat} {fid bid:Nat} {b:Code}:qQ E path fid bid b:=fun m S K r ν a w e=>by
 rw[h0] at e;cases e
def ar3:Code→String
 | .region _ ops _ => ((ops[0]?).map fun o => o.pos).getD ""
 | _ => ""
def rfA:Code→Code
 |.block _ (.rangeFunc _ _ a _)=>a
 |_=>.skip
def rfB:Code→Code
 |.block _ (.rangeFunc _ _ _ (.block _ (.seq a _)))=>a
 |_=>.skip
def rfC:Code→Code
 |.block _ (.rangeFunc _ _ _ (.block _ (.seq _ (.cond _ (.seq a _) _))))=>a
 |_=>.skip
def asz:ckRF=Code.block 0 (Code.rangeFunc (.tmp 48) #[49] (aiH (ar3 (rfA ckRF))) (arf (ar3 (rfB ckRF)) (ar3 (rfC ckRF)))):=by kernel_rfl
def arB:∀e∈ck_pt,kw Tryz.prog e.1 e.2:=Á Tf (Á Te (Á By (Á Th Ä)))
def anU {e:Exit} {S:St} {n:Int} (h:ckK2 e S=some n):e=.ret∧lk S.t 2=.box 1 0∧lkB S.h 1=.cells [.int .i64 n]:=by
 unfold ckK2 at h
 split at h
 ·split at h
  ·rename_i h2
   split at h
   ·rename_i h3;cases h;exact⟨rfl,h2,h3⟩
   ·cases h
  ·cases h
 ·cases h
def ae9 [ô] {ν:Nat→Value} {h:List Blk} {w:World} {n:Int} {id:Nat} (H:HR ν h w) (hl:lkB h id=.cells [.int .i64 n]):∃b e,ν id=.pointer (some ⟨b,0,none⟩)∧w.heap[b]?=some (.cells #[.int .i64 n] e (0,0)):=by
 have hB:=H.blk id;rw[hl] at hB;obtain⟨b,c,e,h1,h2,h3⟩:=hB;obtain⟨u,h4,h5⟩:=h3.one;have h6:u=.int .i64 n:=h5.1;refine⟨b,e,h1,?_⟩;rw[h2]
 have:c=#[.int .i64 n]:=by rw[←dX,h4,h6]
 rw[this]
def AA [ô] {ν:Nat→Value} {h:List Blk} {w:World} {id off:Nat} {v:Value} {b:Nat} (hv:VR ν h w (.box id off) v) (hb:ν id=.pointer (some ⟨b,0,none⟩)):v=.pointer (some ⟨b,off,none⟩):=by
 obtain⟨cs,b',h1,h2,h3⟩:=hv;rw[hb] at h2;cases h2;exact h3
def asy {G:Nat→Prop} {x:Val Ã} {s:Val (.map tI Ï)} {y:Int} (hS:ckS x=some y) {ν:Nat→Value} {w0 w6 W:World} {a:Act} {D:Nat} (H:@HR ⟨G,[],none⟩ ν (ckH x s 0) w6) (hb:Below w6.heap.size w6 W) (hD:w6.heap.size≤D) (hDo:W.heap[D]?=some (.deferred (some []))) (hd:a.defers=[ai2 D]) (hlen:78≤a.tmps.size)
 (t1:@VR ⟨G,[],none⟩ ν (ckH x s 0) w6 (.box 0 0) (a.tmps.getD 1 undef)) (t2:@VR ⟨G,[],none⟩ ν (ckH x s 0) w6 (.box 1 0) (a.tmps.getD 2 undef))
 (h0:∀b,b<w0.heap.size→w6.heap[b]?=w0.heap[b]?∧¬aie ν (ckH x s 0) b) (hsz:w0.heap.size≤w6.heap.size) (h3:w6.os=w0.os) (h4:w6.tape=w0.tape) (h5:w6.output=w0.output) :
 Xy.wpIn Fence.wide 2 Tryz.prog (bodyPostM Fence.wide 2 Tryz.prog Tryz.f43 (Dk G y w0)) a W:=by
 have hlive:∀b,aie ν (ckH x s 0) b→b<w6.heap.size:=fun b hl=>@HR.ltA ⟨G,[],none⟩ _ _ _ H b (.inl hl)
 have t1':∃b,ν 0=.pointer (some ⟨b,0,none⟩)∧a.tmps.getD 1 undef=.pointer (some ⟨b,0,none⟩):=by
  obtain⟨cs,b,_,h2,h3⟩:=t1;exact⟨b,h2,h3⟩
 have t2':∃b,ν 1=.pointer (some ⟨b,0,none⟩)∧a.tmps.getD 2 undef=.pointer (some ⟨b,0,none⟩):=by
  obtain⟨cs,b,_,h2,h3⟩:=t2;exact⟨b,h2,h3⟩
 letI:ô:=⟨G,[ai2 D],none⟩
 have H1:HR ν (ckH x s 0) w6:=HR_ghost H;have H2:HR ν (ckH x s 0) W:=(H1.grow (fun b hlt=>hb.block b hlt) hb.size hb.os hb.tape hb.output 0).2;have hlib:NL (aqC Int):=RZ arB (aqC Int) rfl rfl rfl rfl rfl (il rfl);have hdraw:∀L call,mo (aqC Int) L call→mE (aqC Int) L call:=EG hmix;have hl0:(aqC Int).loops=sn []:=rfl;have hcall:=ng (.inr fun _=>rfl) hlib hdraw (fun n hn hE path f fn c _ _ _ z _=>jG hl0) 10 (cY _);have hEnv:mo (aqC Int) 2 (ks (aqC Int) 10):=⟨.inr (qN 9),hcall,hlib.plain,hlib.clone,hlib.joins⟩;have law:=ck_suf x s;rw[hS] at law
 have sim:Sim ν {t:=[.any,.box 0 0,.box 1 0]++List.replicate 75 .any,h:=ckH x s 0} a W:=by
  refine⟨hd,by simpa using hlen,fun i=>?_,H2⟩;simp only[RX];rcases i with _|_|_|i
  ·trivial
  ·obtain⟨b,g1,g2⟩:=t1';exact⟨_,b,rfl,g1,g2⟩
  ·obtain⟨b,g1,g2⟩:=t2';exact⟨_,b,rfl,g1,g2⟩
  ·trivial
 refine wpIn_wide.2 (wpIn_wide.1 (wpIn_mono (l7 hEnv (hdraw _ _ hEnv) rfl Xy 0 _ _ ν a W (fun z _=>jG hl0) law sim (eI _)) fun e a' w' ha=>?_));obtain⟨ν',S',g1,g2,_,_,g5⟩:=ha;obtain⟨rfl,k2,k3⟩:=anU g5;obtain⟨rb,te,r1,r2⟩:=ae9 g1.heap k3;have r3:=g1.tmps 2;rw[k2] at r3;have r4:=AA r3 r1;have hDlt:=ē hDo;refine ajz (w:=w') (a:=a') (G:=G) (y:=y) (w0:=w0) (D:=D) (rb:=rb) g1.defers ((g2.keep D hDlt fun hl=>by have:=hlive D hl; omega).1.trans hDo) r4 r2 (fun b hlt=>?_) (by omega) (by have:=g2.size; have:=hb.size; omega) (g2.os.trans (hb.os.trans h3)) (g2.tape.trans (hb.tape.trans h4)) (g2.output.trans (hb.output.trans h5));have h01:=h0 b hlt
 have hlt6:b<w6.heap.size:=by omega
 have hltW:b<W.heap.size:=by have:=hb.size; omega
 exact(g2.keep b hltW h01.2).1.trans ((hb.block b hlt6).trans h01.1)
set_option maxHeartbeats 2000000 in
def ak3 (G:Nat→Prop) (x:Val Ã) (y:Int) (hF':û x=some y) (w:World) (vals:List Value) (hG:∀b,G b→b<w.heap.size) (hAL:AL w G [Ã] x vals) :
 (∃fn c,Tryz.prog.funcs[43]?=some fn∧fn.body=some c)∧CallsIn Fence.wide 0 Tryz.prog 43 vals.toArray w (Dk G y w):=by
 rw[aqB] at hF'
 letI:ô:=⟨G,[],none⟩
 have hpt:=arB;have hlib:NL (ckE ckR):=RZ hpt (ckE ckR) rfl rfl rfl rfl rfl (il rfl);have hdraw:∀L call,mo (ckE ckR) L call→mE (ckE ckR) L call:=EG hmix;have h0:(ckE ckR).loops=sn []:=rfl;have hcall:=ng (.inl ⟨rfl,rfl⟩) hlib hdraw (fun n hn hE path f fn c _ _ _ z _=>jG h0) 10 (cY _);have hEnv:mo (ckE ckR) 2 (ks (ckE ckR) 10):=⟨.inr (qN 9),hcall,hlib.plain,hlib.clone,hlib.joins⟩;have hD:=hdraw _ _ hEnv;have H:HR (fun _=>undef) [] w:=⟨fun _=>trivial,fun _ _ _ h=>(by cases h),hG,fun _ _ h=>(by cases h)⟩;have hav:∀b,Av (fun _=>undef) [] b→G b:=fun b hb=>hb.elim (fun⟨_,h,_⟩=>by cases h) id;have hargs:Ć (VR (fun _=>undef) [] w) (aft [Ã] x) vals:=AL.VR (hAL.mono hav);refine⟨⟨Tryz.f43,_,Tryz.func43,arC⟩,?_⟩
 have hlen:vals.length=1:=by
  have:=hargs.length;simpa[aft,anz] using this.symm
 cases hM:ckM x with
 |none=>rw[hM] at hF'; cases hF'
 |some r0 =>
 rw[hM] at hF';have law:=ck_pre x;rw[hM] at law;refine callsIn_wide.2 (callsIn_wide.1 (callsIn_of_wp_marks (n:=2) Tryz.func43 arC trivial ?_ (R:=Dk G y w)))
 have hS:Sim (fun _=>undef) {t:=aft [Ã] x++List.replicate 77 .any,h:=[]} {tmps:=vals.toArray++Array.replicate (Tryz.f43.ntmps-vals.toArray.size) undef,defers:=[]} w:=by
  refine⟨rfl,?_,fun i=>?_,H⟩
  ·have:Tryz.f43.ntmps=78:=by kernel_rfl
   have hl2:(aft [Ã] x).length=1:=rfl;simp[this,hlen,hl2]
  ·simp only[RX];rcases dA i (aft [Ã] x).length with hi|hi
   ·have:=Ć.lk (R:=VR (fun _=>undef) [] w) (fun _=>trivial) i hargs
    have hv:i<vals.length:=by rw[←hargs.length]; exact hi
    have h2:(vals.toArray++Array.replicate (Tryz.f43.ntmps-vals.toArray.size) undef).getD i undef=vals.getD i undef:=by
     simp[dW,fc,hv]
    rw[h2]; exact this
   ·rw[am4 _ _ hi]; trivial
 -- the ways out ahead of the loop
 have out:∀ν' S' a' w' e,e≠.normal→Sim ν' S' a' w'→Ev 0 (fun _=>undef) [] w ν' S'.h w'→ckK e S'=some r0→bodyPostM Fence.wide 2 Tryz.prog Tryz.f43 (Dk G y w) e a' w':=by
  intro ν' S' a' w' e hne hS' hE' hk
  cases e with
  |normal=>exact(hne rfl).elim
  |ret =>
   rw[asB] at hk
   cases hr:anT S' with
   |none=>rw[hr] at hk; cases hk
   |some n =>
    rw[hr,d9] at hk;cases hk
    have hyn:n=y:=by simpa using hF'
    subst hyn;unfold anT at hr
    split at hr
    ·rename_i v hv;obtain⟨u,q1,q2⟩:=IV hS' hv;show LeavesInM _ _ _ _ _ _ a'.defers _ _;rw[show a'.defers=[] from hS'.defers];exact⟨u,q1,u,rfl,X1 hS'.heap [tI] q2 hr,fun b hb=>(hE'.keep b hb fun⟨_,h,_⟩=>by cases h).1,hE'.size,hE'.os,hE'.tape,hE'.output⟩
    ·cases hr
  |exit id=>cases hk
  |goto l=>cases hk
  |panic ch=>cases hk
  |outgrown=>cases hk
 have outT:∀{ν₁:Nat→Value} {h₁:List Blk} {w₁:World},Ev 0 (fun _=>undef) [] w ν₁ h₁ w₁→∀ν' S' a' w' e,e≠.normal→Sim ν' S' a' w'→Ev 0 ν₁ h₁ w₁ ν' S'.h w'→ckK e S'=some r0→bodyPostM Fence.wide 2 Tryz.prog Tryz.f43 (Dk G y w) e a' w' :=
  fun hE ν' S' a' w' e hne hS' hE' hk=>out ν' S' a' w' e hne hS' (hE.trans hE' (cY _)) hk
 refine peel rfl hEnv hD rfl rfl (fun z _=>jG h0) law hS (fun ν1 S1 a1 w1 s1 e1 k1=>?_) out;refine peel rfl hEnv hD rfl rfl (fun z _=>jG h0) k1 s1 (fun ν2 S2 a2 w2 s2 e2 k2=>?_) (outT e1);have t2:=e1.trans e2 (cY _);refine peel rfl hEnv hD rfl rfl (fun z _=>jG h0) k2 s2 (fun ν3 S3 a3 w3 s3 e3 k3=>?_) (outT t2);have t3:=t2.trans e3 (cY _);refine peel rfl hEnv hD rfl rfl (fun z _=>jG h0) k3 s3 (fun ν4 S4 a4 w4 s4 e4 k4=>?_) (outT t3);have t4:=t3.trans e4 (cY _);refine peel rfl hEnv hD rfl rfl (fun z _=>jG h0) k4 s4 (fun ν5 S5 a5 w5 s5 e5 k5=>?_) (outT t4);have t5:=t4.trans e5 (cY _);refine wpIn_seq (wpIn_seq (wpIn_wide.2 (wpIn_wide.1 (wpIn_mono (l7 hEnv hD rfl ckA5 0 S5 _ ν5 a5 w5 (fun z _=>jG h0) k5 s5 (eI _)) fun e' a6 w6 ha=>?_))));obtain⟨ν,S,s6,e6,_,_,k6⟩:=ha;have t6:=t5.trans e6 (cY _)
 have other:∀e,e≠.normal→ckK e S=some r0→Exit.then (Code.wpIn Fence.wide 2 Tryz.prog Xy (bodyPostM Fence.wide 2 Tryz.prog Tryz.f43 (Dk G y w))) (bodyPostM Fence.wide 2 Tryz.prog Tryz.f43 (Dk G y w)) e a6 w6:=by
  intro e hne hk;have:=out ν S a6 w6 e hne s6 t6 hk
  cases e<;>first|exact(hne rfl).elim|exact this
 cases e' with
 |exit id=>exact other _ (by simp) k6
 |goto l=>exact other _ (by simp) k6
 |ret=>exact other _ (by simp) k6
 |panic ch=>exact other _ (by simp) k6
 |outgrown=>exact other _ (by simp) k6
 |normal =>
 clear other;rw[ak2] at k6
 split at k6<;>try (cases k6; done)
 rename_i h78
 have h78':78≤S.t.length:=by simpa using h78
 cases k6;obtain⟨hlens,s,hs,hq⟩:=asA hM;simp only[Prod.mk.injEq,List.cons.injEq,and_true] at hq;obtain⟨⟨q1,q2,q48⟩,qh⟩:=hq
 have hF2:acn (oc x s) some (ckS x)=some y:=by
  simp only at hF';rw[hs] at hF';exact hF'
 -- what the errors are
 obtain⟨L,hL,hLy⟩:∃L,oc x s=some L∧(match L.find? (fun e=>e != 0) with|some e=>some e|none=>ckS x)=some y:=by
  unfold acn at hF2
  cases hl:oc x s with
  |none=>rw[hl] at hF2; cases hF2
  |some L=>rw[hl] at hF2; exact⟨L,rfl,hF2⟩
 obtain⟨l1,l2,l3,l4,m1,m2,m3,m4,rfl⟩:∃l1 l2 l3 l4,Pe (fun u=>ĺ u.1 u.2 s) (x.2.2.1:List (Int×Int))=some l1∧Pe (fun i=>Λ x s i) (xV (x.2.2.2.1:List (Val Ń)).length)=some l2 ∧
  Pe (fun i=>Ľ x s i) (xV (x.2.2.2.2.1:List (Val È)).length)=some l3∧Pe (fun u=>ĺ u.1 u.2 s) (x.2.2.2.2.2:List (Int×Int))=some l4∧L=l1++(l2++(l3++l4)):=by
  unfold oc at hL
  cases m1:Pe (fun u=>ĺ u.1 u.2 s) (x.2.2.1:List (Int×Int)) with
  |none=>rw[m1] at hL; cases hL
  |some l1 =>
  rw[m1] at hL
  cases m2:Pe (fun i=>Λ x s i) (xV (x.2.2.2.1:List (Val Ń)).length) with
  |none=>simp only[Å,m2] at hL; cases hL
  |some l2 =>
  cases m3:Pe (fun i=>Ľ x s i) (xV (x.2.2.2.2.1:List (Val È)).length) with
  |none=>simp only[Å,m2,m3] at hL; cases hL
  |some l3 =>
  cases m4:Pe (fun u=>ĺ u.1 u.2 s) (x.2.2.2.2.2:List (Int×Int)) with
  |none=>simp only[Å,m2,m3,m4] at hL; cases hL
  |some l4 =>
  simp only[Å,m2,m3,m4] at hL;cases hL;exact⟨l1,l2,l3,l4,rfl,rfl,rfl,rfl,rfl⟩
 -- the blocks
 obtain⟨T,Hh⟩:=S;dsimp only at q1 q2 q48 qh h78';subst qh;have p1:=s6.tmps 1;have p2:=s6.tmps 2;have p48:=s6.tmps 48;dsimp only at p1 p2 p48;rw[q1] at p1;rw[q2] at p2;rw[q48] at p48;obtain⟨rb,te1,n1,hrb⟩:=ae9 (id:=1) (n:=0) s6.heap rfl;have hB2:BR ν (ckH x s 0) w6 2 (.cells (flat Ã x)):=s6.heap.blk 2;have hB3:BR ν (ckH x s 0) w6 3 (.cells [.mp tI Ï s]):=s6.heap.blk 3;have hB4:BR ν (ckH x s 0) w6 4 (.cells [.fn (.func 175) [] [.box 3 0]]):=s6.heap.blk 4;obtain⟨bb,cb,te,n2,hbb,hb2⟩:=hB2;obtain⟨sb,cs3,te3,n3,hsb,hb3⟩:=hB3;obtain⟨tb,cs4,te2,n4,htb,hb4⟩:=hB4;obtain⟨mv,z3,hm3⟩:=hb3.one;obtain⟨fv,z4,hm4⟩:=hb4.one;have hmv:CR w6 noG (.map tI Ï) s [mv]:=CR.mono (fun _ hf=>hf.elim) (show CR w6 (Av ν (ckH x s 0)) (.map tI Ï) s [mv] from hm3.1)
 have hc3:cs3=#[mv]:=by rw[←dX,z3]
 have hfv:fv=.func (.func 175) #[] #[.pointer (some ⟨sb,0,none⟩)]:=by
  obtain⟨fs,cs,h1,h2,h3⟩:=hm4.1
  have e1:fs=#[]:=by rw[←dX]; exact h2.nil_left
  obtain⟨u,e2,h4⟩:=h3.one;have e3:u=.pointer (some ⟨sb,0,none⟩):=AA (w:=w6) (id:=3) (off:=0) h4 n3
  have e4:cs=#[.pointer (some ⟨sb,0,none⟩)]:=by rw[←dX,e2,e3]
  rw[h1,e1,e4]
 have hc4:cs4=#[fv]:=by rw[←dX,z4]
 rw[hc3] at hsb;rw[hc4,hfv] at htb
 have hg:a6.tmps.getD 48 undef=.func (.func 178) #[] #[.pointer (some ⟨bb,0,none⟩),.pointer (some ⟨tb,0,none⟩),.pointer (some ⟨sb,0,none⟩)]:=by
  obtain⟨fs,cs,h1,h2,h3⟩:=p48
  have e1:fs=#[]:=by rw[←dX]; exact h2.nil_left
  have hl:=h3.length
  obtain⟨u1,u2,u3,e2⟩:∃u1 u2 u3,cs.toList=[u1,u2,u3]:=by
   rcases hcs:cs.toList with _|⟨u1,_|⟨u2,_|⟨u3,_|⟨u4,t⟩⟩⟩⟩<;>rw[hcs] at hl<;>simp at hl
   exact⟨u1,u2,u3,rfl⟩
  rw[e2] at h3;have e3:u1=.pointer (some ⟨bb,0,none⟩):=AA (w:=w6) (id:=2) (off:=0) h3.1 n2;have e4:u2=.pointer (some ⟨tb,0,none⟩):=AA (w:=w6) (id:=4) (off:=0) h3.2.1 n4;have e5:u3=.pointer (some ⟨sb,0,none⟩):=AA (w:=w6) (id:=3) (off:=0) h3.2.2.1 n3;rw[h1,e1];congr 1;rw[←dX,e2,e3,e4,e5]
 have hseq:=apE m1 m2 m3 m4 hlens hbb (asH hb2) htb hsb hmv;have h2:=AA p2 n1;have hsz:78≤a6.tmps.size:=dG h78' s6.len
 have hkeep:∀b,b<w.heap.size→w6.heap[b]?=w.heap[b]?∧¬aie ν (ckH x s 0) b:=fun b hb=>t6.keep b hb fun⟨_,h,_⟩=>by cases h
 have hdef:a6.defers=[]:=s6.defers;show ckRF.wpIn Fence.wide 2 Tryz.prog (Exit.then (Xy.wpIn Fence.wide 2 Tryz.prog (bodyPostM Fence.wide 2 Tryz.prog Tryz.f43 (Dk G y w))) (bodyPostM Fence.wide 2 Tryz.prog Tryz.f43 (Dk G y w))) a6 w6;rw[asz];refine wpIn_block (arX hseq hg h2 hsz hrb (fun D W hall hbel hDl hDo=>?_) (fun D W z hz hput hDl hDo=>?_))
 ·have hck:ckS x=some y:=by
   have:(l1++(l2++(l3++l4))).find? (fun e=>e != 0)=none:=ew.2 fun z hz=>by rw[hall z hz]; simp
   rw[this] at hLy;exact hLy
  exact asy (s:=s) hck s6.heap hbel hDl hDo (by show ai2 D::a6.defers=_; rw[hdef]) hsz p1 p2 hkeep t6.size t6.os t6.tape t6.output
 ·have hzy:z=y:=by
   rw[hz] at hLy;simpa using hLy
  subst hzy;obtain⟨te5,hcell⟩:=hput.cell;have hlb:=ē hrb;have hlive:aie ν (ckH x s 0) rb:=⟨1,rfl,by rw[n1]; rfl⟩
  exact ajz (a:={a6 with defers:=ai2 D::a6.defers}) (w:=W) (by show ai2 D::a6.defers=_; rw[hdef]) hDo h2 hcell
   (fun b hb=>(hput.block b (by have:=t6.size; omega) (fun e=>(hkeep b hb).2 (e▸hlive))).trans (hkeep b hb).1) (by have:=t6.size; omega) (by have:=t6.size; have:=hput.size; omega) (hput.os.trans t6.os) (hput.tape.trans t6.tape) (hput.output.trans t6.output)
def ŝ:kw Tryz.prog 43 Ś:=fun G x y hF w vals hG hAL=>ak3 G x y hF w vals hG hAL
end Go.Proofs.ZzM
end

noncomputable section
set_option maxRecDepth 100000
namespace Go.Proofs.ZzM
open Go Go.Am Go.RowKit
abbrev cP:Type:=Val (tyL jc)
abbrev cV:Type:=Val (tyL m5)
abbrev cS (p:cP) (v:cV):St:=jp uf jc m5 p v
abbrev cU (p:cP) (v:cV) (x:Val Ï):St:=jp QQ jc AR p (Eb v x)
def aqu (im:List (Int×Bool)) (n:Int):oD Tryz.prog [.map tI .bool im] 182 (.omp 0) (.int .i64 n) false some=(match (tV (k:=tI) (v:=.bool) n im:Option Bool) with|some y=>some (.bool y)|none=>some (.bool false)):=by kernel_rfl
noncomputable def MapAt (W:World) (mb:Nat) (im:List (Int×Bool)):Prop:=∃(entries:Array MapEntry) (clock:Nat),W.heap[mb]?=some (.map entries clock)∧entries.size=im.length∧∀(i:Nat) (e:Int×Bool),im[i]?=some e→∃m,entries[i]?=some m∧m.key=.int .i64 e.1∧m.val=.bool e.2
noncomputable def Mk (im:List (Int×Bool)) (n:Int):Bool:=((tV (k:=tI) (v:=.bool) n im:Option Bool)).getD false
def ap3 {W:World} {mb:Nat} {im:List (Int×Bool)} (h:MapAt W mb im) (n:Int):(Instr.lookup 182 (.map (some mb)) (.int .i64 n) false).run Tryz.prog W=.ok (.bool (Mk im n)) W:=by
 letI:ô:=⟨fun _=>False,[],none⟩
 obtain⟨entries,clock,h1,h2,h3⟩:=h
 have H:HR (fun _=>.map (some mb)) [.map tI .bool im] W:=by
  refine⟨fun id=>?_,fun i j b hi hj _ _=>?_,fun b hb=>hb.elim,fun id b _ _ hb=>hb.elim⟩
  ·rcases id with _|id
   ·refine⟨mb,entries,clock,rfl,h1,h2,fun i e he=>?_⟩;obtain⟨m,q1,q2,q3⟩:=h3 i e he;exact⟨m,[.bool e.2],q1,by rw[q2]; rfl,rfl,by rw[q3]; rfl⟩
   ·rw[W6 _ _ (by simp)]; trivial
  ·have one:∀i,(lkB [Blk.map tI .bool im] i).live=true→i=0:=fun i hi=>by
    rcases i with _|i
    ·rfl
    ·rw[W6 _ _ (by simp)] at hi; cases hi
   rw[one i hi,one j hj]
 have hom:VR (fun _=>.map (some mb)) [.map tI .bool im] W (.omp 0) (.map (some mb)):=⟨rfl,_,_,_,rfl,rfl⟩
 have hk:oD Tryz.prog [.map tI .bool im] 182 (.omp 0) (.int .i64 n) false some=some (.bool (Mk im n)):=by
  rw[aqu];unfold Mk
  cases(tV (k:=tI) (v:=.bool) n im:Option Bool)<;>rfl
 obtain⟨u,q1,q2⟩:=ae0 H hk hom (ui:=.int .i64 n) rfl;rw[q1];have:u=.bool (Mk im n):=q2;rw[this]
noncomputable def gz (l:List (Val Ï)) (j:Nat):Val Ï:=l[j]?.getD (0,0,0,(0,0),(0,0),0)
def ahE {w:World} {av:Nat→Prop} {g:Val Ï} {us:List Value} (h:CR w av Ï g us) :
 us=[.int .i64 g.1,.int .i64 g.2.1,.int .i64 g.2.2.1,.int .i64 g.2.2.2.1.1,.int .i64 g.2.2.2.1.2,.int .i64 g.2.2.2.2.1.1,.int .i64 g.2.2.2.2.1.2,.int .i64 g.2.2.2.2.2]:=by
 obtain⟨a1,r1,rfl,h1,a2,r2,rfl,h2,a3,r3,rfl,h3,a4,r4,rfl,⟨b1,b2,rfl,h4,h5⟩,⟨b3,r5,rfl,⟨b5,b6,rfl,h6,h7⟩,h8⟩⟩:=h;have e1:a1=[.int .i64 g.1]:=h1;have e2:a2=[.int .i64 g.2.1]:=h2;have e3:a3=[.int .i64 g.2.2.1]:=h3;have e4:b1=[.int .i64 g.2.2.2.1.1]:=h4;have e5:b2=[.int .i64 g.2.2.2.1.2]:=h5;have e6:b5=[.int .i64 g.2.2.2.2.1.1]:=h6;have e7:b6=[.int .i64 g.2.2.2.2.1.2]:=h7;have e8:r5=[.int .i64 g.2.2.2.2.2]:=h8;subst e1 e2 e3 e4 e5 e6 e7 e8;rfl
noncomputable def KNd (w1:World) (R:Nat→Prop) (tb:Nat) (im:List (Int×Bool)) (W:World):Prop:=w1.heap.size≤W.heap.size∧(∀b,R b→W.heap[b]?=w1.heap[b]?)∧tb<w1.heap.size∧∃mb,mb<w1.heap.size∧W.cell? ⟨tb,0,none⟩=some (.map (some mb))∧MapAt W mb im
def KNd.below {w1 W W':World} {R:Nat→Prop} {tb:Nat} {im:List (Int×Bool)} (hR:∀b,R b→b<w1.heap.size) (h:KNd w1 R tb im W) (hz:W.heap.size≤W'.heap.size) (hb:∀b,b<w1.heap.size→W'.heap[b]?=W.heap[b]?):KNd w1 R tb im W':=by
 obtain⟨h1,h2,h3,mb,h4,h5,en,cl,h6,h7,h8⟩:=h;exact⟨dG h1 hz,fun b hr=>(hb b (hR b hr)).trans (h2 b hr),h3,mb,h4,by rw[World.cell?_of_block (w:=W) (hb tb h3)]; exact h5,en,cl,(hb mb h4).trans h6,h7,h8⟩
def KNd.grown {w1 W W':World} {R:Nat→Prop} {tb:Nat} {im:List (Int×Bool)} (hR:∀b,R b→b<w1.heap.size) (h:KNd w1 R tb im W) (hg:W.grownBy W' none):KNd w1 R tb im W' :=
 h.below hR hg.size fun b hb=>hg.block b (dF hb h.1) (by simp)
def ae3 {f:AV→Bool} (h0:f .any=true):∀(l:List AV),l.all f=true→∀i,f (lk l i)=true
 |[],_,i=>by cases i<;>exact h0
 |x::l,h,0=>by simp only[fZ,cZ] at h; exact h.1
 |x::l,h,i+1=>by simp only[fZ,cZ] at h; exact ae3 h0 l h.2 i
def aaY {f:Blk→Bool} (h0:f .dead=true):∀(l:List Blk),l.all f=true→∀i,f (lkB l i)=true
 |[],_,i=>by cases i<;>exact h0
 |x::l,h,0=>by simp only[fZ,cZ] at h; exact h.1
 |x::l,h,i+1=>by simp only[fZ,cZ] at h; exact aaY h0 l h.2 i
def cS_mf (p:cP) (v:cV):(cS p v).h.all mfB=true:=by kernel_rfl
def cU_mf (p:cP) (v:cV) (x:Val Ï):(cU p v x).h.all mfB=true:=by kernel_rfl
def cU_mft (p:cP) (v:cV) (x:Val Ï):(cU p v x).t.all mfV3=true:=by kernel_rfl
def cR_mf (y:Val Ã):(jp qq [] jO () (lp y)).h.all mfB=true:=by kernel_rfl
def cR_mft (y:Val Ã):(jp qq [] jO () (lp y)).t.all mfV3=true:=by kernel_rfl
noncomputable def pin0 (m:Nat):AV→Bool
 |.any=>true
 |.box id _=>Nat.blt id m
 |_=>false
noncomputable def pin3 (m:Nat):AV→Bool
 |.fn _ a b=>a.all (pin0 m)&&b.all (pin0 m)
 |a=>pin0 m a
section
variable [ô] {ν ν':Nat→Value} {h h':List Blk} {w w':World} {m:Nat}
def VR0.pin (e:Ev m ν h w ν' h' w') {a:AV} {v:Value} (hp:pin0 m a=true) (hv:VR0 ν h w a v):VR0 ν' h' w' a v:=by
 cases a with
 |any=>trivial
 |box id off =>
  obtain⟨cs,b,hl,h1,h2⟩:=hv;have hlt:id<m:=fV hp;have hb:=e.blk id hlt;rw[hl] at hb;obtain⟨⟨cs',hl'⟩,he⟩:=hb;exact⟨cs',b,hl',by rw[he]; exact h1,h2⟩
 |_=>cases hp
def VR.pin (e:Ev m ν h w ν' h' w') {a:AV} {v:Value} (hp:pin3 m a=true) (hv:VR ν h w a v):VR ν' h' w' a v:=by
 cases a with
 |fn f fa fb =>
  obtain⟨fs,cs,h1,h2,h3⟩:=hv;simp only[pin3,cZ,dN] at hp;exact⟨fs,cs,h1,h2.mem fun a ha _=>VR0.pin e (hp.1 a ha),h3.mem fun a ha _=>VR0.pin e (hp.2 a ha)⟩
 |any=>trivial
 |box id off=>exact VR0.pin (a:=.box id off) e (show pin0 m (.box id off)=true from hp) hv
 |_=>cases hp
end
def arD (p:cP) (v:cV):(cS p v).t.all (pin3 9)=true:=by kernel_rfl
def cS_len (p:cP) (v:cV):(cS p v).h.length=10:=by kernel_rfl
def cU_len (p:cP) (v:cV) (x:Val Ï):(cU p v x).h.length=11:=by kernel_rfl
def cS_t (p:cP) (v:cV) (z:List (Val Ï)):(cS p (ĝ v z)).t=(cS p v).t:=by kernel_rfl
def cS_5 (p:cP) (v:cV):∃a b us lo co ko,lkB (cS p v).h 5=.cells [.int .i64 a,.int .i64 b,.slc Ï (ñ v),.slc Â us,.slc Ń lo,.slc È co,.slc Â ko]:=⟨_,_,_,_,_,_,rfl⟩
def cS_6 (p:cP) (v:cV):lkB (cS p v).h 6=.cells [.omp 7]:=by kernel_rfl
def cS_7 (p:cP) (v:cV):lkB (cS p v).h 7=.map tI .bool (œ v):=by kernel_rfl
def cS_59 (p:cP) (v:cV):lk (cS p v).t 59=.fn (.func 212) [] [.box 5 0,.box 6 0]:=by kernel_rfl
noncomputable def ae8:Blk→Bool
 |.map _ _ _=>true
 |_=>false
def ah4 (p:cP) (v:cV):(cS p v).h.map ae8=[false,false,false,false,false,false,false,true,true,false]:=by kernel_rfl
def asE (p:cP) (v:cV) (x:Val Ï):(cU p v x).h.map ae8=[false,false,false,false,false,false,false,true,true,false,false]:=by kernel_rfl
def KH:∀(l:List Blk) (i:Nat),ae8 (lkB l i)=true→(l.map ae8)[i]?=some true
 |[],i,h=>by cases i<;>cases h
 |x::l,0,h=>by have:ae8 x=true:=h; simp[this]
 |x::l,i+1,h=>by simpa using KH l i h
def ai3 {l:List Blk} {t:List Bool} (hl:l.map ae8=[false,false,false,false,false,false,false,true,true]++t) (ht:∀b∈t,b=false) {id:Nat} {k u:Ty} {es:List (Val k×Val u)} (h:lkB l id=.map k u es):id=7∨id=8:=by
 have:=KH l id (by rw[h]; rfl);rw[hl] at this
 rcases id with _|_|_|_|_|_|_|_|_|id<;>simp at this ⊢
 have:=ht _ (dg this);cases this
noncomputable def ary {ρ:Type}:List (Val Ï)→Option ρ→Option ρ
 |[],x=>x
 |_::_,_=>none
def ahN {ρ:Type} {l:List (Val Ï)} {x:Option ρ} {r:ρ} (h:ary l x=some r):l=[]∧x=some r:=by
 cases l with
 |nil=>exact⟨rfl,h⟩
 |cons=>cases h
noncomputable def cutK (p:cP) (v:cV):Option (Val Ã):=ary (vQ v) (Å (A4 (ñ v) (œ v)) fun z=>nO p (ĝ v z) some)
def anb {l:List (Val Ï)} {im:List (Int×Bool)} {z:List (Val Ï)} (h:A4 l im=some z):ã l.length=true∧z=(TH (fun j=>Mk im (gz l j).1) l.length).map (gz l):=by
 unfold A4 at h;simp only[è] at h
 split at h
 ·rename_i ho;cases h;refine⟨ho,?_⟩
  have key:∀(n:Nat),n≤l.length→(l.take n).filter (fun g=>((tV (k:=tI) (v:=.bool) g.1 im:Option Bool)).getD false)=(TH (fun j=>Mk im (gz l j).1) n).map (gz l):=by
   intro n
   induction n with
   |zero=>intro _; rfl
   |succ n ih =>
    intro hn
    have hg:l[n]?=some (gz l n):=by simp[gz,cX (show n<l.length from hn)]
    rw[List.take_succ,gJ,ih (by omega),ER,hg];have:((tV (k:=tI) (v:=.bool) (gz l n).1 im:Option Bool)).getD false=Mk im (gz l n).1:=rfl;simp only[Option.toList_some,ej,eA,this]
    split<;>simp
  have:=key l.length (cY _)
  rwa [gT] at this
 ·cases h
def apR {n m:Nat} (h:ã n=true) (hm:m≤n):ã m=true:=by
 unfold ã at h ⊢;simp only[Bool.and_eq_true,decide_eq_true_eq] at h ⊢
 first|omega|(constructor<;>omega)
def ajS {G:Nat→Prop} {D D':List Deferred} {Q Q':Option Nat} {ν:Nat→Value} {h:List Blk} {w:World} {a:AV} {v:Value} (hv:@VR ⟨G,D,Q⟩ ν h w a v):@VR ⟨G,D',Q'⟩ ν h w a v:=hv
def AQ [ô] {ν2 ν':Nat→Value} {h1 h':List Blk} {w1 W:World} (H1:HR ν2 h1 w1) (ev:Ev 9 ν2 h1 w1 ν' h' W) (hl1:∀id,id=7∨id=8→∃k u es,lkB h1 id=.map k u es)
 {t:List Bool} (hl:h'.map ae8=[false,false,false,false,false,false,false,true,true]++t) (ht:∀b∈t,b=false):aoX w1.heap.size ν' h':=by
 intro id k u es b hm hν
 have h9:id<9:=by rcases ai3 hl ht hm with rfl|rfl<;>omega
 obtain⟨k1,u1,es1,h7⟩:=hl1 id (ai3 hl ht hm);have hb:=ev.blk id h9;rw[h7] at hb;obtain⟨_,he⟩:=hb;have hB:=H1.blk id;rw[h7] at hB;obtain⟨b0,_,_,q1,q2,_⟩:=hB;rw[he,q1] at hν;cases hν;exact ē q2
def aqT (p:cP) (v:cV):∀id,id=7∨id=8→∃k u es,lkB (cS p v).h id=.map k u es:=by
 rintro id (rfl|rfl)
 ·exact⟨_,_,_,rfl⟩
 ·exact⟨_,_,_,rfl⟩
noncomputable def CI (G:Nat→Prop) (p:cP) (v:cV) (ν2:Nat→Value) (w1:World) (pre:List Nat) (W:World):Prop :=
 ∃ν',@HR ⟨G,[],none⟩ ν' (cS p (ĝ v (pre.map (gz (ñ v))))).h W∧Ev 9 ν2 (cS p v).h w1 ν' (cS p (ĝ v (pre.map (gz (ñ v))))).h W
def CI.own {G:Nat→Prop} {p:cP} {v:cV} {ν2:Nat→Value} {w1:World} (H1:@HR ⟨G,[],none⟩ ν2 (cS p v).h w1):OwnFrom w1.heap.size (CI G p v ν2 w1):=by
 intro pre W W' row hI hg hr
 letI:ô:=⟨G,[],none⟩
 obtain⟨ν',H,ev⟩:=hI;have hml:=AQ H1 ev (aqT p v) (ah4 _ _) (t:=[false]) (by simp);refine⟨ν',H.ckeep (SY hg hr) (fun id k u es b hl hν=>?_) (aaY rfl _ (cS_mf _ _)),ev.own hg fun r e=>(hr r e).1⟩;have hb:=hml id k u es b hl hν
 exact hg.block b (dF hb ev.size) fun e=>by have:=(hr b e.symm).1; omega
def CI.nd {G:Nat→Prop} {p:cP} {v:cV} {ν2:Nat→Value} {w1 W:World} {pre:List Nat} {R:Nat→Prop} {tb:Nat} (H1:@HR ⟨G,[],none⟩ ν2 (cS p v).h w1) (hR:∀b,R b→b<w1.heap.size∧¬aie ν2 (cS p v).h b) (htb:ν2 6=.pointer (some ⟨tb,0,none⟩)) (hI:CI G p v ν2 w1 pre W):KNd w1 R tb (œ v) W:=by
 letI:ô:=⟨G,[],none⟩
 obtain⟨ν',H,ev⟩:=hI;have h6:=H1.blk 6;rw[cS_6] at h6;obtain⟨b6,_,_,q1,q2,_⟩:=h6;rw[htb] at q1;cases q1;have h7:=H1.blk 7;rw[cS_7] at h7;obtain⟨mb,_,_,r1,r2,_⟩:=h7;have e6:=ev.blk 6 (by omega);rw[cS_6] at e6;have e7:=ev.blk 7 (by omega);rw[cS_7] at e7;have k6:=H.blk 6;rw[show lkB (cS p (ĝ v (pre.map (gz (ñ v))))).h 6=.cells [.omp 7] from cS_6 _ _] at k6;obtain⟨b,c,e,s1,s2,s3⟩:=k6;rw[e6.2,htb] at s1;cases s1;obtain⟨mv,s4,s5⟩:=s3.one;obtain⟨_,k,u,es,_,s6⟩:=s5.1;have k7:=H.blk 7;rw[show lkB (cS p (ĝ v (pre.map (gz (ñ v))))).h 7=.map tI .bool (œ v) from cS_7 _ _] at k7;obtain⟨mb',en,cl,t1,t2,t3,t4⟩:=k7;have e1:mv=.map (some mb'):=s6.trans t1
 have e2:mb'=mb:=by rw[e7.2,r1] at t1; cases t1; rfl
 subst e2;refine⟨ev.size,fun b hb=>(ev.keep b (hR b hb).1 (hR b hb).2).1,ē q2,mb',ē r2,?_,en,cl,t2,t3,fun i x hx=>?_⟩
 ·have hc:c=#[mv]:=by rw[←dX,s4]
  rw[hc,e1] at s2;simp[World.cell?,s2]
 ·obtain⟨m,us,u1,u2,u3,u4⟩:=t4 i x hx;have v1:[m.key]=[.int .i64 x.1]:=u2;have v2:us=[.bool x.2]:=u3;refine⟨m,u1,by simpa using v1,?_⟩;rw[u4,v2];rfl
def akX:drawn (Am.rfA (Am.rfC 7 Ğ))=false:=by kernel_rfl
def akW:drawn (Am.rfB (Am.rfC 7 Ğ))=false:=by kernel_rfl
def akV:î 4 (Am.rfA (Am.rfC 7 Ğ))=[]:=by kernel_rfl
def akU:î 4 (Am.rfB (Am.rfC 7 Ğ))=[]:=by kernel_rfl
def abk [ô] (ρ:Type):mo (ę ρ) 2 (ks (ę ρ) 10):=by
 have hlib:NL (ę ρ):=RZ QP (ę ρ) rfl rfl rfl rfl rfl (il rfl);have hdraw:∀L call,mo (ę ρ) L call→mE (ę ρ) L call:=EG hmix;have hcall:=ng (.inr fun _=>rfl) hlib hdraw (fun n hn hE path f fn c hp hf hc=>Hx (tab:=rU ρ) rfl LM hn hE (hdraw _ _ hE) hp hf hc) 10 (cY _);exact⟨.inr (qN 9),hcall,hlib.plain,hlib.clone,hlib.joins⟩
def anJ {G:Nat→Prop} {p:cP} {v:cV} {ν2:Nat→Value} {a:Act} {w1:World} (H1:@Sim ⟨G,[],none⟩ ν2 (cS p v) a w1) (l:Nat) (pre:List Nat) (x:Nat) (W:World) (hl:w1.heap.size≤l) (hI:CI G p v ν2 w1 pre W) (hok:ã (pre.length+1)=true) {u:Value} (hu:∀[ô] (ν:Nat→Value) (h:List Blk) (w:World),VR ν h w (.agg (flat Ï (gz (ñ v) x))) u) :
 (Am.rfA (Am.rfC 7 Ğ)).wpIn (Fence.wide.inRound l) 0 Tryz.prog (Exit.then (fun a' Wa=>KeepsFrom w1.heap.size W Wa∧∀r',(∃r,Wa.heap[l]?=some (.loop r)) →
  (Am.rfB (Am.rfC 7 Ğ)).wpIn (Fence.wide.inRound l) 0 Tryz.prog (Exit.then (fun _ W3=>KeepsFrom w1.heap.size (Wa.putObj l (.loop r')) W3∧CI G p v ν2 w1 (pre++[x]) W3) (fun _ _ _=>False)) a' (Wa.putObj l (.loop r'))) (fun _ _ _=>False)) {tmps:=a.tmps.setIfInBounds 60 u,defers:=[]} W:=by
 letI:ô:=⟨G,[],some l⟩
 have H1h:HR ν2 (cS p v).h w1:=HR_ghost (@Sim.heap ⟨G,[],none⟩ _ _ _ _ H1);obtain⟨ν',H0,ev⟩:=hI;have H:HR ν' (cS p (ĝ v (pre.map (gz (ñ v))))).h W:=HR_ghost H0;obtain⟨v',hv'⟩:∃v',v'=ĝ v (pre.map (gz (ñ v))):=⟨_,rfl⟩;rw[←hv'] at H ev
 have ht:(cS p v').t=(cS p v).t:=by rw[hv']; exact cS_t _ _ _
 have hml:=AQ H1h ev (aqT p v) (ah4 _ _) (t:=[false]) (by simp)
 have simA:Sim ν' (cS p v') {tmps:=a.tmps,defers:=[]} W:=by
  refine⟨rfl,?_,fun i=>?_,H⟩
  ·rw[ht]; show _≤a.tmps.size; exact @Sim.len ⟨G,[],none⟩ _ _ _ _ H1
  ·rw[ht]; exact VR.pin ev (ae3 rfl _ (arD p v) i) (ajS (@Sim.tmps ⟨G,[],none⟩ _ _ _ _ H1 i))
 have sim0:=simA.put (Ev.refl _ _ _ _) H (some 60) (hu ν' _ W);have hEnv:=abk (cP×Val (tyL AR));have hgo:=KP hEnv (path:=[]) rfl (Am.rfA (Am.rfC 7 Ğ)) 4 _ _ ν' _ W (fun h=>by rw[akX] at h; cases h) (fun z hz=>by rw[akV] at hz; cases hz) (akx p v' (gz (ñ v) x) fun p u=>some (p,u)) sim0 (dG (show 9≤10 by decide) (Nat.le_of_eq (cS_len p v').symm));refine wpIn_mono hgo fun e a' Wa ha=>?_;obtain⟨νa,Sa,sA,evA,lenA,ddA,kA⟩:=ha;obtain⟨rfl,p',u',hm',hk'⟩:=Fy kA;cases hk';obtain⟨νb,sB,evB,lB,dB⟩:=Fw _ _ _ _ _ _ _ νa a' Wa hm' sA;have evAB:Ev 9 ν' (cS p v').h W νb (cU p v' (gz (ñ v) x)).h Wa:=evA.trans evB (cY _);have evT:=ev.trans evAB (cY _);have hmu:=AQ H1h evT (aqT p v) (asE _ _ _) (t:=[false,false]) (by simp);refine⟨L4 H hml evAB,fun r' ⟨r,hr⟩=>?_⟩;have hlt:l<Wa.heap.size:=ē hr
 have K:Ρ Wa (Wa.putObj l (.loop r')):=⟨by simp[World.putObj],fun b c e q hb=>by
  rw[World.putObj_heap_other (fun e'=>by subst e'; rw[hr] at hb; cases hb)]; exact hb⟩
 have sC:Sim νb (cU p v' (gz (ñ v) x)) a' (Wa.putObj l (.loop r')):=sB.ckeep K (fun id k q es b hb hν=>World.putObj_heap_other (by have:=hmu id k q es b hb hν; omega)) (aaY rfl _ (cU_mf _ _ _)) (ae3 rfl _ (cU_mft _ _ _))
 have evO:Ev 9 ν2 (cS p v).h w1 νb (cU p v' (gz (ñ v) x)).h (Wa.putObj l (.loop r')):=evT.own (grownBy_putObj' Wa l _) fun q e=>by cases e; exact hl
 have hEnv2:=abk (cP×cV);have law:=akw p v' (gz (ñ v) x) fun p v=>some (p,v)
 have hrow:vQ v'=pre.map (gz (ñ v)):=by rw[hv']; rfl
 rw[hrow] at law;simp only[dY,dj,dE,du,hok,è] at law;have hgo2:=KP hEnv2 (path:=[]) rfl (Am.rfB (Am.rfC 7 Ğ)) 4 _ _ νb _ _ (fun h=>by rw[akW] at h; cases h) (fun z hz=>by rw[akU] at hz; cases hz) law sC (dG (show 9≤11 by decide) (Nat.le_of_eq (cU_len p v' (gz (ñ v) x)).symm));refine wpIn_mono hgo2 fun e a3 W3 hb=>?_;obtain⟨νc,Sc,sD,evC,lenC,ddC,kC⟩:=hb;obtain⟨rfl,p',u',hm',hk'⟩:=Fy kC;cases hk';obtain⟨νd,sE,evD,lD,dD⟩:=Fw _ _ _ _ _ _ _ νc a3 W3 hm' sD;have evCD:=evC.trans evD (cY _);refine⟨L4 sC.heap hmu evCD,νd,?_⟩
 have hput:ĝ v' (pre.map (gz (ñ v))++[gz (ñ v) x])=ĝ v ((pre++[x]).map (gz (ñ v))):=by
  rw[hv',gG]; rfl
 rw[←hput];exact⟨HR_ghost sE.heap,evO.trans evCD (cY _)⟩
noncomputable def aif (G:Nat→Prop) (y:Val Ã) (w:World) (e:Ending) (w':World):Prop :=
 ∃u,e=.returned u∧RR w' G [Ã] y u∧(∀b,b<w.heap.size→w'.heap[b]?=w.heap[b]?)∧w.heap.size≤w'.heap.size∧w'.os=w.os∧w'.tape=w.tape∧w'.output=w.output
noncomputable def ahO (u:Val (tyL jO)):Val Ã:=((u.1,u.2.1),u.2.2.1,u.2.2.2.1,u.2.2.2.2.1,u.2.2.2.2.2.1,u.2.2.2.2.2.2)
def aqw (p:cP) (v:cV):nO p v (fun y=>(fun u=>some (ahO u)) (lp y))=nO p v some:=by kernel_rfl
def anH (u:Val (tyL jO)):lp (ahO u)=u:=by kernel_rfl
def asF (y:Val Ã):(jp qq [] jO () (lp y)).h.map ae8=[false]:=by kernel_rfl
def aqt {G:Nat→Prop} {p:cP} {v:cV} {y:Val Ã} {ν:Nat→Value} {a:Act} {w0 W:World} {D:Nat} (H:@Sim ⟨G,[],none⟩ ν (cS p v) a W) (hB:nO p v some=some y) (hD:W.heap[D]?=some (.deferred (some []))) (hnl:¬aie ν (cS p v).h D)
 (hev:Ev 0 (fun _=>undef) [] w0 ν (cS p v).h W) (hDl:w0.heap.size≤D) :
 (Am.postC 7 Ğ).wpIn Fence.wide 2 Tryz.prog (bodyPostM Fence.wide 2 Tryz.prog Tryz.f79 (aif G y w0)) {a with defers:=ai2 D::a.defers} W:=by
 have hdf:a.defers=[]:=@Sim.defers ⟨G,[],none⟩ _ _ _ _ H
 letI:ô:=⟨G,[ai2 D],none⟩
 have sim:Sim ν (cS p v) {a with defers:=ai2 D::a.defers} W:=⟨by show ai2 D::a.defers=[ai2 D]; rw[hdf],(show _≤a.tmps.size from @Sim.len ⟨G,[],none⟩ _ _ _ _ H),fun i=>ajS (@Sim.tmps ⟨G,[],none⟩ _ _ _ _ H i),HR_ghost (@Sim.heap ⟨G,[],none⟩ _ _ _ _ H)⟩;have hEnv:=abk (Val Ã);have hdraw:∀L call,mo (ę (Val Ã)) L call→mE (ę (Val Ã)) L call:=EG hmix;have law:=ad3 p v fun u=>some (ahO u);rw[aqw,hB] at law
 have hL:∀z∈î 0 (Am.postC 7 Ğ),qQ (ę (Val Ã)) [] 79 z.1 z.2:=fun z hz =>
  Hx (E:=ę (Val Ã)) (tab:=rU _) rfl LM (n:=10) (cY _) hEnv (hdraw _ _ hEnv) rfl Tryz.func79 rV z (ai6 7 Ğ 0 Gt hz)
 have hgo:=l7 hEnv (hdraw _ _ hEnv) rfl (Am.postC 7 Ğ) 0 _ _ ν _ W hL law sim (eI _);rw[HO rfl] at hgo;refine wpIn_wide.2 (wpIn_wide.1 (wpIn_mono hgo fun e a' W' ha=>?_));obtain⟨νa,Sa,sA,evA,_,_,kA⟩:=ha;obtain⟨rfl,u,hm,hk⟩:=amN kA;cases hk;obtain⟨νb,sB,evB,_,_⟩:=Fw _ _ _ _ _ _ _ νa a' W' hm sA
 have hu:jp qq [] jO () u=jp qq [] jO () (lp (ahO u)):=by rw[anH]
 rw[hu] at sB evB;have evT:=(evA.trans evB (cY _));have hD':W'.heap[D]?=some (.deferred (some [])):=(evT.keep D (ē hD) hnl).1.trans hD;have hd':a'.defers=[ai2 D]:=sB.defers;show LeavesInM _ _ _ _ _ _ a'.defers _ _;rw[hd'];refine⟨by simp,.inl ⟨D,_,rfl,run_takeDeferred hD',?_⟩⟩;have hlt:=ē hD'
 have K:Ρ W' (W'.putObj D (.deferred none)):=⟨by simp[World.putObj],fun b c e q hb=>by
  rw[World.putObj_heap_other (fun e'=>by subst e'; rw[hD'] at hb; cases hb)]; exact hb⟩
 have sC:=sB.ckeep K (fun id k q es b hb hν=>by
  have:=KH _ id (by rw[hb]; rfl);rw[asF] at this
  rcases id with _|id<;>simp at this) (aaY rfl _ (cR_mf _)) (ae3 rfl _ (cR_mft _))
 obtain⟨uu,q1,q2⟩:=IV sC (ag0 (ahO u));have hall:=hev.trans evT (cY _);refine⟨uu,q1,uu,rfl,X1 sC.heap [Ã] q2 (show arg [Ã] _ (enc Ã (ahO u))=some (ahO u) from rfl),fun b hb=>?_,?_,hall.os,hall.tape,hall.output⟩
 ·rw[World.putObj_heap_other (by omega)];exact(hall.keep b hb fun⟨_,h,_⟩=>by cases h).1
 ·have:=hall.size;simpa[World.putObj] using this
def aqx (x:Val (.pair Ã (.pair (.slice Â) (.slice Â)))):Gu x.1 x.2.1 x.2.2 cutK=pS.F x:=by kernel_rfl
noncomputable def encG (g:Val Ï):Value:=.agg #[.int .i64 g.1,.int .i64 g.2.1,.int .i64 g.2.2.1,.int .i64 g.2.2.2.1.1,.int .i64 g.2.2.2.1.2,.int .i64 g.2.2.2.2.1.1,.int .i64 g.2.2.2.2.1.2,.int .i64 g.2.2.2.2.2]
def asp [ô] (g:Val Ï) (ν:Nat→Value) (h:List Blk) (w:World):VR ν h w (.agg (flat Ï g)) (encG g) :=
 ⟨_,rfl,⟨rfl,rfl⟩,⟨rfl,rfl⟩,⟨rfl,rfl⟩,⟨rfl,rfl⟩,⟨rfl,rfl⟩,⟨rfl,rfl⟩,⟨rfl,rfl⟩,⟨rfl,rfl⟩,trivial⟩
def aqv (G:Nat→Prop) (x:Val (tyL pS.ts)) (y:Val Ã) (hF:pS.F x=some y) (w:World) (vals:List Value) (hG:∀b,G b→b<w.heap.size) (hAL:AL w G pS.ts x vals) :
 (∃fn c,Tryz.prog.funcs[79]?=some fn∧fn.body=some c)∧CallsIn Fence.wide 0 Tryz.prog 79 vals.toArray w (aif G y w):=by
 letI:ô:=⟨G,[],none⟩
 have hlib:NL (Ű (Val Ã)):=RZ QP _ rfl rfl rfl rfl rfl (il rfl);have hdraw:∀L call,mo (Ű (Val Ã)) L call→mE (Ű (Val Ã)) L call:=EG hmix;have hloops:aid (Ű (Val Ã)):=fun n hn hE hD path f fn c hp hf hc=>Hx (tab:=Ea _) rfl ag2 hn hE hD hp hf hc;have hcall:=ng (.inl ⟨rfl,rfl⟩) hlib hdraw (fun n hn hE=>hloops n hn hE (hdraw _ _ hE)) 10 (cY _);have hEnv:mo (Ű (Val Ã)) 2 (ks (Ű (Val Ã)) 10):=⟨.inr (qN 9),hcall,hlib.plain,hlib.clone,hlib.joins⟩;have H:HR (fun _=>undef) [] w:=⟨fun _=>trivial,fun _ _ _ h=>(by cases h),hG,fun _ _ h=>(by cases h)⟩;have hav:∀b,Av (fun _=>undef) [] b→G b:=fun b hb=>hb.elim (fun⟨_,h,_⟩=>by cases h) id;have hargs:Ć (VR (fun _=>undef) [] w) (aft pS.ts x) vals:=AL.VR (hAL.mono hav);refine⟨⟨Tryz.f79,_,Tryz.func79,rV⟩,?_⟩;have hlen:vals.length=3:=hargs.length.symm;refine callsIn_wide.2 (callsIn_wide.1 (callsIn_of_wp_marks (n:=2) Tryz.func79 rV trivial ?_ (R:=aif G y w)))
 have hS:Sim (fun _=>undef) {t:=aft pS.ts x++List.replicate 127 .any,h:=[]} {tmps:=vals.toArray++Array.replicate (Tryz.f79.ntmps-vals.toArray.size) undef,defers:=[]} w:=by
  refine⟨rfl,?_,fun i=>?_,H⟩
  ·have:Tryz.f79.ntmps=130:=by kernel_rfl
   have hl2:(aft pS.ts x).length=3:=rfl;simp[this,hlen,hl2]
  ·simp only[RX];rcases dA i (aft pS.ts x).length with hi|hi
   ·have:=Ć.lk (R:=VR (fun _=>undef) [] w) (fun _=>trivial) i hargs
    have hv:i<vals.length:=by rw[←hargs.length]; exact hi
    have h2:(vals.toArray++Array.replicate (Tryz.f79.ntmps-vals.toArray.size) undef).getD i undef=vals.getD i undef:=by
     simp[dW,fc,hv]
    rw[h2]; exact this
   ·rw[am4 _ _ hi]; trivial
 have law:=(ag1 x cutK).trans ((aqx x).trans hF);refine peelN rfl hEnv (hdraw _ _ hEnv) rfl (path:=[]) rfl (fun e S hne h=>hne (Fy h).1) 7 Ğ _ _ _ _ Gt (fun z hz=>hloops 10 (cY _) hEnv (hdraw _ _ hEnv) [] 79 Tryz.f79 Ğ rfl Tryz.func79 rV z hz) law hS (fun ν1 S1 a1 w1 s1 e1 k1=>?_);obtain⟨_,p,v,hm,hk⟩:=Fy k1;obtain⟨hrow,hk⟩:=ahN hk
 cases hz:A4 (ñ v) (œ v) with
 |none=>rw[hz] at hk; cases hk
 |some z =>
 rw[hz] at hk;have hB:nO p (ĝ v z) some=some y:=hk;obtain⟨hzl,hzs⟩:=anb hz;obtain⟨ν2,s2,e2,_,_⟩:=Fw _ _ _ _ _ _ _ ν1 a1 w1 hm s1;have evw:=e1.trans e2 (cY _)
 have hv0:ĝ v []=v:=by rw[←hrow]; rfl
 have s2':Sim ν2 (cS p v) a1 w1:=s2
 -- the blocks
 obtain⟨fa,fb,us,lo,co,ko,h5⟩:=cS_5 p v;have hB5:=s2'.heap.blk 5;rw[h5] at hB5;obtain⟨bb,cb,te,n5,hbb,hc5⟩:=hB5;have hB6:=s2'.heap.blk 6;rw[cS_6] at hB6;obtain⟨tb,ct,tt,n6,htb,hc6⟩:=hB6;have hl5:=hc5.length
 obtain⟨u1,u2,u3,u4,u5,u6,u7,hcb⟩:∃u1 u2 u3 u4 u5 u6 u7,cb.toList=[u1,u2,u3,u4,u5,u6,u7]:=by
  rcases hcs:cb.toList with _|⟨u1,_|⟨u2,_|⟨u3,_|⟨u4,_|⟨u5,_|⟨u6,_|⟨u7,_|⟨u8,t⟩⟩⟩⟩⟩⟩⟩⟩<;>rw[hcs] at hl5<;>simp at hl5
  exact⟨u1,u2,u3,u4,u5,u6,u7,rfl⟩
 rw[hcb] at hc5;obtain⟨_,_,hc3,_⟩:=hc5;have hg3:CR w1 (Av ν2 (cS p v).h) (.slice Ï) (ñ v) [u3]:=hc3.1;obtain⟨base,cap,eu3,hcap,hgl⟩:=hg3
 have eu3:u3=.slice base (ñ v).length cap:=by simpa using eu3
 obtain⟨gb,go,hgb⟩:∃gb go,0<(ñ v).length→base=some ⟨gb,go,none⟩∧¬Av ν2 (cS p v).h gb∧gb<w1.heap.size∧∀(i:Nat) (g:Val Ï),(ñ v)[i]?=some g→∃us,CR w1 (Av ν2 (cS p v).h) Ï g us∧ļ w1 gb (go+i*8) us:=by
  rcases hgl with hgl|⟨gb,go,q1,q2,q3,q4⟩
  ·exact⟨0,0,fun h=>by rw[show(ñ v)=[] from hgl] at h; simp at h⟩
  ·exact⟨gb,go,fun _=>⟨q1,q2,q3,q4⟩⟩
 obtain⟨gl,hgle⟩:∃gl,gl=ñ v:=⟨_,rfl⟩;rw[←hgle] at hgb eu3
 have hR:∀b,(0<gl.length∧b=gb)→b<w1.heap.size∧¬aie ν2 (cS p v).h b:=fun b ⟨h,e⟩=>by subst e; obtain⟨_,q2,q3,_⟩:=hgb h; exact⟨q3,fun hl=>q2 (.inl hl)⟩
 have hnd:∀pre W,CI G p v ν2 w1 pre W→KNd w1 (fun b=>0<gl.length∧b=gb) tb (œ v) W:=fun pre W hI=>hI.nd s2'.heap hR n6
 have hI0:CI G p v ν2 w1 [] w1:=by
  refine⟨ν2,?_,?_⟩
  ·rw[show ĝ v (([]:List Nat).map (gz (ñ v)))=v from hv0]; exact s2'.heap
  ·rw[show ĝ v (([]:List Nat).map (gz (ñ v)))=v from hv0]; exact Ev.refl _ _ _ _
 have hp59:=s2'.tmps 59;rw[cS_59] at hp59
 have hg:a1.tmps.getD 59 undef=.func (.func 212) #[] #[.pointer (some ⟨bb,0,none⟩),.pointer (some ⟨tb,0,none⟩)]:=by
  obtain⟨fs,cs,h1,h2,h3⟩:=hp59
  have e1:fs=#[]:=by rw[←dX]; exact h2.nil_left
  have hl:=h3.length
  obtain⟨v1,v2,e2⟩:∃v1 v2,cs.toList=[v1,v2]:=by
   rcases hcs:cs.toList with _|⟨v1,_|⟨v2,_|⟨v3,t⟩⟩⟩<;>rw[hcs] at hl<;>simp at hl
   exact⟨v1,v2,rfl⟩
  rw[e2] at h3;have e3:v1=.pointer (some ⟨bb,0,none⟩):=AA (w:=w1) (id:=5) (off:=0) h3.1 n5;have e4:v2=.pointer (some ⟨tb,0,none⟩):=AA (w:=w1) (id:=6) (off:=0) h3.2.1 n6;rw[h1,e1];congr 1;rw[←dX,e2,e3,e4]
 have hcbe:cb=#[u1,u2,.slice base gl.length cap,u4,u5,u6,u7]:=by rw[←dX,hcb,eu3]
 have hseq:SeqStopsK Fence.wide 1 Tryz.prog 212 #[.pointer (some ⟨bb,0,none⟩),.pointer (some ⟨tb,0,none⟩)] (fun j:Nat=>#[encG (gz gl j)]) (fun A B=>KNd w1 (fun b=>0<gl.length∧b=gb) tb (œ v) A→KNd w1 (fun b=>0<gl.length∧b=gb) tb (œ v) B)
  (fun xs=>xs=TH (fun j=>Mk (œ v) (gz gl j).1) gl.length) (fun _=>True) (TH (fun j=>Mk (œ v) (gz gl j).1) gl.length).length w1:=by
  intro l J Jx W hbel hJ hJx hY h0
  refine ash te 1 (by omega) l bb tb u1 u2 u4 u5 u6 u7 gb go gl.length cap base (fun h=>(hgb h).1) (fun j=>(gz gl j).1) (fun j=>(gz gl j).2.1) (fun j=>(gz gl j).2.2.1) (fun j=>(gz gl j).2.2.2.1.1) (fun j=>(gz gl j).2.2.2.1.2) (fun j=>(gz gl j).2.2.2.2.1.1) (fun j=>(gz gl j).2.2.2.2.1.2) (fun j=>(gz gl j).2.2.2.2.2)
   (fun j=>Mk (œ v) (gz gl j).1) ?len (KNd w1 (fun b=>0<gl.length∧b=gb) tb (œ v)) W ((hbel.block bb (ē hbb)).trans (by rw[hbb,hcbe])) ?cells ?maps (fun W1 W2 h hg=>h.grown (fun b hb=>(hR b hb).1) hg) ((hnd [] w1 hI0).below (fun b hb=>(hR b hb).1) hbel.size hbel.block)
   J Jx (fun pre W1 W2 hj hg=>hJ pre W1 W2 none hj hg (fun r e=>by cases e)) (fun pre W1 W2 hj hg=>hJx pre W1 W2 none hj hg (fun r e=>by cases e)) (fun pre j W1 hj hl=>hY pre j W1 hj hl) h0
  case len =>
   have:=hzl;rw[←hgle] at this;simp only[ã,decide_eq_true_eq] at this;omega
  case cells =>
   intro W' hW j hj;obtain⟨q1,q2,q3,q4⟩:=hgb (by omega);obtain⟨vs,r1,r2⟩:=q4 j (gz gl j) (by simp[gz,cX hj]);have r2:=r2.keep (w':=W') (hW.2.1 gb ⟨by omega,rfl⟩);rw[ahE r1] at r2;refine⟨?_,?_,?_,?_,?_,?_,?_,?_⟩
   ·simpa using r2 0 _ rfl
   ·simpa[fh] using r2 1 _ rfl
   ·simpa[fh] using r2 2 _ rfl
   ·simpa[fh] using r2 3 _ rfl
   ·simpa[fh] using r2 4 _ rfl
   ·simpa[fh] using r2 5 _ rfl
   ·simpa[fh] using r2 6 _ rfl
   ·simpa[fh] using r2 7 _ rfl
  case maps =>
   intro W' hW;obtain⟨_,_,h3,mb,h4,h5,h6⟩:=id hW;refine⟨.map (some mb),fun W'' hg=>?_⟩;obtain⟨k1,_,k3,mb',k4,k5,k6⟩:=hW.grown (fun b hb=>(hR b hb).1) hg
   have:mb'=mb:=by
    have e:=World.cell?_of_block (a:=⟨tb,0,none⟩) (hg.block tb (dF h3 hW.1) (by simp));rw[e,h5] at k5;cases k5; rfl
   subst this;exact⟨k5,fun j _=>ap3 k6 _⟩
 rw[akv];refine wpIn_block (TJ (n:=2) rfl (by omega) hg trivial (fun args w=>?eg) hseq (fun h k=>fun q=>k (h q)) (fun W l o o' hl ho _ _ hW=>?kb) (Below.refl _ _) (fun _=>rfl) (CI G p v ν2 w1) (CI.own s2'.heap) hI0 (fun l pre j W hl _ hI hlt=>?round) (fun D xs W hD hxs hI hDo=>?done))
 case eg=>simp[callFunc,Sem.run_bind,run_program,Result.andThen_ok,Tryz.func212,plain 212 _ Tryz.func212,show Tryz.f212.body.isNone=false from rfl]; rfl
 case kb=>exact hW.below (fun b hb=>(hR b hb).1) (by simp[World.putObj]) fun b hb=>World.putObj_heap_other (by omega)
 case round =>
  have hf:∀u:Value,((#[60]:Array Tmp).zip #[u]).foldl (fun t (p,v)=>t.setIfInBounds p v) a1.tmps=a1.tmps.setIfInBounds 60 u:=fun u=>by simp
  show Code.wpIn (Fence.wide.inRound l) 0 Tryz.prog _ _ ⟨((#[60]:Array Tmp).zip #[encG (gz gl j)]).foldl (fun t (p,v)=>t.setIfInBounds p v) a1.tmps,[]⟩ W;rw[hf];refine wpIn_mono (anJ s2' l pre j W hl hI ?_ (u:=encG (gz gl j)) (by rw[hgle]; exact fun ν h w=>asp _ ν h w)) fun e a' Wa ha=>?_
  ·refine apR hzl ?_;have:=ago (fun j=>Mk (œ v) (gz gl j).1) gl.length;rw[←hgle];omega
  ·cases e with
   |normal =>
    refine⟨ha.1,fun r' hr=>wpIn_mono (ha.2 r' hr) fun e a3 W3 hb=>?_⟩
    cases e with
    |normal=>exact⟨hb.1,fun _=>hnd _ _ hb.2,hb.2⟩
    |_=>exact hb
   |_=>exact ha
 case done =>
  subst hxs;obtain⟨ν',Hd,evd⟩:=hI
  have hzz:(TH (fun j=>Mk (œ v) (gz gl j).1) gl.length).map (gz (ñ v))=z:=by rw[hzs,hgle]
  rw[hzz] at Hd evd;have hml:=AQ s2'.heap evd (aqT p v) (ah4 _ _) (t:=[false]) (by simp);have ht:(cS p (ĝ v z)).t=(cS p v).t:=cS_t _ _ _
  have simD:Sim ν' (cS p (ĝ v z)) a1 W:=by
   refine⟨s2'.defers,?_,fun i=>?_,Hd⟩
   ·rw[ht]; exact s2'.len
   ·rw[ht]; exact VR.pin evd (ae3 rfl _ (arD p v) i) (s2'.tmps i)
  exact aqt simD hB hDo (W7 Hd hml hD hDo rfl) (evw.trans (evd.mono (eI _)) (cY _)) (dG evw.size hD)
def aod:kw Tryz.prog 79 pS:=fun G x y hF w vals hG hAL=>aqv G x y hF w vals hG hAL
end Go.Proofs.ZzM
end

noncomputable section
set_option maxRecDepth 100000
namespace Go.Proofs.ZzM
open Go Go.Am
def ak8:ZP 33 Wi:=zt (LB _) Ä rfl Ä fun x=>TO x some
def aqG:ZP 7 aiL:=zt (Jd _) (Á ak8 Ä) rfl (Á TM Ä) fun x=>adf x some
def jC:ZP 119 Ŭ:=zt (Ŗ _) Ä rfl (Á lI Ä) fun x=>mP x some
def ku:ZP 53 j9:=zt (RS _) (Á ŝ (Á Tf (Á jC Ä))) rfl Ä fun x=>aaT x some
def ni:ZP 50 kP:=zt (F7 _) (Á ku Ä) rfl Ä fun x=>QI x some
def abu:ZP 173 NX:=zt (WP _) Ä rfl Ä fun x=>aei x some
def Ay:ZP 146 tR:=zt (Ej _) (Á abu Ä) rfl (Á Rc Ä) fun x=>aab x some
def Ax:ZP 147 qY:=zt (Φ _) Ä rfl (Á GN (Á GM (Á GJ (Á GK (Á GI Ä))))) fun x=>No x some
def aog:ZP 184 acR:=zt (Ei _) (Á Ay (Á Ax (Á abu Ä))) rfl (Á Q5 Ä) fun x=>Z7 x some
def aln:ZP 185 Wy:=zt (jx _) Ä rfl (Á Nu (Á Nt (Á Ns (Á Nq (Á Nr Ä))))) fun x=>Vk x some
def Tc:ZP 118 Fm:=zt (Rj _) (Á aog (Á aln Ä)) rfl Ä fun x=>aaf x some
def nz:ZP 52 j8:=zt (xu _) (Á Tc Ä) rfl Ä fun x=>F6 x some
def Dh:ZP 96 sM:=zt (xt _) (Á ni (Á nz Ä)) rfl Ä fun x=>F4 x some
def vd:ZP 97 mI:=zt (qm _) (Á ni (Á nz Ä)) rfl Ä fun x=>zl x some
def nh:kw Tryz.prog 42 jF:=NV (kU _) (fun {_}=>RZ (Á Dh (Á vd Ä)) (kU _) rfl rfl rfl rfl rfl (il rfl)) hmix (tab:=nN _) rfl Ä (pB fun x=>zj x some)
def sG:ZP 54 qZ:=zt (KE _) (Á ŝ Ä) rfl (Á VS Ä) fun x=>aeX x some
def Md:ZP 205 ym:=zt (Db _) (Á jC Ä) rfl Ä fun x=>Nz x some
def aqQ:ZP 207 aiV:=zt (AZ _) (Á nj Ä) rfl (Á VA (Á Vz Ä)) fun x=>aeJ x some
def NG:ZP 258 xd:=zt (sg _) Ä rfl Ä fun x=>BS x some
def Az:ZP 261 tS:=zt (Ek _) (Á Iw Ä) rfl (Á Rl Ä) fun x=>aah x some
def Td:ZP 285 Dz:=zt (GY _) (Á ajE (Á aoj Ä)) rfl Ä fun x=>Ro x some
def asD:ZP 275 amm:=zt (aev _) (Á Az (Á Td Ä)) rfl Ä fun x=>ahi x some
def abw:ZP 259 Fq:=zt (zR _) (Á asD Ä) rfl Ä fun x=>Kv x some
def ah0:ZP 291 agz:=zt (aet _) Ä rfl Ä fun x=>ahf x some
def Dj:ZP 286 Ca:=zt (xG _) (Á Az (Á ah0 Ä)) rfl Ä fun x=>G1 x some
def aol:ZP 289 amn:=zt (aex _) (Á Az (Á Td Ä)) rfl Ä fun x=>ahl x some
def aok:kw Tryz.prog 276 acU:=aco (Em _) (aew _) (fun {_}=>RZ (Á Iw (Á Dj (Á aol (Á ah0 Ä)))) (Em _) rfl rfl rfl rfl rfl (il rfl)) (fun {_}=>libN (Á Iw (Á Dj (Á aol (Á ah0 Ä)))) _) rfl hmix (tab:=we _) rfl Ä (us:=LV) rfl (Á (by kernel_rfl) Ä) (pB fun x=>aao x some)
def abv:ZP 260 Fp:=zt (zQ _) (Á aok Ä) rfl Ä fun x=>Kt x some
def XC:ZP 243 I7:=zt (LZ _) (Á Te (Á Ix (Á NG (Á abw (Á abv Ä))))) rfl Ä fun x=>VJ x some
def afP:ZP 244 O3:=zt (RN _) Ä rfl Ä fun x=>aaL x some
def afN:ZP 262 O0:=zt (Rq _) Ä rfl Ä fun x=>aal x some
def afO:ZP 245 O1:=zt (Ru _) (Á Az (Á afN Ä)) rfl Ä fun x=>aaq x some
def ajF:ZP 246 Yb:=zt (WY _) (Á Az (Á afN Ä)) rfl Ä fun x=>aeA x some
def ajG:ZP 208 Yc:=zt (WZ _) (Á XC (Á afP (Á afO (Á ajF Ä)))) rfl Ä fun x=>aeE x some
def ajH:ZP 74 Yd:=zt (uG _) (Á Tf (Á ajI (Á Ix (Á Md (Á aqQ (Á ajG Ä)))))) rfl (Á Vx (Á Vy (Á Vw Ä))) fun x=>aeH x some
def Ũ:ZP 77 ť:=zt (L1 _) (Á ŝ (Á ajH Ä)) rfl Ä fun x=>VP x some
def ţ:ZP 108 Ţ:=zt (xD _) (Á Ay (Á Ax Ä)) rfl Ä fun x=>GR x some
def afK:ZP 9 Lz:=zt (sY _) (Á nh (Á ŝ (Á ku (Á sG (Á Ũ (Á ţ Ä)))))) rfl (Á GD Ä) fun x=>Nj x some
def XD:ZP 114 I8:=zt (L2 _) (Á XB (Á Ix Ä)) rfl Ä fun x=>VU x some
def aqN:ZP 44 aiS:=zt (WO _) (Á XD Ä) rfl Ä fun x=>adY x some
def aoc:ZP 45 acO:=zt (QN _) Ä rfl Ä fun x=>ZK x some
def aob:ZP 46 acN:=zt (D9 _) (Á ŕ Ä) rfl (Á QJ Ä) fun x=>ZH x some
def aqP:ZP 10 aiU:=zt (AW _) (Á nh (Á ŝ (Á aqN (Á aoc (Á aob (Á ku (Á sG (Á Ũ (Á ţ Ä))))))))) rfl (Á Ve (Á Vd Ä)) fun x=>aec x some
def ahZ:ZP 12 OY:=zt (vX _) (Á ŝ (Á ni (Á nz (Á ku (Á sG (Á Ũ (Á ţ Ä))))))) rfl (Á Ke Ä) fun x=>Q0 x some
def afM:ZP 148 OZ:=zt (Ki _) Ä rfl (Á ag9 (Á ag7 (Á ag6 (Á ag8 Ä)))) fun x=>amS x some
def aoh:ZP 78 acS:=zt (kW _) (Á Ay (Á Ax (Á afM Ä))) rfl (Á Rb (Á Q7 (Á Q8 (Á Q9 (Á Ra Ä))))) fun x=>Z9 x some
def Ta:ZP 80 Dx:=zt (vL _) (Á Ũ Ä) rfl (Á JS Ä) fun x=>QG x some
def afL:ZP 24 OW:=zt (QX _) (Á Ũ (Á aoh (Á aod (Á Ta Ä)))) rfl Ä fun x=>Z0 x some
def afE:ZP 34 Lv:=zt (Cc _) Ä rfl Ä fun x=>Ms x some
def EI:ZP 93 Dw:=zt (F2 _) Ä rfl Ä fun x=>QE x some
def aof:ZP 35 acQ:=zt (Ee _) (Á nh (Á ŝ (Á ku (Á sG (Á Ũ (Á EI (Á ţ Ä))))))) rfl (Á QU Ä) fun x=>ZY x some
def aoi:ZP 95 acT:=zt (qt _) (Á Tc (Á afM Ä)) rfl (Á Rh (Á Rf (Á Rg Ä))) fun x=>aad x some
def abt:ZP 94 Fl:=zt (zD _) (Á ni (Á aoi Ä)) rfl Ä fun x=>Kd x some
def ahY:kw Tryz.prog 36 OX:=NV (l5 _) (fun {_}=>RZ (Á ŝ (Á ku (Á sG (Á Ũ (Á aod (Á Ta (Á abt (Á Dh (Á vd (Á ţ Ä)))))))))) (l5 _) rfl rfl rfl rfl rfl (il rfl)) hmix (tab:=zB _) rfl (Á Kb (Á Ka Ä)) (pB fun x=>QY x some)
def ajJ:ZP 167 Yg:=zt (KC _) (Á ŝ Ä) rfl (Á VN Ä) fun x=>aeT x some
def aon:ZP 215 acW:=zt (Ry _) (Á XC (Á afP (Á afO (Á ajF Ä)))) rfl Ä fun x=>aaw x some
def ah3:ZP 166 O4:=zt (Hu _) (Á ajH (Á Tc (Á ajJ (Á Ix (Á Md (Á aon Ä)))))) rfl Ä fun x=>RQ x some
def aom:ZP 217 acV:=zt (Rw _) (Á ŝ Ä) rfl Ä fun x=>aau x some
def aqS:ZP 168 aiX:=zt (W0 _) (Á ajG (Á aom Ä)) rfl Ä fun x=>aeV x some
def afJ:ZP 169 Ly:=zt (CJ _) (Á ni Ä) rfl Ä fun x=>Nc x some
def afI:ZP 170 Lx:=zt (CH _) (Á nz Ä) rfl Ä fun x=>Na x some
def Lb:kw Tryz.prog 98 I5:=NV (rS _) (fun {_}=>RZ (Á ni (Á Ũ (Á XD (Á ah3 (Á ajJ (Á aqS (Á afJ (Á afI Ä)))))))) (rS _) rfl rfl rfl rfl rfl (il rfl)) hmix (tab:=CG _) rfl (Á M8 Ä) (pB fun x=>U5 x some)
def wX:ZP 101 vq:=zt (zq _) Ä rfl Ä fun x=>JX x some
def alk:ZP 172 Ww:=zt (LL _) Ä rfl Ä fun x=>U7 x some
def tB:ZP 105 sK:=zt (xq _) (Á alk Ä) rfl Ä fun x=>FZ x some
def tC:ZP 106 sL:=zt (kF _) Ä rfl (Á BM (Á BN Ä)) fun x=>F1 x some
def S9:ZP 99 yl:=zt (mV _) (Á ŕ (Á wX (Á tB (Á tC Ä)))) rfl (Á zi Ä) fun x=>D5 x some
def aoe:ZP 37 acP:=zt (Ec _) (Á ŝ (Á ku (Á sG (Á Ũ (Á Lb (Á S9 (Á ţ Ä))))))) rfl (Á QR Ä) fun x=>ZU x some
def Iu:ZP 102 Fk:=zt (zw _) Ä rfl Ä fun x=>J6 x some
def Ir:ZP 103 Fh:=zt (zr _) Ä rfl Ä fun x=>JZ x some
def ahX:kw Tryz.prog 38 OV:=aco (vR _) (đ _) (fun {_}=>RZ (Á ŝ (Á ku (Á sG (Á Ũ (Á EI (Á Lb (Á ŕ (Á wX (Á Iu (Á Ir (Á tB (Á tC (Á ţ Ä))))))))))))) (vR _) rfl rfl rfl rfl rfl (il rfl)) (fun {_}=>RZ (Á ŝ (Á ku (Á sG (Á Ũ (Á EI (Á Lb (Á ŕ (Á wX (Á Iu (Á Ir (Á tB (Á tC (Á ţ Ä))))))))))))) (đ _) rfl rfl rfl rfl rfl (il rfl)) rfl hmix (tab:=qr _) rfl (Á J4 (Á J3 Ä)) (us:=sW) rfl (Á (by kernel_rfl) Ä) (pB fun x=>QT x some)
def Tb:ZP 155 Dy:=zt (vZ _) Ä rfl (Á Kh Ä) fun x=>Q3 x some
def ajD:ZP 156 X9:=zt (Kf _) Ä rfl (Á Vh Ä) fun x=>aeg x some
def VZ:ZP 81 B8:=zt (xE _) (Á Ay (Á Tb (Á ajD Ä))) rfl Ä fun x=>GV x some
def Di:ZP 25 sN:=zt (xv _) (Á ŝ (Á Ũ (Á VZ Ä))) rfl Ä fun x=>GG x some
def V0:ZP 107 B9:=zt (xF _) (Á Ay (Á Tb (Á ajD (Á abu Ä)))) rfl Ä fun x=>GX x some
def Iv:ZP 40 vr:=zt (zA _) (Á ŝ (Á ku (Á Ũ (Á V0 Ä)))) rfl Ä fun x=>J9 x some
def oF:ZP 233 iY:=zt (ņ _) Ä rfl (Á kS Ä) fun x=>lL x some
def mA:ZP 190 κ:=zt (ź _) (Á oF Ä) rfl Ä fun x=>kf x some
def tz:ZP 235 j7:=zt (ŭ _) Ä rfl (Á mN Ä) fun x=>ov x some
def pp:ZP 193 ji:=zt (iA _) (Á tz Ä) rfl Ä fun x=>mz x some
def qO:ZP 237 jr:=zt (ŗ _) Ä rfl (Á lJ Ä) fun x=>mR x some
def oj:ZP 196 iy:=zt (ς _) (Á qO Ä) rfl Ä fun x=>lC x some
def aqO:ZP 55 aiT:=zt (Α _) (Á mA (Á pp (Á oj Ä))) rfl (Á U3 (Á U0 (Á UZ (Á U1 (Á U2 (Á UY (Á UX (Á UW (Á UV (Á UU Ä)))))))))) fun x=>ad0 x some
def alm:ZP 39 Wx:=zt (LQ _) (Á Di (Á Iv (Á ŝ (Á aqO Ä)))) rfl Ä fun x=>Vc x some
def ahT:ZP 8 OO:=zt (FB _) (Á afK (Á aqP (Á ahZ (Á afL (Á afE (Á aof (Á ahY (Á aoe (Á ahX (Á alm (Á Iv Ä))))))))))) rfl Ä fun x=>Ph x some
def sF:ZP 56 nA:=zt (Cm _) Ä rfl Ä fun x=>My x some
def S7:ZP 132 I3:=zt (ady _) Ä rfl Ä fun x=>agK x some
def Oj:ZP 62 Fg:=zt (WH _) (Á S7 Ä) rfl Ä fun x=>adD x some
def ajB:ZP 197 X7:=zt (JO _) Ä rfl (Á UO Ä) fun x=>adR x some
def ajC:ZP 198 X8:=zt (WN _) Ä rfl Ä fun x=>adW x some
def alh:ZP 131 Wt:=zt (LI _) (Á ajB (Á ajC Ä)) rfl Ä fun x=>UL x some
def ale:ZP 57 Wq:=zt (LF _) (Á sF (Á Oj (Á alh (Á S7 Ä)))) rfl Ä fun x=>T9 x some
def Ip:ZP 134 yk:=zt (DZ _) Ä rfl (Á Qa Ä) fun x=>Ze x some
def Bv:ZP 63 tO:=zt (LG _) (Á Ip Ä) rfl Ä fun x=>Ui x some
def anZ:ZP 58 acB:=zt (DJ _) (Á Oj (Á Bv Ä)) rfl (Á PA Ä) fun x=>YH x some
def alc:ZP 59 Wo:=zt (nJ _) (Á sF (Á Bv (Á S7 Ä))) rfl (Á MA (Á Mz (Á MB Ä))) fun x=>T5 x some
def an4:ZP 133 acG:=zt (DT _) (Á S7 Ä) rfl (Á PU Ä) fun x=>Y0 x some
def alb:ZP 60 Wn:=zt (LC _) (Á sF (Á Oj (Á S7 (Á an4 Ä)))) rfl Ä fun x=>T3 x some
def afF:ZP 135 OP:=zt (DW _) Ä rfl (Á P3 Ä) fun x=>Y7 x some
def aqH:ZP 199 aiM:=zt (Jv _) Ä rfl (Á Uu Ä) fun x=>adA x some
def afG:ZP 136 OQ:=zt (DX _) (Á aqH Ä) rfl (Á P5 Ä) fun x=>Y9 x some
def abq:ZP 61 Fe:=zt (ju _) (Á Bv (Á Ip (Á afF (Á afG Ä)))) rfl (Á DM (Á DL (Á DK Ä))) fun x=>Jo x some
def abp:ZP 139 NW:=zt (WG _) (Á afG Ä) rfl Ä fun x=>adm x some
def an0:ZP 137 acC:=zt (vC _) (Á abp Ä) rfl (Á PH (Á PG Ä)) fun x=>YO x some
def Bw:ZP 64 tP:=zt (iB _) (Á an0 Ä) rfl (Á MJ (Á MI (Á MH (Á ME (Á MF (Á MG Ä)))))) fun x=>Up x some
def Xz:ZP 85 I2:=zt (yR _) (Á Bw Ä) rfl (Á MK Ä) fun x=>Ut x some
def an1:ZP 200 acD:=zt (DN _) Ä rfl (Á PJ Ä) fun x=>YQ x some
def an5:ZP 138 acH:=zt (DU _) (Á Ip (Á afF (Á an1 Ä))) rfl (Á PZ Ä) fun x=>Y3 x some
def S8:ZP 274 Dv:=zt (FV _) (Á ajB (Á ajC Ä)) rfl Ä fun x=>Qw x some
def aqM:ZP 254 aiR:=zt (WM _) (Á S8 Ä) rfl Ä fun x=>adU x some
def aqK:ZP 255 aiP:=zt (WK _) Ä rfl Ä fun x=>adN x some
def aqJ:ZP 238 aiO:=zt (WJ _) (Á aqM (Á aqK Ä)) rfl Ä fun x=>adL x some
def ald:ZP 239 Wp:=zt (LD _) (Á Ip Ä) rfl Ä fun x=>T7 x some
def an9:ZP 256 acL:=zt (Qz _) Ä rfl Ä fun x=>Zr x some
def aqL:ZP 257 aiQ:=zt (WL _) (Á S8 Ä) rfl Ä fun x=>adP x some
def ali:ZP 240 Wu:=zt (LJ _) (Á an9 (Á aqL Ä)) rfl Ä fun x=>UN x some
def ahU:ZP 201 OS:=zt (FQ _) (Á abp (Á aqJ (Á ald (Á ali Ä)))) rfl Ä fun x=>P9 x some
def alf:ZP 202 Wr:=zt (LH _) Ä rfl Ä fun x=>Uy x some
def an8:ZP 241 acK:=zt (Qx _) Ä rfl Ä fun x=>Zp x some
def alj:ZP 203 Wv:=zt (LK _) (Á an8 Ä) rfl Ä fun x=>UQ x some
def asC:ZP 242 aml:=zt (adH _) Ä rfl Ä fun x=>agQ x some
def aoa:ZP 204 acM:=zt (QB _) (Á asC Ä) rfl Ä fun x=>ZB x some
def an2:ZP 140 acE:=zt (PN _) (Á ahU (Á alf (Á alj (Á aoa Ä)))) rfl Ä fun x=>YW x some
def ajA:ZP 65 X6:=zt (ud _) (Á Bw (Á Xz (Á an5 (Á abp (Á an2 Ä))))) rfl (Á Ue (Á Uf (Á Ud Ä))) fun x=>adq x some
def Bx:ZP 15 tQ:=zt (lh _) (Á sF (Á ale (Á anZ (Á alc (Á alb (Á abq (Á Oj (Á Bv (Á Bw (Á ajA Ä)))))))))) rfl (Á MO (Á MM (Á MN (Á ML Ä)))) fun x=>UA x some
def EH:ZP 31 vn:=zt (FL _) (Á Bw (Á ajA Ä)) rfl Ä fun x=>PM x some
def afH:ZP 157 Lw:=zt (sR _) Ä rfl (Á FT Ä) fun x=>M4 x some
def aqI:ZP 158 aiN:=zt (JH _) Ä rfl (Á UF Ä) fun x=>adG x some
def ahW:ZP 82 OU:=zt (FU _) (Á afH (Á aqI Ä)) rfl Ä fun x=>Qs x some
def S6:ZP 26 yj:=zt (t8 _) (Á Bx (Á EH (Á ahW Ä))) rfl Ä fun x=>DI x some
def abr:ZP 214 Ff:=zt (qe _) Ä rfl (Á DR Ä) fun x=>Js x some
def NF:ZP 159 xc:=zt (rI _) (Á abr Ä) rfl Ä fun x=>BL x some
def VY:ZP 160 B7:=zt (ox _) Ä rfl (Á BJ Ä) fun x=>FN x some
def an3:ZP 83 acF:=zt (mU _) (Á NF (Á VY Ä)) rfl (Á PS (Á PR (Á PQ (Á PP Ä)))) fun x=>YY x some
def Iq:ZP 84 vp:=zt (qf _) Ä rfl (Á D1 Ä) fun x=>JJ x some
def abo:ZP 27 Fc:=zt (yC _) (Á an3 (Á Iq Ä)) rfl Ä fun x=>Ji x some
def an6:ZP 86 acI:=zt (P1 _) (Á Bx Ä) rfl Ä fun x=>Y5 x some
def XA:ZP 87 I4:=zt (Θ _) Ä rfl (Á MU (Á MV (Á MT (Á MQ (Á MR (Á MP (Á MS Ä))))))) fun x=>UD x some
def anY:ZP 28 acA:=zt (DG _) (Á Bx (Á EH (Á Xz (Á an6 (Á XA Ä))))) rfl (Á Py Ä) fun x=>YF x some
def ala:ZP 88 Wm:=zt (yB _) Ä rfl (Á Mv Ä) fun x=>TW x some
def NE:ZP 89 xb:=zt (rk _) (Á Iq Ä) rfl Ä fun x=>BI x some
def ak9:ZP 162 Wj:=zt (yz _) Ä rfl (Á Mu Ä) fun x=>TU x some
def anW:ZP 90 acy:=zt (mT _) (Á ak9 Ä) rfl (Á Po (Á Pp (Á Pm (Á Pn Ä)))) fun x=>Yz x some
def anX:ZP 29 acz:=zt (pX _) (Á ala (Á NE (Á anW Ä))) rfl (Á Pw (Á Pu (Á Pv Ä))) fun x=>YD x some
def ahV:ZP 91 OT:=zt (ş _) Ä rfl (Á JF (Á JG (Á JC (Á JD (Á JA (Á JB (Á JE Ä))))))) fun x=>Qp x some
def an7:ZP 92 acJ:=zt (vH _) Ä rfl (Á Qg (Á Qh Ä)) fun x=>Zj x some
def alg:ZP 30 Ws:=zt (rQ _) (Á XA (Á ahV (Á an7 Ä))) rfl (Á M5 (Á M6 Ä)) fun x=>UI x some
def anV:ZP 32 acx:=zt (Pk _) Ä rfl Ä fun x=>Yx x some
def c_w6_SharpClashes:ZP 6 jE:=zt (pV _) (Á aqG (Á ahT (Á Bx (Á afL (Á Di (Á S6 (Á abo (Á anY (Á anX (Á alg (Á EH (Á anV Ä)))))))))))) rfl Ä fun x=>yu x some
end Go.Proofs.ZzM
end
