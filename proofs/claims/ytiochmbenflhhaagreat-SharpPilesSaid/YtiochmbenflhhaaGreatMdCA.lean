/- lemmas -/
import Derived.Test.YtiochmbenflhhaaGreatAmD
import Derived.Test.YtiochmbenflhhaaGreatAmE
import Derived.Ground.NamesProg
import Derived.Ground.Names2Prog
import Derived.KernelRfl
import Derived.Test.YtiochmbenflhhaaGreatMdMA
import Derived.Test.YtiochmbenflhhaaGreatMdKD
import Derived.RangeFuncBox
import Derived.Lib.SliceRun
import Derived.RangeFuncLeaves
import Derived.WalkKit
import Derived.OwnWalkIn
import Derived.TacticsInMore
import Derived.LoopNIn
import Derived.LoopIn
import Derived.Test.YtiochmbenflhhaaGreatProg
import Derived.RangeFuncFrom
import Derived.RangeFuncRecord
import Derived.Test.YtiochmbenflhhaaGreatMdKC
import Derived.Test.YtiochmbenflhhaaGreatMdKB
import Derived.Test.YtiochmbenflhhaaGreatMdKA
set_option linter.all false
set_option linter.unusedSectionVars false
set_option linter.unusedVariables false
set_option linter.unusedSimpArgs false
noncomputable section
namespace Go.Proofs
open Go.Shelf
def Tryz.laysSort_ren:Go.Shelf.Ren:=⟨fun|189=>223|125=>253|257=>252|128=>272|129=>273|294=>263|295=>264|296=>265|297=>266|298=>267|299=>268|216=>269|300=>270|301=>271|328=>277|329=>278|330=>279|331=>280|332=>281|215=>282|343=>290|n=>n,fun|28=>39|3=>3|46=>284|0=>0|51=>303|53=>279|4=>4|183=>296|182=>295|131=>61|5=>5|9=>9|218=>311|222=>315|228=>323|229=>324|n=>n,fun|n=>n⟩
def Tryz.laysSort:Go.Proofs.Lays.n189 Tryz.prog Tryz.laysSort_ren:={
 mixed:=by kernel_rfl
 f125:=Tryz.func253.trans (congrArg some (by kernel_rfl))
 f128:=Tryz.func272.trans (congrArg some (by kernel_rfl))
 f129:=Tryz.func273.trans (congrArg some (by kernel_rfl))
 f189:=Tryz.func223.trans (congrArg some (by kernel_rfl))
 f215:=Tryz.func282.trans (congrArg some (by kernel_rfl))
 f216:=Tryz.func269.trans (congrArg some (by kernel_rfl))
 f257:=Tryz.func252.trans (congrArg some (by kernel_rfl))
 f294:=Tryz.func263.trans (congrArg some (by kernel_rfl))
 f295:=Tryz.func264.trans (congrArg some (by kernel_rfl))
 f296:=Tryz.func265.trans (congrArg some (by kernel_rfl))
 f297:=Tryz.func266.trans (congrArg some (by kernel_rfl))
 f298:=Tryz.func267.trans (congrArg some (by kernel_rfl))
 f299:=Tryz.func268.trans (congrArg some (by kernel_rfl))
 f300:=Tryz.func270.trans (congrArg some (by kernel_rfl))
 f301:=Tryz.func271.trans (congrArg some (by kernel_rfl))
 f328:=Tryz.func277.trans (congrArg some (by kernel_rfl))
 f329:=Tryz.func278.trans (congrArg some (by kernel_rfl))
 f330:=Tryz.func279.trans (congrArg some (by kernel_rfl))
 f331:=Tryz.func280.trans (congrArg some (by kernel_rfl))
 f332:=Tryz.func281.trans (congrArg some (by kernel_rfl))
 f343:=Tryz.func290.trans (congrArg some (by kernel_rfl))
 t0:=Tryz.underlying0
 a0:=Tryz.isAgg0
 z0:=Tryz.sizeOf0
 v0:=Tryz.zeroValue0
 t3:=Tryz.underlying3
 a3:=Tryz.isAgg3
 z3:=Tryz.sizeOf3
 v3:=Tryz.zeroValue3
 t4:=Tryz.underlying4
 a4:=Tryz.isAgg4
 z4:=Tryz.sizeOf4
 v4:=Tryz.zeroValue4
 t5:=Tryz.underlying5
 a5:=Tryz.isAgg5
 z5:=Tryz.sizeOf5
 v5:=Tryz.zeroValue5
 t9:=Tryz.underlying9
 a9:=Tryz.isAgg9
 z9:=Tryz.sizeOf9
 v9:=Tryz.zeroValue9
 t28:=Tryz.underlying39
 a28:=Tryz.isAgg39
 z28:=Tryz.sizeOf39
 v28:=Tryz.zeroValue39
 t46:=Tryz.underlying284
 a46:=Tryz.isAgg284
 z46:=Tryz.sizeOf284
 v46:=Tryz.zeroValue284
 t51:=Tryz.underlying303
 a51:=Tryz.isAgg303
 z51:=Tryz.sizeOf303
 v51:=Tryz.zeroValue303
 t53:=Tryz.underlying279
 a53:=Tryz.isAgg279
 z53:=Tryz.sizeOf279
 v53:=Tryz.zeroValue279
 t131:=Tryz.underlying61
 a131:=Tryz.isAgg61
 z131:=Tryz.sizeOf61
 v131:=Tryz.zeroValue61
 t182:=Tryz.underlying295
 a182:=Tryz.isAgg295
 z182:=Tryz.sizeOf295
 v182:=Tryz.zeroValue295
 t183:=Tryz.underlying296
 a183:=Tryz.isAgg296
 z183:=Tryz.sizeOf296
 v183:=Tryz.zeroValue296
 t218:=Tryz.underlying311
 a218:=Tryz.isAgg311
 z218:=Tryz.sizeOf311
 v218:=Tryz.zeroValue311
 t222:=Tryz.underlying315
 a222:=Tryz.isAgg315
 z222:=Tryz.sizeOf315
 v222:=Tryz.zeroValue315
 t228:=Tryz.underlying323
 a228:=Tryz.isAgg323
 z228:=Tryz.sizeOf323
 v228:=Tryz.zeroValue323
 t229:=Tryz.underlying324
 a229:=Tryz.isAgg324
 z229:=Tryz.sizeOf324
 v229:=Tryz.zeroValue324}
def Tryz.laysCompact_ren:Go.Shelf.Ren:=⟨fun|20=>224|n=>n,fun|22=>39|3=>3|4=>4|0=>0|n=>n,fun|n=>n⟩
def Tryz.laysCompact:Go.Proofs.Lays2.n20 Tryz.prog Tryz.laysCompact_ren:={
 mixed:=by kernel_rfl
 f20:=Tryz.func224.trans (congrArg some (by kernel_rfl))
 t0:=Tryz.underlying0
 a0:=Tryz.isAgg0
 z0:=Tryz.sizeOf0
 v0:=Tryz.zeroValue0
 t3:=Tryz.underlying3
 a3:=Tryz.isAgg3
 z3:=Tryz.sizeOf3
 v3:=Tryz.zeroValue3
 t4:=Tryz.underlying4
 a4:=Tryz.isAgg4
 z4:=Tryz.sizeOf4
 v4:=Tryz.zeroValue4
 t22:=Tryz.underlying39
 a22:=Tryz.isAgg39
 z22:=Tryz.sizeOf39
 v22:=Tryz.zeroValue39
 i3:=by kernel_rfl}
end Go.Proofs
namespace Go.Proofs.ZzM
open Go Go.Am
def hmix:Tryz.prog.follows .mixedOrders=true:=by kernel_rfl
def plain_ : (Tryz.prog.funcs.toList.all fun fn => !(fn.name == "runtime.NumGoroutine")) = true := by kernel_rfl
def plain (f : Nat) (fn : Func) (h : Tryz.prog.funcs[f]? = some fn) : (fn.name == "runtime.NumGoroutine") = false := by
 have:=dO.1 plain_ fn (dl (i:=f) (by simpa using h));simpa using this
def arx:Tryz.laysSort_ren.f 189=223:=by kernel_rfl
def aj5:Tryz.laysCompact_ren.f 20=224:=by kernel_rfl
section
variable [ø] {ρ:Type}
def sortOk (f:Nat) (hf:aeW f=true) (h:List Blk) (x:AV) (K:AV→List Blk→Option ρ) (q:ρ) (e:XQ h x K=some q) (ν:Nat→Value) (w:World) (u:Value) (H:HR ν h w) (hx:VR ν h w x u):Nb Tryz.prog f ν h w [u] K q:=by
 have h1:f=223:=by
  unfold aeW at hf
  split at hf
  ·rfl
  ·cases hf
 subst h1;have:=ars Tryz.laysSort e H hx ⟨_,rfl⟩
 rwa [arx] at this
def anD (f:Nat) (hf:A5 f=true) (h:List Blk) (x:AV) (K:AV→List Blk→Option ρ) (q:ρ) (e:pS h x K=some q) (ν:Nat→Value) (w:World) (u:Value) (H:HR ν h w) (hx:VR ν h w x u):Nb Tryz.prog f ν h w [u] K q:=by
 have h1:f=224:=by
  unfold A5 at hf
  split at hf
  ·rfl
  ·cases hf
 subst h1;have:=akM Tryz.laysCompact e H hx ⟨_,rfl⟩
 rwa [aj5] at this
def ar7:Ma Tryz.prog Sw:=by
 intro g hg fz S nid x v S' e ν w u H hx hn hd;unfold Sw at hg
 split at hg
 ·exact Ck Tryz.func154 (T:=39) (by kernel_rfl) (by kernel_rfl) e H hx hn hd
 ·exact Ck Tryz.func227 (T:=24) (by kernel_rfl) (by kernel_rfl) e H hx hn hd
 ·exact Ck Tryz.func228 (T:=25) (by kernel_rfl) (by kernel_rfl) e H hx hn hd
 ·exact Ck Tryz.func229 (T:=26) (by kernel_rfl) (by kernel_rfl) e H hx hn hd
 ·exact Ck Tryz.func230 (T:=28) (by kernel_rfl) (by kernel_rfl) e H hx hn hd
 ·exact Ck Tryz.func231 (T:=27) (by kernel_rfl) (by kernel_rfl) e H hx hn hd
 ·cases hg
def Sr {pt:List (Nat×Ö)} (h:∀e∈pt,jt Tryz.prog e.1 e.2) (E:Env ρ) (hP:E.P=Tryz.prog) (h1:E.pure=akD pt) (h2:E.sort=aeW) (h3:E.compact=A5) (h4:E.clone=Sw) (hj:ajO E):OA E:=by
 constructor
 ·intro f p hf;rw[h1] at hf;rw[hP];exact h (f,p) (Xq hf)
 ·intro f hf;rw[h2] at hf;rw[hP];exact sortOk f hf
 ·intro f hf;rw[h3] at hf;rw[hP];exact anD f hf
 ·rw[hP]; exact plain
 ·rw[hP,h4]; exact ar7
 ·exact hj
def libN {pt:List (Nat×Ö)} (h:∀e∈pt,jt Tryz.prog e.1 e.2) (tab:List (Ø ρ)):OA (Ù pt tab):=Sr h _ rfl rfl rfl rfl rfl (iM rfl)
end
abbrev ZP (f:Nat) (p:Ö):Prop:=jt Tryz.prog f p
def zt {f:Nat} {p:Ö} {pt:List (Nat×Ö)} {tab:List (Ø (Val (tyL p.rs)))} (E:Env (Val (tyL p.rs))) (hc:∀e∈pt,jt Tryz.prog e.1 e.2) (hE:E=Ù pt tab) (hok:∀x∈tab,x.Ok E) (law:∀x:Val (tyL p.ts),Ĉ E f (Ā p.ts x) (fun h v=>Ã (ą p.rs h v) some)=p.F x):jt Tryz.prog f p:=by
 subst hE;exact Gd (Ù pt tab) (fun {_}=>libN hc _) hmix (tab:=tab) rfl hok (mY law)
end Go.Proofs.ZzM
end

noncomputable section
set_option maxRecDepth 100000
namespace Go.Proofs.ZzM
open Go Go.Am
def Cp:ZP 109 uD:=zt (MQ _) Å rfl Å fun x=>Vv x some
def nE:ZP 144 lq:=zt (MP _) Å rfl Å fun x=>Vg x some
def Tq:ZP 176 Gw:=zt (Sb _) (Á nE Å) rfl Å fun x=>aaA x some
def ajv:ZP 249 X9:=zt (WW _) Å rfl Å fun x=>aed x some
def an3:ZP 250 ago:=zt (RE _) Å rfl (Á aac Å) fun x=>ag6 x some
def JC:ZP 218 Gs:=zt (RG _) (Á ajv (Á an3 Å)) rfl Å fun x=>aag x some
def ahZ:ZP 174 PH:=zt (IC _) (Á Cp (Á nE (Á Tq (Á JC Å)))) rfl Å fun x=>R0 x some
def Tr:ZP 110 zd:=zt (nv _) (Á ahZ Å) rfl (Á AZ Å) fun x=>FN x some
def Tn:ZP 111 En:=zt (wV _) Å rfl (Á Ld Å) fun x=>RQ x some
def LX:ZP 116 ut:=zt (kW _) Å rfl (Á wj Å) fun x=>zj x some
def ks:ZP 49 iC:=zt (mN _) (Á LX Å) rfl Å fun x=>uJ x some
def ajz:ZP 181 Yd:=zt (BS _) (Á ks Å) rfl (Á Vz (Á Vy Å)) fun x=>aeC x some
def Tp:ZP 113 Gv:=zt (wY _) (Á ajz Å) rfl (Á RU (Á RV Å)) fun x=>aas x some
def uf:ZP 177 nF:=zt (yq _) Å rfl Å fun x=>Il x some
def ahY:ZP 175 agq:=zt (Im _) (Á Tq (Á uf Å)) rfl Å fun x=>RT x some
def abp:ZP 179 Ye:=zt (mg _) (Á Cp (Á nE (Á uf Å))) rfl (Á FL (Á FK Å)) fun x=>Lp x some
def Ŭ:ZP 100 Ŧ:=zt (iE _) Å rfl (Á uL (Á uK Å)) fun x=>yA x some
def Xx:ZP 182 J2:=zt (AY _) (Á nE Å) rfl (Á Oo Å) fun x=>Vs x some
def JD:ZP 183 BG:=zt (BQ _) (Á ks Å) rfl (Á Vq (Á Vp Å)) fun x=>aey x some
def aqv:ZP 222 aiP:=zt (Lq _) (Á nE Å) rfl (Á VA Å) fun x=>aeE x some
def Ox:ZP 180 Nk:=zt (ū _) (Á Ŭ (Á Cp (Á nE (Á Tq (Á uf (Á Xx (Á JD (Á aqv Å)))))))) rfl (Á yJ (Á yH (Á yI (Á yG Å)))) fun x=>CW x some
def Q1:∀e∈KL,jt Tryz.prog e.1 e.2:=(Á Ŭ Å)
def agW {ρ:Type}:∀e∈Ft ρ,e.Ok (Δ ρ):=(Á ZI (Á ZJ (Á ZH (Á ZG (Á ZF (Á ZE Å))))))
def MB {ρ:Type}:∀e∈sL ρ,e.Ok (ğ ρ):=(Á UX (Á UW (Á UV Å)))
end Go.Proofs.ZzM
end

noncomputable section
namespace Go.Proofs
open Go.RowKit
attribute [local go_sem] Oper.semAt_some
def TK (sel:Nat→Bool) (k:Nat):List Nat:=(List.range k).filter sel
def F9 (sel:Nat→Bool) (k:Nat):TK sel (k+1)=if sel k then TK sel k++[k] else TK sel k:=by
 unfold TK;rw[List.range_succ,List.filter_append]
 cases h:sel k<;>simp[h]
def agc (sel:Nat→Bool) (k:Nat):(TK sel k).length≤k:=by
 unfold TK;exact Nat.le_trans (List.length_filter_le _ _) (by simp)
def alS (sel:Nat→Bool) {j k:Nat} (h:j≤k):(TK sel j).length≤(TK sel k).length:=by
 obtain⟨d,rfl⟩:∃d,k=j+d:=⟨k-j,by omega⟩;unfold TK;rw[List.range_add,List.filter_append,List.length_append];omega
def art {sel:Nat→Bool} {k n:Nat} (h:k<n) (hs:sel k=true):(TK sel k).length<(TK sel n).length:=by
 have h1:=alS sel (j:=k+1) (k:=n) h;rw[F9,hs] at h1;simp at h1;omega
set_option maxRecDepth 100000 in
set_option maxHeartbeats 1000000 in
def arP (te:TypeId) (n:Nat) (hn:1≤n) (l bb tb:Nat) (flo fhi us lo co ko:Value) (gb go len cap:Nat) (gbase:Option Addr) (hgb:0<len→gbase=some ⟨gb,go,none⟩)
 (c0 c1 c2 c3 c4 c5 c6 c7:Nat→Int) (sel:Nat→Bool) (hlen:(len:Int)<9223372036854775807) (Nd:World→Prop)
 (W:World) (hb0:W.heap[bb]?=some (.cells #[flo,fhi,.slice gbase len cap,us,lo,co,ko] te (0,0)))
 (hNc:∀W',Nd W'→∀j,j<len→W'.cell? ⟨gb,go+j*8,none⟩=some (.int .i64 (c0 j))∧W'.cell? ⟨gb,go+j*8+1,none⟩=some (.int .i64 (c1 j))∧W'.cell? ⟨gb,go+j*8+2,none⟩=some (.int .i64 (c2 j))∧W'.cell? ⟨gb,go+j*8+3,none⟩=some (.int .i64 (c3 j)) ∧
  W'.cell? ⟨gb,go+j*8+4,none⟩=some (.int .i64 (c4 j))∧W'.cell? ⟨gb,go+j*8+5,none⟩=some (.int .i64 (c5 j))∧W'.cell? ⟨gb,go+j*8+6,none⟩=some (.int .i64 (c6 j))∧W'.cell? ⟨gb,go+j*8+7,none⟩=some (.int .i64 (c7 j)))
 (hNm:∀W',Nd W'→∃mv,∀W'',W'.grownBy W'' none→W''.cell? ⟨tb,0,none⟩=some mv∧∀j,j<len→(Instr.lookup 182 mv (.int .i64 (c0 j)) false).run Tryz.prog W''=.ok (.bool (sel j)) W'')
 (hNs:∀W1 W2,Nd W1→W1.grownBy W2 none→Nd W2) (hN:Nd W)
 (J Jx:List Nat→World→Prop) (hJ:∀pre W W',J pre W→W.grownBy W' none→J pre W') (hJx:∀pre W W',Jx pre W→W.grownBy W' none→Jx pre W')
 (hY:∀pre x W,J pre W→pre.length<(TK sel len).length→YieldAt Fence.wide (n-1) Tryz.prog l #[.agg #[.int .i64 (c0 x),.int .i64 (c1 x),.int .i64 (c2 x),.int .i64 (c3 x),.int .i64 (c4 x),.int .i64 (c5 x),.int .i64 (c6 x),.int .i64 (c7 x)]] W fun e W' =>
  (e=.returned (.bool true)∧J (pre++[x]) W'∧(Nd W→Nd W'))∨(e=.returned (.bool false)∧Jx (pre++[x]) W'))
 (h0 : J [] W) :
  CallsIn Fence.wide n Tryz.prog 212 #[.func (.yield l) #[] #[],.pointer (some ⟨bb,0,none⟩),.pointer (some ⟨tb,0,none⟩)] W fun e W'=>(∃v,e=.returned v) ∧
   ((∃xs,xs=TK sel len∧J xs W')∨(∃pre,True∧Jx pre W')):=by
 have hb3:W.cell? ⟨bb,2,none⟩=some (.slice gbase len cap):=by simp[World.cell?,hb0]
 refine callsIn_of_wp Tryz.func212 rfl trivial ?_ rfl;simp only[Tryz.ntmps212,fp,dn,dH,Nat.reduceAdd,Nat.reduceSub,Array.replicate_succ,Array.replicate_zero,List.push_toArray,gK,f7,fk]
 gi_wp2
 gi_loopw [9] (fun i wr=>∃k:Nat,k≤len∧i=.int .i64 k∧J (TK sel k) wr∧Nd wr)
  (fun i _=>len-(intOf i).toNat)
 case atStart=>exact⟨0,eN _,rfl,h0,hN⟩
 case round =>
  obtain⟨k,hk,rfl,hJs,hNw⟩:=hrel
  by_cases hlt:k<len
  ·have hg:=hgb (by omega);subst hg;obtain⟨q0,q1,q2,q3,q4,q5,q6,q7⟩:=hNc _ hNw k hlt;obtain⟨mv,hmv⟩:=hNm _ hNw;have hta:∀o,(wr.alloc o).cell? ⟨tb,0,none⟩=some mv:=fun o=>(hmv _ (World.grownBy_alloc _ o none)).1;have hlk:∀o,(Instr.lookup 182 mv (.int .i64 (c0 k)) false).run Tryz.prog (wr.alloc o)=.ok (.bool (sel k)) (wr.alloc o):=fun o=>(hmv _ (World.grownBy_alloc _ o none)).2 k hlt;have hNa:∀o,Nd (wr.alloc o):=fun o=>hNs _ _ hNw (World.grownBy_alloc _ o none);have hJa:∀o,J (TK sel k) (wr.alloc o):=fun o=>hJ _ _ _ hJs (World.grownBy_alloc _ o none);clear hmv hNm hNc
   cases hsel:sel k with
   |false =>
    rw[hsel] at hlk
    iterate 52 (first|go_values|gi_guarded|gi_step|gi_upon)
    refine⟨fun f hf=>by simp[undef,go_sem] at hf,?_⟩
    gi_wp2
    go_roundw
    case rel=>exact⟨k+1,by omega,by simp,by rw[F9,hsel]; exact hJa _,hNa _⟩
    case measure=>simp[intOf]; omega
   |true =>
    rw[hsel] at hlk
    gi_wp2
    obtain⟨fn,tmps,assign,body,hy,hR⟩:=hY (TK sel k) k (wr.alloc (.cells #[.int .i64 (c0 k),.int .i64 (c1 k),.int .i64 (c2 k),.int .i64 (c3 k),.int .i64 (c4 k),.int .i64 (c5 k),.int .i64 (c6 k),.int .i64 (c7 k)] 108)) (hJa _) (art hlt hsel);rw[hy];refine⟨fun h=>(by cases h),hR.mono ?_⟩;rintro e W3 (⟨rfl,hJ3,hk3⟩|⟨rfl,hJx3⟩)
    ·gi_wp2
     go_roundw
     case rel=>exact⟨k+1,by omega,by simp,by rw[F9,hsel]; exact hJ3,hk3 (hNa _)⟩
     case measure=>simp[intOf]; omega
    ·gi_wp2
     refine bodyPost_ret (results_none rfl _ _ _) rfl ?_;exact⟨⟨_,rfl⟩,.inr ⟨_,trivial,hJx3⟩⟩
  ·obtain rfl:len=k:=by omega
   gi_wp2
   go_end0
   exact⟨⟨_,rfl⟩,.inl ⟨_,rfl,hJs⟩⟩
end Go.Proofs
end

noncomputable section
namespace Go.Proofs
open Go.RowKit
attribute [local go_sem] Oper.semAt_some
def upE (f:Nat→Int) (k:Nat):List Int:=(List.range k).map f
def rQ (f:Nat→Int) (k:Nat):upE f (k+1)=upE f k++[f k]:=by simp[upE,List.range_succ]
def By (f:Nat→Int) (k:Nat):(upE f k).length=k:=by simp[upE]
def OB (f:Nat→Int) {j k:Nat} (h:j≤k):upE f j <+: upE f k:=by
 have:k=j+(k-j):=by omega
 rw[this,upE,upE,List.range_add,ic];exact eV _ _
set_option maxRecDepth 100000 in
set_option maxHeartbeats 1000000 in
def apr (te:TypeId) (n:Nat) (hn:1≤n) (l n₀ bb tb sb:Nat) (flo fhi ga mv:Value) (hbb:bb<n₀) (htb:tb<n₀) (hsb:sb<n₀)
 (ub uo ul uc kb ko kl kc:Nat) (ubase kbase lbase cbase:Option Addr) (ll lc cl cc:Nat) (hub:0<ul→ubase=some ⟨ub,uo,none⟩∧ub<n₀) (hkb:0<kl→kbase=some ⟨kb,ko,none⟩∧kb<n₀)
 (U K:Nat→Int×Int) (eU eL eC eK:Nat→Int)
 (hul:ul≤1000) (hll:ll≤1000) (hcl:cl≤1000) (hkl:kl≤1000)
 (W:World) (hb0:W.heap[bb]?=some (.cells #[flo,fhi,ga,.slice ubase ul uc,.slice lbase ll lc,.slice cbase cl cc,.slice kbase kl kc] te (0,0)))
 (ht:W.cell? ⟨tb,0,none⟩=some (.func (.func 175) #[] #[.pointer (some ⟨sb,0,none⟩)])) (hs:W.cell? ⟨sb,0,none⟩=some mv)
 (hU:∀j,j<ul→W.cell? ⟨ub,uo+j*2,none⟩=some (.int .i64 (U j).1)∧W.cell? ⟨ub,uo+j*2+1,none⟩=some (.int .i64 (U j).2))
 (hK:∀j,j<kl→W.cell? ⟨kb,ko+j*2,none⟩=some (.int .i64 (K j).1)∧W.cell? ⟨kb,ko+j*2+1,none⟩=some (.int .i64 (K j).2))
 (cU:∀j,j<ul→∀W',Below n₀ W W'→CallsIn Fence.wide (n-1) Tryz.prog 175 #[.int .i64 (U j).1,.int .i64 (U j).2,.pointer (some ⟨sb,0,none⟩)] W' fun e W''=>e=.returned (.int .i64 (eU j))∧W'.grownBy W'' none)
 (cK:∀j,j<kl→∀W',Below n₀ W W'→CallsIn Fence.wide (n-1) Tryz.prog 175 #[.int .i64 (K j).1,.int .i64 (K j).2,.pointer (some ⟨sb,0,none⟩)] W' fun e W''=>e=.returned (.int .i64 (eK j))∧W'.grownBy W'' none)
 (cL:∀j,j<ll→∀W',Below n₀ W W'→CallsIn Fence.wide (n-1) Tryz.prog 179 #[.agg #[flo,fhi,ga,.slice ubase ul uc,.slice lbase ll lc,.slice cbase cl cc,.slice kbase kl kc],mv,.int .i64 j] W' fun e W''=>e=.returned (.int .i64 (eL j))∧W'.grownBy W'' none)
 (cC:∀j,j<cl→∀W',Below n₀ W W'→CallsIn Fence.wide (n-1) Tryz.prog 180 #[.agg #[flo,fhi,ga,.slice ubase ul uc,.slice lbase ll lc,.slice cbase cl cc,.slice kbase kl kc],mv,.int .i64 j] W' fun e W''=>e=.returned (.int .i64 (eC j))∧W'.grownBy W'' none)
 (J Jx:List Int→World→Prop) (hJ:∀pre W W',J pre W→W.grownBy W' none→J pre W') (hJx:∀pre W W',Jx pre W→W.grownBy W' none→Jx pre W')
 (hY:∀pre x W,J pre W→pre.length<ul+(ll+(cl+kl))→YieldAt Fence.wide (n-1) Tryz.prog l #[.int .i64 x] W fun e W' =>
  (e=.returned (.bool true)∧J (pre++[x]) W'∧Below n₀ W W')∨(e=.returned (.bool false)∧Jx (pre++[x]) W'))
 (h0 : J [] W) (hn₀ : n₀ ≤ W.heap.size) :
  CallsIn Fence.wide n Tryz.prog 178 #[.func (.yield l) #[] #[],.pointer (some ⟨bb,0,none⟩),.pointer (some ⟨tb,0,none⟩),.pointer (some ⟨sb,0,none⟩)] W fun e W'=>(∃v,e=.returned v) ∧
   ((∃xs,xs=upE eU ul++(upE eL ll++(upE eC cl++upE eK kl))∧J xs W')∨(∃pre,(pre <+: upE eU ul++(upE eL ll++(upE eC cl++upE eK kl)))∧Jx pre W')):=by
 have grown_alloc:∀(X:World) (o:Obj),X.grownBy (X.alloc o) none:=fun X o=>World.grownBy_alloc X o none
 have bel:∀{X Y:World},Below n₀ W X→X.grownBy Y none→Below n₀ W Y:=fun {X Y} h g =>
  ⟨g.os.trans h.os,g.tape.trans h.tape,g.output.trans h.output,dL h.size g.size,fun k hk=>(g.block k (dI (dI hk hn₀) h.size) (by simp)).trans (h.block k hk)⟩
 have hc:∀{X:World},Below n₀ W X→X.heap[bb]?=some (.cells #[flo,fhi,ga,.slice ubase ul uc,.slice lbase ll lc,.slice cbase cl cc,.slice kbase kl kc] te (0,0)):=fun h=>(h.block bb hbb).trans hb0;refine callsIn_of_wp Tryz.func178 rfl trivial ?_ rfl;simp only[Tryz.ntmps178,fp,dn,dH,Nat.reduceAdd,Nat.reduceSub,Array.replicate_succ,Array.replicate_zero,List.push_toArray,gK,f7,fk]
 have hb3:W.cell? ⟨bb,3,none⟩=some (.slice ubase ul uc):=by simp[World.cell?,hb0]
 gi_wp2
 gi_loopw [14] (fun i wr=>∃k:Nat,k≤ul∧i=.int .i64 k∧J (upE eU k) wr∧Below n₀ W wr)
  (fun i _=>ul-(intOf i).toNat)
 case atStart=>exact⟨0,eN _,rfl,h0,Below.refl _ _⟩
 case round =>
  obtain⟨k,hk,rfl,hJs,hnx⟩:=hrel
  by_cases hlt:k<ul
  ·obtain⟨rfl,hlu⟩:=hub (by omega);have hu1:=(hnx.cell (p:=⟨ub,uo+k*2,none⟩) hlu).trans (hU k hlt).1;have hu2:=(hnx.cell (p:=⟨ub,uo+k*2+1,none⟩) hlu).trans (hU k hlt).2;have ht':=(hnx.cell (p:=⟨tb,0,none⟩) htb).trans ht;have hta:∀o,(wr.alloc o).cell? ⟨tb,0,none⟩=some (.func (.func 175) #[] #[.pointer (some ⟨sb,0,none⟩)]):=fun o=>Lib.cell?_alloc_some _ ht'
   gi_wp2
   refine⟨trivial,(cU k hlt _ (bel hnx (grown_alloc _ _))).mono ?_⟩;rintro e W2 ⟨rfl,hg2⟩;obtain⟨fn,tmps,assign,body,hy,hR⟩:=hY _ (eU k) W2 (hJ _ _ _ (hJ _ _ _ hJs (grown_alloc _ _)) hg2) (by rw[By]; omega);have hb2:=bel (bel hnx (grown_alloc _ _)) hg2
   gi_wp2
   refine hR.mono ?_;rintro e W3 (⟨rfl,hJ3,hk3⟩|⟨rfl,hJx3⟩)
   ·gi_wp2
    go_roundw
    case rel=>exact⟨k+1,by omega,by simp,by rw[rQ]; exact hJ3,hb2.trans hk3⟩
    case measure=>simp[intOf]; omega
   ·gi_wp2
    refine bodyPost_ret (results_none rfl _ _ _) rfl ?_;refine⟨⟨_,rfl⟩,.inr ⟨_,?_,hJx3⟩⟩;rw[←rQ];exact(OB eU (by omega)).trans (eV _ _)
  ·obtain rfl:ul=k:=by omega
   have hb4:wr.cell? ⟨bb,4,none⟩=some (.slice lbase ll lc):=by simp[World.cell?,hc hnx]
   gi_wp2
   gi_loopw [31] (fun i wr=>∃k:Nat,k≤ll∧i=.int .i64 k∧J (upE eU ul++upE eL k) wr∧Below n₀ W wr)
    (fun i _=>ll-(intOf i).toNat)
   case atStart=>exact⟨0,eN _,rfl,by simpa[upE] using hJs,hnx⟩
   case round =>
    clear hJs hnx;obtain⟨k,hk,rfl,hJs,hnx⟩:=hrel
    by_cases hlt:k<ll
    ·have q0:wr.cell? ⟨bb,0,none⟩=some flo:=by simp[World.cell?,hc hnx]
     have q1:wr.cell? ⟨bb,1,none⟩=some fhi:=by simp[World.cell?,hc hnx]
     have q2:wr.cell? ⟨bb,2,none⟩=some ga:=by simp[World.cell?,hc hnx]
     have q3:wr.cell? ⟨bb,3,none⟩=some (.slice ubase ul uc):=by simp[World.cell?,hc hnx]
     have q4:wr.cell? ⟨bb,4,none⟩=some (.slice lbase ll lc):=by simp[World.cell?,hc hnx]
     have q5:wr.cell? ⟨bb,5,none⟩=some (.slice cbase cl cc):=by simp[World.cell?,hc hnx]
     have q6:wr.cell? ⟨bb,6,none⟩=some (.slice kbase kl kc):=by simp[World.cell?,hc hnx]
     have hs':=(hnx.cell (p:=⟨sb,0,none⟩) hsb).trans hs
     gi_wp2
     refine⟨trivial,(cL k hlt _ hnx).mono ?_⟩;rintro e W2 ⟨rfl,hg2⟩;obtain⟨fn,tmps,assign,body,hy,hR⟩:=hY _ (eL k) W2 (hJ _ _ _ hJs hg2) (by simp only[di,By]; omega);have hb2:=bel hnx hg2
     gi_wp2
     refine hR.mono ?_;rintro e W3 (⟨rfl,hJ3,hk3⟩|⟨rfl,hJx3⟩)
     ·gi_wp2
      go_roundw
      case rel=>exact⟨k+1,by omega,by simp,by rw[rQ,←dF]; exact hJ3,hb2.trans hk3⟩
      case measure=>simp[intOf]; omega
     ·gi_wp2
      refine bodyPost_ret (results_none rfl _ _ _) rfl ?_;refine⟨⟨_,rfl⟩,.inr ⟨_,?_,hJx3⟩⟩;rw[dF,←rQ];exact(fi _).2 ((OB eL (by omega)).trans (eV _ _))
    ·obtain rfl:ll=k:=by omega
     have hb5:wr.cell? ⟨bb,5,none⟩=some (.slice cbase cl cc):=by simp[World.cell?,hc hnx]
     gi_wp2
     gi_loopw [45] (fun i wr=>∃k:Nat,k≤cl∧i=.int .i64 k∧J (upE eU ul++upE eL ll++upE eC k) wr∧Below n₀ W wr)
      (fun i _=>cl-(intOf i).toNat)
     case atStart=>exact⟨0,eN _,rfl,by simpa[upE] using hJs,hnx⟩
     case round =>
      clear hJs hnx;obtain⟨k,hk,rfl,hJs,hnx⟩:=hrel
      by_cases hlt:k<cl
      ·have q0:wr.cell? ⟨bb,0,none⟩=some flo:=by simp[World.cell?,hc hnx]
       have q1:wr.cell? ⟨bb,1,none⟩=some fhi:=by simp[World.cell?,hc hnx]
       have q2:wr.cell? ⟨bb,2,none⟩=some ga:=by simp[World.cell?,hc hnx]
       have q3:wr.cell? ⟨bb,3,none⟩=some (.slice ubase ul uc):=by simp[World.cell?,hc hnx]
       have q4:wr.cell? ⟨bb,4,none⟩=some (.slice lbase ll lc):=by simp[World.cell?,hc hnx]
       have q5:wr.cell? ⟨bb,5,none⟩=some (.slice cbase cl cc):=by simp[World.cell?,hc hnx]
       have q6:wr.cell? ⟨bb,6,none⟩=some (.slice kbase kl kc):=by simp[World.cell?,hc hnx]
       have hs':=(hnx.cell (p:=⟨sb,0,none⟩) hsb).trans hs
       gi_wp2
       refine⟨trivial,(cC k hlt _ hnx).mono ?_⟩;rintro e W2 ⟨rfl,hg2⟩;obtain⟨fn,tmps,assign,body,hy,hR⟩:=hY _ (eC k) W2 (hJ _ _ _ hJs hg2) (by simp only[di,By]; omega);have hb2:=bel hnx hg2
       gi_wp2
       refine hR.mono ?_;rintro e W3 (⟨rfl,hJ3,hk3⟩|⟨rfl,hJx3⟩)
       ·gi_wp2
        go_roundw
        case rel=>exact⟨k+1,by omega,by simp,by rw[rQ,←dF]; exact hJ3,hb2.trans hk3⟩
        case measure=>simp[intOf]; omega
       ·gi_wp2
        refine bodyPost_ret (results_none rfl _ _ _) rfl ?_;refine⟨⟨_,rfl⟩,.inr ⟨_,?_,hJx3⟩⟩;rw[dF,←rQ]
        exact by rw[dF]; exact(fi _).2 ((fi _).2 ((OB eC (by omega)).trans (eV _ _)))
      ·obtain rfl:cl=k:=by omega
       have hb6:wr.cell? ⟨bb,6,none⟩=some (.slice kbase kl kc):=by simp[World.cell?,hc hnx]
       gi_wp2
       gi_loopw [59] (fun i wr=>∃k:Nat,k≤kl∧i=.int .i64 k∧J ((upE eU ul++upE eL ll++upE eC cl)++upE eK k) wr∧Below n₀ W wr)
        (fun i _=>kl-(intOf i).toNat)
       case atStart=>exact⟨0,eN _,rfl,by simpa[upE] using hJs,hnx⟩
       case round =>
        clear hJs hnx;obtain⟨k,hk,rfl,hJs,hnx⟩:=hrel
        by_cases hlt:k<kl
        ·obtain⟨rfl,hlk⟩:=hkb (by omega);have hu1:=(hnx.cell (p:=⟨kb,ko+k*2,none⟩) hlk).trans (hK k hlt).1;have hu2:=(hnx.cell (p:=⟨kb,ko+k*2+1,none⟩) hlk).trans (hK k hlt).2;have ht':=(hnx.cell (p:=⟨tb,0,none⟩) htb).trans ht;have hta:∀o,(wr.alloc o).cell? ⟨tb,0,none⟩=some (.func (.func 175) #[] #[.pointer (some ⟨sb,0,none⟩)]):=fun o=>Lib.cell?_alloc_some _ ht'
         gi_wp2
         refine⟨trivial,(cK k hlt _ (bel hnx (grown_alloc _ _))).mono ?_⟩;rintro e W2 ⟨rfl,hg2⟩;obtain⟨fn,tmps,assign,body,hy,hR⟩:=hY _ (eK k) W2 (hJ _ _ _ (hJ _ _ _ hJs (grown_alloc _ _)) hg2) (by simp only[di,By]; omega);have hb2:=bel (bel hnx (grown_alloc _ _)) hg2
         gi_wp2
         refine hR.mono ?_;rintro e W3 (⟨rfl,hJ3,hk3⟩|⟨rfl,hJx3⟩)
         ·gi_wp2
          go_roundw
          case rel=>exact⟨k+1,by omega,by simp,by rw[rQ,←dF]; exact hJ3,hb2.trans hk3⟩
          case measure=>simp[intOf]; omega
         ·gi_wp2
          refine bodyPost_ret (results_none rfl _ _ _) rfl ?_;refine⟨⟨_,rfl⟩,.inr ⟨_,?_,hJx3⟩⟩;rw[dF,←rQ,dF,dF];exact(fi _).2 ((fi _).2 ((fi _).2 (OB eK (by omega))))
        ·obtain rfl:kl=k:=by omega
         gi_wp2
         go_end0
         exact⟨⟨_,rfl⟩,.inl ⟨_,rfl,by simpa[dF] using hJs⟩⟩
end Go.Proofs
end

noncomputable section
set_option maxRecDepth 100000
namespace Go.Proofs.ZzM
open Go Go.Am Go.RowKit
def aiB (p:String):Code:=.region 10 #[{dst:=some 5,op:=.assign (.tmp 49),type:=35,pos:=p,after:=#[],guard:=none}] false
def aqU (q r:String):Code:=.block 1 (.seq (.region 11 #[{dst:=some 50,op:=.move (.tmp 5),type:=35,pos:=q,after:=#[],guard:=none},{dst:=some 51,op:=.binOp .neq 35 (.tmp 50) (.const (.int .i64 0)) 35,type:=4,pos:=q,after:=#[{on:=0,ground:=.data}],guard:=none}] false)
 (.cond (.tmp 51) (.seq (.region 12 #[{dst:=some 52,op:=.move (.tmp 5),type:=35,pos:=r,after:=#[],guard:=none},{dst:=none,op:=.store 35 (.tmp 2) (.tmp 52),type:=0,pos:=r,after:=#[{on:=0,ground:=.data},{on:=0,ground:=.phase}],guard:=none}] false) .ret) .skip))
section
variable {P:Program} {F:Fence} {n:Nat}
def Gx {ops:Array Oper} {i d:Nat} {o:Oper} {u:Value} {w w':World} {a:Act} {next:Act→World→Prop} {Q:Exit→Act→World→Prop} (hF:∀f,F.fn f) (ho:ops[i]?=some o) (hg:o.guard=none) (hd:o.dst=some d) (hdf:∀c,o.op≠.defer c)
 (hrun:(execOp a.eval o).run P w=.ok (.value u) w') (k:next (a.put (some d) u) w'):wpOpIn F n P ops Q i next a w:=by
 unfold wpOpIn;rw[ho]
 have hw:Region.wanted o (yielded ops a.tmps)=true:=by simp[Region.wanted,hg]
 simp only[hw,if_true];refine⟨fun _ _=>hF _,?_⟩;rw[Oper.semAt_eq _ _ _ hdf,hrun];rw[←hd] at k;exact k
def aka {ops:Array Oper} {i:Nat} {o:Oper} {w w':World} {a:Act} {next:Act→World→Prop} {Q:Exit→Act→World→Prop} (hF:∀f,F.fn f) (ho:ops[i]?=some o) (hg:o.guard=none) (hd:o.dst=none) (hdf:∀c,o.op≠.defer c)
 (hrun:(execOp a.eval o).run P w=.ok .skip w') (k:next a w'):wpOpIn F n P ops Q i next a w:=by
 unfold wpOpIn;rw[ho]
 have hw:Region.wanted o (yielded ops a.tmps)=true:=by simp[Region.wanted,hg]
 simp only[hw,if_true];refine⟨fun _ _=>hF _,?_⟩;rw[Oper.semAt_eq _ _ _ hdf,hrun];show next (a.put o.dst undef) w';rw[hd];exact k
end
def ke (T:Array Value) (i j:Nat) (v:Value):(T.setIfInBounds i v).getD j undef=if i=j∧i<T.size then v else T.getD j undef:=by
 simp only[dY,fH]
 by_cases h:i=j
 ·subst h
  by_cases h2:i<T.size
  ·simp[h2]
  ·simp[h2]
 ·simp[h]
def aiW (D:Nat):Deferred:={target:=.collected D,args:=#[]}
structure Put1 (n₀ rb:Nat) (x:Int) (w W:World):Prop where
 os:W.os=w.os
 tape:W.tape=w.tape
 output:W.output=w.output
 size:w.heap.size≤W.heap.size
 block:∀k,k<n₀→k≠rb→W.heap[k]?=w.heap[k]?
 cell:∃e,W.heap[rb]?=some (.cells #[.int .i64 x] e (0,0))
set_option maxHeartbeats 4000000 in
def arv {a:Act} {w:World} {Q:Exit→Act→World→Prop} {lb:Array Value} {L:List Int} {rb:Nat} {e0:TypeId} {v0:Value} {p q r:String}
 (hseq:SeqStopsK Fence.wide 1 Tryz.prog 178 lb (fun x:Int=>#[.int .i64 x]) (Below w.heap.size) (fun xs=>xs=L) (fun pre=>pre <+: L) L.length w)
 (hg:a.tmps.getD 48 undef=.func (.func 178) #[] lb) (h2:a.tmps.getD 2 undef=.pointer (some ⟨rb,0,none⟩)) (hsz:78≤a.tmps.size)
 (hrb:w.heap[rb]?=some (.cells #[v0] e0 (0,0)))
 (hdone:∀D W,(∀x∈L,x=0)→Below w.heap.size w W→w.heap.size≤D→W.heap[D]?=some (.deferred (some []))→Q .normal {a with defers:=aiW D::a.defers} W)
 (hstop:∀D W x,L.find? (fun e=>e != 0)=some x→Put1 w.heap.size rb x w W→w.heap.size≤D→W.heap[D]?=some (.deferred (some []))→Q .ret {a with defers:=aiW D::a.defers} W) :
 (Code.rangeFunc (.tmp 48) #[49] (aiB p) (aqU q r)).wpIn Fence.wide 2 Tryz.prog Q a w:=by
 have hT:∀f,Fence.wide.fn f:=fun _=>trivial;have hrl:=ę hrb
 refine wpIn_rangeFunc_ownF (α:=Int) (encs:=fun x=>#[.int .i64 x]) (Kp:=Below w.heap.size) (S:=fun xs=>xs=L) (Sp:=fun pre=>pre <+: L) (N:=L.length) (w0:=w) rfl (by omega) hg trivial (fun args w=>?eg) hseq
  (fun h k=>h.trans k) (fun W l o o' hl ho hc hw=>belowK_b (dg _) W l o o' hl ho hc hw) (Below.refl _ _) (fun _=>rfl)
  (fun pre W=>(∀x∈pre,x=0)∧Below w.heap.size w W)
  (fun c pre W=>c=.ret∧∃pre' x,pre=pre'++[x]∧(∀x∈pre',x=0)∧x≠0∧Put1 w.heap.size rb x w W)
  ?hI ?hIx ⟨by simp,Below.refl _ _⟩ (fun x=>{tmps:=(a.tmps.setIfInBounds 49 (.int .i64 x)).setIfInBounds 5 (.int .i64 x),defers:=[]}) ?hassign ?hbody ?hdone ?hstop
 case eg=>simp[callFunc,Sem.run_bind,run_program,Result.andThen_ok,Tryz.func178,plain 178 _ Tryz.func178,show Tryz.f178.body.isNone=false from rfl]; rfl
 case hI =>
  intro s W W' row ⟨h1,h2⟩ hgr hr;exact⟨h1,hgr.os.trans h2.os,hgr.tape.trans h2.tape,hgr.output.trans h2.output,dL h2.size hgr.size,fun k hk=>(hgr.block k (dI hk h2.size) (fun e=>by have:=(hr k e.symm).1; omega)).trans (h2.block k hk)⟩
 case hIx =>
  intro c s W W' row ⟨h1,pre',x,h3,h4,h5,h6⟩ hgr hr;have hb:∀k,k<w.heap.size→W'.heap[k]?=W.heap[k]?:=fun k hk=>hgr.block k (dI hk h6.size) (fun e=>by have:=(hr k e.symm).1; omega)
  exact⟨h1,pre',x,h3,h4,h5,hgr.os.trans h6.os,hgr.tape.trans h6.tape,hgr.output.trans h6.output,dL h6.size hgr.size,fun k hk hne=>(hb k hk).trans (h6.block k hk hne),by
   obtain⟨e,he⟩:=h6.cell
   exact⟨e,(hb rb hrl).trans he⟩⟩
 case hassign =>
  intro l x W K hK
  have hf:((#[49]:Array Tmp).zip #[Value.int .i64 x]).foldl (fun t (p,v)=>t.setIfInBounds p v) a.tmps=a.tmps.setIfInBounds 49 (.int .i64 x):=by simp
  rw[hf];refine wpIn_region ?_;rw[show ∀o:Oper,List.range (#[o]:Array Oper).size=[0] from fun _=>rfl,wpOpsIn_cons];refine Gx (d:=5) (u:=.int .i64 x) (w':=W) hT rfl rfl rfl (by simp) ?_ hK;show Result.ok (Next.value ((a.tmps.setIfInBounds 49 (.int .i64 x)).getD 49 undef)) W=_;rw[ke,if_pos ⟨rfl,by omega⟩]
 case hbody =>
  intro l pre x W ⟨h1,hbel⟩ hpre;refine wpIn_block (wpIn_seq (wpIn_region ?_));rw[show ∀o p:Oper,List.range (#[o,p]:Array Oper).size=[0,1] from fun _ _=>rfl,wpOpsIn_cons]
  refine Gx (d:=50) (u:=.int .i64 x) (w':=W) hT rfl rfl rfl (by simp) (by
   show Result.ok (Next.value (((a.tmps.setIfInBounds 49 (.int .i64 x)).setIfInBounds 5 (.int .i64 x)).getD 5 undef)) W=_
   rw[ke,if_pos ⟨rfl,by simp; omega⟩]) ?_
  rw[wpOpsIn_cons]
  refine Gx (d:=51) (u:=.bool (x != 0)) (w':=W) hT rfl rfl rfl (by simp) (by
   show((do let u ←(do eqGuard .neq 35 (.tmp 50) (.const (.int .i64 0)) ((((a.tmps.setIfInBounds 49 (.int .i64 x)).setIfInBounds 5 (.int .i64 x)).setIfInBounds 50 (.int .i64 x)).getD 50 undef) (.int .i64 0); binOp .neq 35 ((((a.tmps.setIfInBounds 49 (.int .i64 x)).setIfInBounds 5 (.int .i64 x)).setIfInBounds 50 (.int .i64 x)).getD 50 undef) (.int .i64 0)); pure (.value u)):Sem Next).run Tryz.prog W=_;rw[ke,if_pos ⟨rfl,by simp; omega⟩]
   simp[eqGuard,binOp,Op.intCmp]) ?_
  show Code.wpIn (Fence.wide.inRound l) (2-1-1) Tryz.prog (Code.cond (.tmp 51) _ .skip) _ {tmps:=((((a.tmps.setIfInBounds 49 (.int .i64 x)).setIfInBounds 5 (.int .i64 x)).setIfInBounds 50 (.int .i64 x)).setIfInBounds 51 (.bool (x != 0))),defers:=[]} W;obtain⟨T,hTd⟩:∃T,T=((((a.tmps.setIfInBounds 49 (.int .i64 x)).setIfInBounds 5 (.int .i64 x)).setIfInBounds 50 (.int .i64 x)).setIfInBounds 51 (.bool (x != 0))):=⟨_,rfl⟩;rw[←hTd]
  have t51:T.getD 51 undef=.bool (x != 0):=by rw[hTd,ke,if_pos ⟨rfl,by simp; omega⟩]
  have t5:T.getD 5 undef=.int .i64 x:=by rw[hTd,ke,if_neg (by simp),ke,if_neg (by simp),ke,if_pos ⟨rfl,by simp; omega⟩]
  have t2:T.getD 2 undef=.pointer (some ⟨rb,0,none⟩):=by rw[hTd,ke,if_neg (by simp),ke,if_neg (by simp),ke,if_neg (by simp),ke,if_neg (by simp),h2]
  have tsz:78≤T.size:=by rw[hTd]; simpa using hsz
  clear hTd
  by_cases hx:x=0
  ·have e51:Act.eval {tmps:=T,defers:=[]} (.tmp 51)=.bool false:=t51.trans (by simp[hx]);refine wpIn_cond_false e51 (wpIn_skip ?_);simp only[Exit.inBlock,ownPostK];exact⟨KeepsOthers.refl _,Below.refl _ _,fun y hy=>(dk.1 hy).elim (h1 y) (fun h=>by rw[dt] at h; rw[h,hx]),hbel⟩
  ·have e51:Act.eval {tmps:=T,defers:=[]} (.tmp 51)=.bool true:=t51.trans (by simp[hx]);refine wpIn_cond_true e51 (wpIn_seq (wpIn_region ?_));rw[show ∀o p:Oper,List.range (#[o,p]:Array Oper).size=[0,1] from fun _ _=>rfl,wpOpsIn_cons]
   have e5:(execOp (Act.eval {tmps:=T,defers:=[]}) {dst:=some 52,op:=.move (.tmp 5),type:=35,pos:=r,after:=#[],guard:=none}).run Tryz.prog W=.ok (.value (.int .i64 x)) W:=by
    show Result.ok (Next.value (T.getD 5 undef)) W=_;rw[t5]
   refine Gx (d:=52) (u:=.int .i64 x) (w':=W) hT rfl rfl rfl (by simp) e5 ?_;rw[wpOpsIn_cons];have hW:W.heap[rb]?=some (.cells #[v0] e0 (0,0)):=(hbel.block rb hrl).trans hrb
   letI:ø:=⟨fun _=>False,[],none⟩
   have hst:=rS (P:=Tryz.prog) (w:=W) (t:=35) (u:=.int .i64 x) (n:=1) (b:=rb) (o:=0) (by kernel_rfl) rfl hW (by simp) (by simp[Value.cells,Value.oneCell'])
   have hst':(storeVar 35 ⟨rb,0,none⟩ (.int .i64 x)).run Tryz.prog W=.ok () (W.setRow rb #[.int .i64 x]):=by simpa[Value.cells] using hst
   have t52:(T.setIfInBounds 52 (.int .i64 x)).getD 52 undef=.int .i64 x:=by rw[ke,if_pos ⟨rfl,by omega⟩]
   have t2':(T.setIfInBounds 52 (.int .i64 x)).getD 2 undef=.pointer (some ⟨rb,0,none⟩):=by rw[ke,if_neg (by simp),t2]
   have e6:(execOp (Act.eval {tmps:=T.setIfInBounds 52 (.int .i64 x),defers:=[]}) {dst:=none,op:=.store 35 (.tmp 2) (.tmp 52),type:=0,pos:=r,after:=#[{on:=0,ground:=.data},{on:=0,ground:=.phase}],guard:=none}).run Tryz.prog W=.ok .skip (W.setRow rb #[.int .i64 x]):=by
    show((do Instr.storeAt 35 ((T.setIfInBounds 52 (.int .i64 x)).getD 2 undef) ((T.setIfInBounds 52 (.int .i64 x)).getD 52 undef); pure .skip):Sem Next).run Tryz.prog W=_;rw[t52,t2'];simp[Instr.storeAt,Instr.sureAddr,hst']
   refine aka (w':=W.setRow rb #[.int .i64 x]) hT rfl rfl rfl (by simp) e6 ?_;refine wpIn_ret ?_;simp only[Exit.inBlock,ownPostK];refine⟨⟨by simp,fun k o hk ho=>?_⟩,trivial,pre,x,rfl,h1,hx,hbel.os,hbel.tape,hbel.output,by simpa using hbel.size,fun k hk hne=>(setRow_other _ _ _ _ hne).trans (hbel.block k hk),⟨_,setRow_heap _ _ _ _ _ _ hW⟩⟩
   by_cases hk2:k=rb
   ·subst hk2; rw[hW] at hk; cases hk; simp[Obj.isCells] at ho
   ·rw[setRow_other _ _ _ _ hk2]; exact hk
 case hdone =>
  intro D xs W hD hS ⟨h1,hbel⟩ hDo;subst hS;exact hdone D W h1 hbel hD hDo
 case hstop =>
  intro D c pre W hD hS ⟨hc,pre',x,h3,h4,h5,h6⟩ hDo;subst hc;refine wpIn_ret (hstop D W x ?_ h6 hD hDo);obtain⟨t,rfl⟩:=hS;rw[h3,dF,List.find?_append]
  have:List.find? (fun e=>e != 0) pre'=none:=eT.2 fun y hy=>by simp[h4 y hy]
  rw[this];simp[h5]
end Go.Proofs.ZzM
end

noncomputable section
set_option maxRecDepth 100000
namespace Go.Proofs.ZzM
open Go Go.Am Go.RowKit
def fstC:Code→Code
 |.seq a _=>a
 |c=>c
def sndC:Code→Code
 |.seq _ b=>b
 |c=>c
def amq:Nat→Code→Code
 |0,c=>fstC c
 |n+1,c=>amq n (sndC c)
def ap4:Nat→Code→Code
 |0,c=>c
 |n+1,c=>ap4 n (sndC c)
def ckB:Code:=Tryz.f43.body.getD .skip
def ckA5:Code:=fstC (ap4 5 ckB |> fstC)
def ckRF:Code:=sndC (ap4 5 ckB |> fstC)
def Xw:Code:=sndC (ap4 5 ckB)
def ckPre:Code:=.seq (amq 0 ckB) (.seq (amq 1 ckB) (.seq (amq 2 ckB) (.seq (amq 3 ckB) (.seq (amq 4 ckB) ckA5))))
def arf:Tryz.f43.body=some (.seq (amq 0 ckB) (.seq (amq 1 ckB) (.seq (amq 2 ckB) (.seq (amq 3 ckB) (.seq (amq 4 ckB) (.seq (.seq ckA5 ckRF) Xw)))))):=by kernel_rfl
def ck_pt:List (Nat×Ö):=[(113,Gv),(111,En),(109,uD),(110,zd)]
def ckE (ρ:Type):Env ρ:=Ù ck_pt []
abbrev ckR:Type:=Int ⊕ (List AV×List Blk)
def anI (S:St):Option Int:=match qu Tryz.prog Tryz.f43 S with
 |some v=>ą [tI] S.h v
 |none=>none
def ckK (e:Exit) (S:St):Option ckR:=match e with
 |.ret=>match anI S with
  |some n=>some (.inl n)
  |none=>none
 |.normal=>match decide (78≤S.t.length) with
  |true=>some (.inr ([lk S.t 1,lk S.t 2,lk S.t 48],S.h))
  |false=>none
 |_=>none
def ckH (x:Val Ä) (s:Val (.map tI Ï)) (n:Int):List Blk :=
 [.cells (flat Ä x),.cells [.int .i64 n],.cells (flat Ä x),.cells [.mp tI Ï s],.cells [.fn (.func 175) [] [.box 3 0]]]
def ckM (x:Val Ä):Option ckR :=
 Ã (ε x.1 (0:Int) (1000000:Int)) fun r1=>ifb (!r1) (some (.inl 1)) (ifb (igt (Ó x.2.1) (12:Int)) (some (.inl 2)) (ifb (igt (Ó x.2.2.1) (40:Int)) (some (.inl 2)) (ifb (igt (Ó x.2.2.2.1) (12:Int)) (some (.inl 2)) (ifb (igt (Ó x.2.2.2.2.1) (40:Int)) (some (.inl 2)) (ifb (igt (Ó x.2.2.2.2.2) (10:Int)) (some (.inl 2))
  (Ã (Ζ x) fun r2=>ifb (ine r2 (0:Int)) (some (.inl r2)) (Ã (iu x) fun r3=>some (.inr ([.box 0 0,.box 1 0,.fn (.func 178) [] [.box 2 0,.box 4 0,.box 3 0]],ckH x r3 0)))))))))
def ck_pre (x:Val Ä):goC (ckE ckR) (kr (ckE ckR) 10) 43 [] 0 0 ckPre {t:=Ā [Ä] x++List.replicate 77 .any,h:=[]} ckK=ckM x:=by kernel_rfl
def aqi (ρ:Type):Env ρ:={ckE ρ with inl:=fun _=>false}
def ckS (x:Val Ä):Option Int :=
 Ã (rG x) fun r5=>ifb (igt (Ó r5) (59:Int)) (some (2:Int)) (ck ((2:Int)*(Ó x.2.1)) fun n6=>ck ((Ó r5)-(Ó x.2.1)) fun n7=>ck ((2:Int)*n7) fun n8=>ck (n6+n8) fun n9=>ck ((2:Int)*(Ó x.2.2.2.2.1)) fun n10=>ck (n9+n10) fun n11=>ifb (igt n11 (300:Int)) (some (2:Int)) (some (0:Int)))
def ckK2 (e:Exit) (S:St):Option Int:=match e with
 |.ret=>match lk S.t 2 with
  |.box 1 0=>match lkB S.h 1 with
   |.cells [.int .i64 n]=>some n
   |_=>none
  |_=>none
 |_=>none
def ck_suf (x:Val Ä) (s:Val (.map tI Ï)):goC (aqi Int) (kr (aqi Int) 10) 43 [] 0 0 Xw {t:=[.any,.box 0 0,.box 1 0]++List.replicate 75 .any,h:=ckH x s 0} ckK2=ckS x:=by kernel_rfl
def aqh (x:Val Ä):ù x=match ckM x with
 |none=>none
 |some (.inl n)=>some n
 |some (.inr _)=>Ã (iu x) fun s=>ace (oz x s) some (ckS x):=by
 unfold ù Sk ckM ckS
 cases ε x.1 (0:Int) (1000000:Int) with
 |none=>rfl
 |some r1 =>
 cases r1 with
 |false=>rfl
 |true =>
 simp only[Ã,ifb,dT]
 cases igt (Ó x.2.1) (12:Int) with
 |true=>rfl
 |false =>
 cases igt (Ó x.2.2.1) (40:Int) with
 |true=>rfl
 |false =>
 cases igt (Ó x.2.2.2.1) (12:Int) with
 |true=>rfl
 |false =>
 cases igt (Ó x.2.2.2.2.1) (40:Int) with
 |true=>rfl
 |false =>
 cases igt (Ó x.2.2.2.2.2) (10:Int) with
 |true=>rfl
 |false =>
 cases Ζ x with
 |none=>rfl
 |some r2 =>
 simp only
 cases ine r2 (0:Int) with
 |true=>rfl
 |false =>
 cases iu x with
 |none=>rfl
 |some r3=>rfl
def asa {x:Val Ä} {q:List AV×List Blk} (h:ckM x=some (.inr q)):((x.2.2.1:List (Val Â)).length≤1000∧(x.2.2.2.1:List (Val Ŏ)).length≤1000∧(x.2.2.2.2.1:List (Val Ì)).length≤1000∧(x.2.2.2.2.2:List (Val Â)).length≤1000) ∧
 ∃s,iu x=some s∧q=([.box 0 0,.box 1 0,.fn (.func 178) [] [.box 2 0,.box 4 0,.box 3 0]],ckH x s 0):=by
 unfold ckM at h
 cases h0:ε x.1 (0:Int) (1000000:Int) with
 |none=>rw[h0] at h; cases h
 |some r1 =>
 rw[h0] at h
 cases r1 with
 |false=>cases h
 |true =>
 simp only[Ã,ifb,dT] at h
 cases h1:igt (Ó x.2.1) (12:Int) with
 |true=>rw[h1] at h; cases h
 |false =>
 rw[h1] at h
 cases h2:igt (Ó x.2.2.1) (40:Int) with
 |true=>rw[h2] at h; cases h
 |false =>
 rw[h2] at h
 cases h3:igt (Ó x.2.2.2.1) (12:Int) with
 |true=>rw[h3] at h; cases h
 |false =>
 rw[h3] at h
 cases h4:igt (Ó x.2.2.2.2.1) (40:Int) with
 |true=>rw[h4] at h; cases h
 |false =>
 rw[h4] at h
 cases h5:igt (Ó x.2.2.2.2.2) (10:Int) with
 |true=>rw[h5] at h; cases h
 |false =>
 rw[h5] at h
 cases h6:Ζ x with
 |none=>rw[h6] at h; cases h
 |some r2 =>
 rw[h6] at h;simp only at h
 cases h7:ine r2 (0:Int) with
 |true=>rw[h7] at h; cases h
 |false =>
 rw[h7] at h
 cases h8:iu x with
 |none=>rw[h8] at h; cases h
 |some r3 =>
 rw[h8] at h
 have lt:∀{α:Type} (l:List α) (n:Nat),igt (Ó l) (n:Int)=false→l.length≤n:=by
  intro α l n h;unfold Ó at h;rw[PM] at h;simp only[igt,gt_iff_lt,decide_eq_false_iff_not] at h;omega
 simp only[Option.some.injEq,Sum.inr.injEq] at h;exact⟨⟨by have:=lt x.2.2.1 40 h2; omega,by have:=lt x.2.2.2.1 12 h3; omega,by have:=lt x.2.2.2.2.1 40 h4; omega,by have:=lt x.2.2.2.2.2 10 h5; omega⟩,r3,rfl,h.symm⟩
def GD {α β:Type} {f:α→Option β}:∀{l:List α} {m:List β},PS f l=some m→m.length=l.length∧∀(i:Nat) (a:α),l[i]?=some a→∃b,m[i]?=some b∧f a=some b
 |[],m,h=>by cases h; exact⟨rfl,fun i a ha=>by simp at ha⟩
 |a::l,m,h=>by
  unfold PS at h
  cases ha:f a with
  |none=>rw[ha] at h; cases h
  |some b =>
   rw[ha] at h
   cases hl:PS f l with
   |none=>rw[hl] at h; cases h
   |some m' =>
    rw[hl] at h;cases h;obtain⟨h1,h2⟩:=GD hl;refine⟨by simp[h1],fun i c hc=>?_⟩
    cases i with
    |zero=>simp at hc; subst hc; exact⟨b,by simp,ha⟩
    |succ i=>simpa using h2 i c (by simpa using hc)
def OC (l:List Int):upE (fun j=>l[j]?.getD 0) l.length=l:=by
 unfold upE;refine List.ext_getElem (by simp) fun i h1 h2=>?_;simp at h1;simp[h1]
def CR.below {n₀:Nat} {w W:World} {av:Nat→Prop} (hb:Below n₀ w W) (hn:w.heap.size≤n₀) {t:Ty} {x:Val t} {vs:List Value} (h:CR w av t x vs):CR W av t x vs :=
 h.keep fun b hlt ha=>⟨hb.block b (dI hlt hn),ha⟩
def Pg {w:World} {av:Nat→Prop} {xs:List (Int×Int)} {v:Value} (h:CR w av (.slice Â) xs [v]):∃base cap b off,v=.slice base xs.length cap∧(0<xs.length→base=some ⟨b,off,none⟩∧b<w.heap.size) ∧
 ∀j,j<xs.length→w.cell? ⟨b,off+j*2,none⟩=some (.int .i64 (xs[j]?.getD (0,0)).1)∧w.cell? ⟨b,off+j*2+1,none⟩=some (.int .i64 (xs[j]?.getD (0,0)).2):=by
 obtain⟨base,cap,e,hc,hx⟩:=h;cases e;rcases hx with hx|⟨b,off,hb,hav,hlt,hx⟩
 ·refine⟨base,cap,0,0,rfl,fun h=>?_,fun j hj=>?_⟩
  ·rw[show xs=[] from hx] at h; simp at h
  ·rw[show xs=[] from hx] at hj; simp at hj
 ·refine⟨base,cap,b,off,rfl,fun _=>⟨hb,hlt⟩,fun j hj=>?_⟩;obtain⟨us,h1,h2⟩:=hx j xs[j] (df hj);obtain⟨u1,u2,e1,h3,h4⟩:=h1;have e3:u1=[.int .i64 xs[j].1]:=h3;have e4:u2=[.int .i64 xs[j].2]:=h4;subst e3 e4 e1;have s:(Â).size=2:=rfl;rw[s] at h2;have c1:=h2 0 _ rfl;have c2:=h2 1 _ rfl;rw[df hj];exact⟨by simpa using c1,by simpa[fF] using c2⟩
end Go.Proofs.ZzM
end

noncomputable section
set_option maxRecDepth 100000
namespace Go.Proofs.ZzM
open Go Go.Am Go.RowKit
section
variable {w W W':World}
abbrev noG:Nat→Prop:=fun _=>False
def aaW (w:World) (n:Int):lI w noG tI n (.int .i64 n):=⟨[.int .i64 n],rfl,rfl⟩
def arN {sb:Nat} {mv:Value} {e:TypeId} {s:Val (.map tI Ï)} (h:w.heap[sb]?=some (.cells #[mv] e (0,0))) (hm:CR w noG (.map tI Ï) s [mv]):lI w noG (.ptr (.map tI Ï)) s (.pointer (some ⟨sb,0,none⟩)):=by
 letI:ø:=⟨fun _=>False,[],none⟩
 exact⟨[.pointer (some ⟨sb,0,none⟩)],⟨sb,0,[mv],rfl,id,ę h,hm,Ň.of_cells h⟩,rfl⟩
def arw {y:Int} {u:Value} (h:RR w noG [tI] y u):u=.int .i64 y:=by
 obtain⟨us,h1,rfl⟩:=h;have:us=[.int .i64 y]:=h1;rw[this]; rfl
def apU (h1:∀b,b<W.heap.size→W'.heap[b]?=W.heap[b]?) (h2:W.heap.size≤W'.heap.size) (h3:W'.os=W.os) (h4:W'.tape=W.tape) (h5:W'.output=W.output):W.grownBy W' none :=
 ⟨h3,h4,h5,h2,fun b hb _=>h1 b hb⟩
def abh {f:Nat} {p:Ö} (hp:jt Tryz.prog f p) (hrs:p.rs=[tI]) {x:Val (tyL p.ts)} {y:Int} (hF:p.F x=some (hrs▸(show Val (tyL [tI]) from y))) {vals:List Value} (ha:AL W noG p.ts x vals) :
 CallsIn Fence.wide 0 Tryz.prog f vals.toArray W fun e W''=>e=.returned (.int .i64 y)∧W.grownBy W'' none:=by
 obtain⟨ts,rs,F⟩:=p;dsimp only at hrs hF ha x;subst hrs;refine(hp noG x y hF W vals (fun _ h=>h.elim) ha).2.mono fun e w' ⟨u,h0,h1,h2,h3,h4,h5,h6⟩=>⟨?_,apU h2 h3 h4 h5 h6⟩;rw[h0,arw h1]
def abN {s:Val (.map tI Ï)} {a b y:Int} (hF:Ņ a b s=some y) {sb:Nat} {mv:Value} {e:TypeId} (h:W.heap[sb]?=some (.cells #[mv] e (0,0))) (hm:CR W noG (.map tI Ï) s [mv]) :
 CallsIn Fence.wide 0 Tryz.prog 175 #[.int .i64 a,.int .i64 b,.pointer (some ⟨sb,0,none⟩)] W fun e W''=>e=.returned (.int .i64 y)∧W.grownBy W'' none :=
 abh ahY rfl (x:=(a,b,s)) (y:=y) hF (vals:=[.int .i64 a,.int .i64 b,.pointer (some ⟨sb,0,none⟩)]) ⟨_,_,rfl,aaW _ _,_,_,rfl,aaW _ _,_,rfl,arN h hm⟩
def amE {mv:Value} {s:Val (.map tI Ï)} (hm:CR W noG (.map tI Ï) s [mv]):lI W noG (.map tI Ï) s mv:=⟨[mv],hm,rfl⟩
def ajC {x:Val Ä} {cs:Array Value} (hb:CR W noG Ä x cs.toList):lI W noG Ä x (.agg cs):=⟨cs.toList,hb,by show Value.agg cs=Value.agg cs.toList.toArray; rw[Array.toArray_toList]⟩
def amP {x:Val Ä} {s:Val (.map tI Ï)} {i y:Int} (hF:ο x s i=some y) {mv:Value} {cs:Array Value} (hb:CR W noG Ä x cs.toList) (hm:CR W noG (.map tI Ï) s [mv]) :
 CallsIn Fence.wide 0 Tryz.prog 179 #[.agg cs,mv,.int .i64 i] W fun e W''=>e=.returned (.int .i64 y)∧W.grownBy W'' none :=
 abh abp rfl (x:=(x,s,i)) (y:=y) hF (vals:=[.agg cs,mv,.int .i64 i]) ⟨_,_,rfl,ajC hb,_,_,rfl,amE hm,_,rfl,aaW _ _⟩
def afp {x:Val Ä} {s:Val (.map tI Ï)} {i y:Int} (hF:ŋ x s i=some y) {mv:Value} {cs:Array Value} (hb:CR W noG Ä x cs.toList) (hm:CR W noG (.map tI Ï) s [mv]) :
 CallsIn Fence.wide 0 Tryz.prog 180 #[.agg cs,mv,.int .i64 i] W fun e W''=>e=.returned (.int .i64 y)∧W.grownBy W'' none :=
 abh Ox rfl (x:=(x,s,i)) (y:=y) hF (vals:=[.agg cs,mv,.int .i64 i]) ⟨_,_,rfl,ajC hb,_,_,rfl,amE hm,_,rfl,aaW _ _⟩
end
def qr {w:World} {av:Nat→Prop} {t:Ty} {xs:List (Val t)} {vs:List Value} (h:CR w av (.slice t) xs vs):∃base cap,vs=[.slice base xs.length cap]:=by
 obtain⟨base,cap,e,_⟩:=h;exact⟨base,cap,e⟩
def apd {x:Val Ä} {s:Val (.map tI Ï)} {l1 l2 l3 l4:List Int} (h1:PS (fun u=>Ņ u.1 u.2 s) (x.2.2.1:List (Int×Int))=some l1) (h2:PS (fun i=>ο x s i) (yN (x.2.2.2.1:List (Val Ŏ)).length)=some l2)
 (h3:PS (fun i=>ŋ x s i) (yN (x.2.2.2.2.1:List (Val Ì)).length)=some l3) (h4:PS (fun u=>Ņ u.1 u.2 s) (x.2.2.2.2.2:List (Int×Int))=some l4)
 (hlen:(x.2.2.1:List (Val Â)).length≤1000∧(x.2.2.2.1:List (Val Ŏ)).length≤1000∧(x.2.2.2.2.1:List (Val Ì)).length≤1000∧(x.2.2.2.2.2:List (Val Â)).length≤1000)
 {w:World} {bb tb sb:Nat} {te te2 te3:TypeId} {cb:Array Value} {mv:Value} (hbb:w.heap[bb]?=some (.cells cb te (0,0))) (hbk:CR w noG Ä x cb.toList) (htb:w.heap[tb]?=some (.cells #[.func (.func 175) #[] #[.pointer (some ⟨sb,0,none⟩)]] te2 (0,0)))
 (hsb:w.heap[sb]?=some (.cells #[mv] te3 (0,0))) (hmv:CR w noG (.map tI Ï) s [mv]) :
 SeqStopsK Fence.wide 1 Tryz.prog 178 #[.pointer (some ⟨bb,0,none⟩),.pointer (some ⟨tb,0,none⟩),.pointer (some ⟨sb,0,none⟩)] (fun x:Int=>#[.int .i64 x]) (Below w.heap.size) (fun xs=>xs=l1++(l2++(l3++l4))) (fun pre=>pre <+: (l1++(l2++(l3++l4)))) (l1++(l2++(l3++l4))).length w:=by
 intro l J Jx W hbel hJ hJx hY h0;obtain⟨fl,r0,e0,hfl,hr0⟩:=id hbk;obtain⟨ga,r1,e1,hga,hr1⟩:=hr0;obtain⟨us,r2,e2,hus,hr2⟩:=hr1;obtain⟨lo,r3,e3,hlo,hr3⟩:=hr2;obtain⟨co,ko,e4,hco,hko⟩:=hr3;obtain⟨f1,f2,e5,hf1,hf2⟩:=hfl;have e6:f1=[.int .i64 x.1.1]:=hf1;have e7:f2=[.int .i64 x.1.2]:=hf2;obtain⟨gab,gac,e8⟩:=qr hga;obtain⟨lob,loc,e9⟩:=qr hlo;obtain⟨cob,coc,e10⟩:=qr hco;obtain⟨usb0,usc0,e11⟩:=qr hus;obtain⟨kob0,koc0,e12⟩:=qr hko;rw[e11] at hus;rw[e12] at hko;obtain⟨usb,usc,ub,uo,e13,hub,hU⟩:=Pg hus;obtain⟨kob,koc,kb,kof,e14,hkb,hK⟩:=Pg hko;rw[e13] at e11;rw[e14] at e12
 have hcb:cb=#[.int .i64 x.1.1,.int .i64 x.1.2,.slice gab (x.2.1:List (Val Ï)).length gac,.slice usb (x.2.2.1:List (Val Â)).length usc,.slice lob (x.2.2.2.1:List (Val Ŏ)).length loc,.slice cob (x.2.2.2.2.1:List (Val Ì)).length coc,.slice kob (x.2.2.2.2.2:List (Val Â)).length koc]:=by
  rw[←d8,e0,e1,e2,e3,e4,e5,e6,e7,e8,e9,e10,e11,e12];rfl
 obtain⟨g1,q1⟩:=GD h1;obtain⟨g2,q2⟩:=GD h2;obtain⟨g3,q3⟩:=GD h3;obtain⟨g4,q4⟩:=GD h4
 have gl2:l2.length=(x.2.2.2.1:List (Val Ŏ)).length:=by rw[g2]; simp[yN]
 have gl3:l3.length=(x.2.2.2.2.1:List (Val Ì)).length:=by rw[g3]; simp[yN]
 have up1:upE (fun j=>l1[j]?.getD 0) (x.2.2.1:List (Val Â)).length=l1:=by rw[←g1]; exact OC l1
 have up2:upE (fun j=>l2[j]?.getD 0) (x.2.2.2.1:List (Val Ŏ)).length=l2:=by rw[←gl2]; exact OC l2
 have up3:upE (fun j=>l3[j]?.getD 0) (x.2.2.2.2.1:List (Val Ì)).length=l3:=by rw[←gl3]; exact OC l3
 have up4:upE (fun j=>l4[j]?.getD 0) (x.2.2.2.2.2:List (Val Â)).length=l4:=by rw[←g4]; exact OC l4
 have at1:∀{xs:List (Int×Int)} {ls:List Int},(∀(i:Nat) (a:Int×Int),xs[i]?=some a→∃b,ls[i]?=some b∧Ņ a.1 a.2 s=some b)→∀j,j<xs.length→Ņ (xs[j]?.getD (0,0)).1 (xs[j]?.getD (0,0)).2 s=some (ls[j]?.getD 0):=by
  intro xs ls hq j hj;obtain⟨b,hb,hf⟩:=hq j xs[j] (df hj);rw[df hj,hb];exact hf
 have at2:∀{n:Nat} {ls:List Int} {f:Int→Option Int},(∀(i:Nat) (a:Int),(yN n)[i]?=some a→∃b,ls[i]?=some b∧f a=some b)→∀j,j<n→f (j:Int)=some (ls[j]?.getD 0):=by
  intro n ls f hq j hj;obtain⟨b,hb,hf⟩:=hq j j (by simp[yN,hj]);rw[hb]; exact hf
 have hbel':∀{W':World},Below w.heap.size W W'→Below w.heap.size w W':=fun h=>hbel.trans h;have hcell:∀{W':World} {p:Addr} {v:Value},Below w.heap.size w W'→w.cell? p=some v→p.block<w.heap.size→W'.cell? p=some v:=fun {W'} {p} {v} h hc hp=>(h.cell (p:=p) hp).trans hc;have lb:=ę hbb;have lt:=ę htb;have ls:=ę hsb
 have:=apr te 1 (by omega) l w.heap.size bb tb sb (.int .i64 x.1.1) (.int .i64 x.1.2) (.slice gab (x.2.1:List (Val Ï)).length gac) mv lb lt ls
  ub uo (x.2.2.1:List (Val Â)).length usc kb kof (x.2.2.2.2.2:List (Val Â)).length koc usb kob lob cob (x.2.2.2.1:List (Val Ŏ)).length loc (x.2.2.2.2.1:List (Val Ì)).length coc hub hkb
  (fun j=>(x.2.2.1:List (Int×Int))[j]?.getD (0,0)) (fun j=>(x.2.2.2.2.2:List (Int×Int))[j]?.getD (0,0)) (fun j=>l1[j]?.getD 0) (fun j=>l2[j]?.getD 0) (fun j=>l3[j]?.getD 0) (fun j=>l4[j]?.getD 0)
  hlen.1 hlen.2.1 hlen.2.2.1 hlen.2.2.2 W ((hbel.block bb lb).trans (by rw[hbb,hcb])) (hcell hbel (by simp[World.cell?,htb]) lt) (hcell hbel (by simp[World.cell?,hsb]) ls)
  (fun j hj=>⟨hcell hbel (hU j hj).1 (hub (by omega)).2,hcell hbel (hU j hj).2 (hub (by omega)).2⟩) (fun j hj=>⟨hcell hbel (hK j hj).1 (hkb (by omega)).2,hcell hbel (hK j hj).2 (hkb (by omega)).2⟩)
  (fun j hj W' hW=>abN (at1 q1 j hj) (((hbel' hW).block sb ls).trans hsb) (CR.below (hbel' hW) (dg _) hmv))
  (fun j hj W' hW=>abN (at1 q4 j hj) (((hbel' hW).block sb ls).trans hsb) (CR.below (hbel' hW) (dg _) hmv))
  (fun j hj W' hW=>amP (at2 q2 j hj) (by have:=CR.below (hbel' hW) (dg _) hbk; rwa [hcb] at this) (CR.below (hbel' hW) (dg _) hmv))
  (fun j hj W' hW=>afp (at2 q3 j hj) (by have:=CR.below (hbel' hW) (dg _) hbk; rwa [hcb] at this) (CR.below (hbel' hW) (dg _) hmv))
  J Jx (fun pre W1 W2 hj hg=>hJ pre W1 W2 none hj hg (fun r e=>by cases e)) (fun pre W1 W2 hj hg=>hJx pre W1 W2 none hj hg (fun r e=>by cases e))
  (fun pre y W1 hj hl=>hY pre y W1 hj (by simp only[di]; omega)) h0 hbel.size
 rw[up1,up2,up3,up4] at this;exact this
end Go.Proofs.ZzM
end

noncomputable section
set_option maxRecDepth 100000
namespace Go.Proofs.ZzM
open Go Go.Am Go.RowKit
section
variable [ø] {ρ:Type} {ν:Nat→Value} {w:World}
def peel (hq:ø.Q=none) {E:Env ρ} {call:List Nat→Bool→Nat→List AV→List Blk→(AV→List Blk→Option ρ)→Option ρ} {L:Nat} (hE:mB E L call) (hD:mV E L call) (hj:E.joins=fun _ _ _ _=>none) {fid:Nat} {path:List Nat} (hp:path.length+2=L) {x y c:Code} {bid n:Nat} {S:St} {K:Exit→St→Option ρ} {r:ρ} {a:Act} {Q:Exit→Act→World→Prop}
 (hL:∀z∈í bid x,rL E path fid z.1 z.2) (e:goC E call fid path 0 bid (.seq x y) S K=some r) (H:Sim ν S a w)
 (hn:∀ν' S' a' w',Sim ν' S' a' w'→Ev 0 ν S.h w ν' S'.h w'→goC E call fid path 0 bid y S' K=some r→c.wpIn Fence.wide n E.P Q a' w')
 (hx:∀ν' S' a' w' e,e≠.normal→Sim ν' S' a' w'→Ev 0 ν S.h w ν' S'.h w'→K e S'=some r→Q e a' w'):(Code.seq x c).wpIn Fence.wide n E.P Q a w:=by
 simp only[goC,hj] at e;have hgo:=mi hE hD hp x bid S _ ν a w hL e H (eN _);rw[I6 hq] at hgo;refine wpIn_seq (wpIn_wide.2 (wpIn_wide.1 (wpIn_mono hgo fun e' a' w' ha=>?_)));obtain⟨ν',S',h1,h2,h3,h4,h5⟩:=ha
 cases e' with
 |normal=>exact hn ν' S' a' w' h1 h2 h5
 |exit id=>exact hx ν' S' a' w' _ (by simp) h1 h2 h5
 |goto l=>exact hx ν' S' a' w' _ (by simp) h1 h2 h5
 |ret=>exact hx ν' S' a' w' _ (by simp) h1 h2 h5
 |panic ch=>exact hx ν' S' a' w' _ (by simp) h1 h2 h5
 |outgrown=>exact hx ν' S' a' w' _ (by simp) h1 h2 h5
end
def al2 {T:Array Value} {rb:Nat} {n:Int} {e:TypeId} {W:World} (h2:T.getD 2 undef=.pointer (some ⟨rb,0,none⟩)) (hc:W.heap[rb]?=some (.cells #[.int .i64 n] e (0,0))):(results Tryz.f43 T).run Tryz.prog W=.ok (.int .i64 n) W:=by
 letI:ø:=⟨fun _=>False,[],none⟩
 have hl:(loadVar 35 ⟨rb,0,none⟩).run Tryz.prog W=.ok (.int .i64 n) W:=by
  have:=vZ (P:=Tryz.prog) (w:=W) (t:=35) (agg:=false) (n:=1) (by kernel_rfl) (us:=[.int .i64 n]) rfl (fun _=>rfl) (a:=⟨rb,0,none⟩) (fun j v hj=>by
   have:=Ň.of_cells hc j v (by simpa using hj)
   cases j with
   |zero=>simpa[Addr.add] using this
   |succ j=>simp at hj)
  exact this
 have hr:Tryz.f43.results=#[.cell 2 35]:=by kernel_rfl
 unfold results;rw[hr,Array.mapM_eq_mapM_toList];simp only[Sem.run_bind,Sem.run_map,List.mapM_cons,List.mapM_nil,h2,asAddr,Sem.run_pure,Result.andThen_ok,hl];rfl
def HR_ghost {G:Nat→Prop} {D D':List Deferred} {Q Q':Option Nat} {ν:Nat→Value} {h:List Blk} {w:World} (H:@HR ⟨G,D,Q⟩ ν h w):@HR ⟨G,D',Q'⟩ ν h w :=
 @HR.mk ⟨G,D',Q'⟩ ν h w (@HR.blk ⟨G,D,Q⟩ ν h w H) (@HR.inj ⟨G,D,Q⟩ ν h w H) (@HR.ghlt ⟨G,D,Q⟩ ν h w H) (@HR.ghne ⟨G,D,Q⟩ ν h w H)
def ash [ø] {ν:Nat→Value} {h:List Blk} {w:World} {x:Val Ä} {us:List Value} (hv:Č (VRc ν h w) (flat Ä x) us):CR w noG Ä x us:=by
 have h1:ç Ä (flat Ä x)=some x:=rfl;have h2:Č (VRs w (Av ν h)) (flat Ä x) us:=hv.mono fun c u hu=>hu.1.data;exact CR.mono (fun _ hf=>hf.elim) (Ź h1 h2)
def D5 (G:Nat→Prop) (y:Int) (w:World) (e:Ending) (w':World):Prop :=
 ∃u,e=.returned u∧RR w' G [tI] y u∧(∀b,b<w.heap.size→w'.heap[b]?=w.heap[b]?)∧w.heap.size≤w'.heap.size∧w'.os=w.os∧w'.tape=w.tape∧w'.output=w.output
def ajn {G:Nat→Prop} {y:Int} {w0 w:World} {a:Act} {D rb:Nat} {e:TypeId} (hd:a.defers=[aiW D]) (hD:w.heap[D]?=some (.deferred (some []))) (h2:a.tmps.getD 2 undef=.pointer (some ⟨rb,0,none⟩)) (hc:w.heap[rb]?=some (.cells #[.int .i64 y] e (0,0)))
 (hb:∀b,b<w0.heap.size→w.heap[b]?=w0.heap[b]?) (hDl:w0.heap.size≤D) (hsz:w0.heap.size≤w.heap.size) (h3:w.os=w0.os) (h4:w.tape=w0.tape) (h5:w.output=w0.output):LeavesInM Fence.wide 2 Tryz.prog Tryz.f43 a.tmps (D5 G y w0) a.defers .returning w:=by
 rw[hd]
 have hne:rb≠D:=fun h=>by rw[h,hD] at hc; cases hc
 have ho:∀b,b≠D→(w.putObj D (.deferred none)).heap[b]?=w.heap[b]?:=fun b hb=>by
  simp only[World.putObj,fH];rw[if_neg (fun h=>hb h.symm)]
 refine⟨by simp,.inl ⟨D,_,rfl,run_takeDeferred hD,?_⟩⟩;refine⟨.int .i64 y,al2 h2 ((ho rb hne).trans hc),.int .i64 y,rfl,⟨[.int .i64 y],rfl,rfl⟩,fun b hlt=>(ho b (by omega)).trans (hb b hlt),by simpa[World.putObj] using hsz,h3,h4,h5⟩
def asb (S:St):ckK .ret S=(anI S).map .inl:=by
 unfold ckK
 cases anI S<;>rfl
def akQ (S:St):ckK .normal S=if decide (78≤S.t.length)=true then some (.inr ([lk S.t 1,lk S.t 2,lk S.t 48],S.h)) else none:=by
 unfold ckK
 cases decide (78≤S.t.length)<;>rfl
def jZ [ø] {ρ:Type} {E:Env ρ} (h0:E.loops=s9 []) {path:List Nat} {fid bid:Nat} {b:Code}:rL E path fid bid b:=fun m S K r ν a w e=>by
 rw[h0] at e;cases e
def arA:Code→String
 | .region _ ops _ => ((ops[0]?).map fun o => o.pos).getD ""
 | _ => ""
def rfA:Code→Code
 |.block _ (.rangeFunc _ _ a _)=>a
 |_=>.skip
def rfB:Code→Code
 |.block _ (.rangeFunc _ _ _ (.block _ (.seq a _)))=>a
 |_=>.skip
def rfC:Code→Code
 |.block _ (.rangeFunc _ _ _ (.block _ (.seq _ (.cond _ (.seq a _) _))))=>a
 |_=>.skip
def ar9:ckRF=Code.block 0 (Code.rangeFunc (.tmp 48) #[49] (aiB (arA (rfA ckRF))) (aqU (arA (rfB ckRF)) (arA (rfC ckRF)))):=by kernel_rfl
def ard:∀e∈ck_pt,jt Tryz.prog e.1 e.2:=Á Tp (Á Tn (Á Cp (Á Tr Å)))
def anJ {e:Exit} {S:St} {n:Int} (h:ckK2 e S=some n):e=.ret∧lk S.t 2=.box 1 0∧lkB S.h 1=.cells [.int .i64 n]:=by
 unfold ckK2 at h
 split at h
 ·split at h
  ·rename_i h2
   split at h
   ·rename_i h3;cases h;exact⟨rfl,h2,h3⟩
   ·cases h
  ·cases h
 ·cases h
def aeY [ø] {ν:Nat→Value} {h:List Blk} {w:World} {n:Int} {id:Nat} (H:HR ν h w) (hl:lkB h id=.cells [.int .i64 n]):∃b e,ν id=.pointer (some ⟨b,0,none⟩)∧w.heap[b]?=some (.cells #[.int .i64 n] e (0,0)):=by
 have hB:=H.blk id;rw[hl] at hB;obtain⟨b,c,e,h1,h2,h3⟩:=hB;obtain⟨u,h4,h5⟩:=h3.one;have h6:u=.int .i64 n:=h5.1;refine⟨b,e,h1,?_⟩;rw[h2]
 have:c=#[.int .i64 n]:=by rw[←d8,h4,h6]
 rw[this]
def Bq [ø] {ν:Nat→Value} {h:List Blk} {w:World} {id off:Nat} {v:Value} {b:Nat} (hv:VR ν h w (.box id off) v) (hb:ν id=.pointer (some ⟨b,0,none⟩)):v=.pointer (some ⟨b,off,none⟩):=by
 obtain⟨cs,b',h1,h2,h3⟩:=hv;rw[hb] at h2;cases h2;exact h3
def ar8 {G:Nat→Prop} {x:Val Ä} {s:Val (.map tI Ï)} {y:Int} (hS:ckS x=some y) {ν:Nat→Value} {w0 w6 W:World} {a:Act} {D:Nat} (H:@HR ⟨G,[],none⟩ ν (ckH x s 0) w6) (hb:Below w6.heap.size w6 W) (hD:w6.heap.size≤D) (hDo:W.heap[D]?=some (.deferred (some []))) (hd:a.defers=[aiW D]) (hlen:78≤a.tmps.size)
 (t1:@VR ⟨G,[],none⟩ ν (ckH x s 0) w6 (.box 0 0) (a.tmps.getD 1 undef)) (t2:@VR ⟨G,[],none⟩ ν (ckH x s 0) w6 (.box 1 0) (a.tmps.getD 2 undef))
 (h0:∀b,b<w0.heap.size→w6.heap[b]?=w0.heap[b]?∧¬aia ν (ckH x s 0) b) (hsz:w0.heap.size≤w6.heap.size) (h3:w6.os=w0.os) (h4:w6.tape=w0.tape) (h5:w6.output=w0.output) :
 Xw.wpIn Fence.wide 2 Tryz.prog (bodyPostM Fence.wide 2 Tryz.prog Tryz.f43 (D5 G y w0)) a W:=by
 have hlive:∀b,aia ν (ckH x s 0) b→b<w6.heap.size:=fun b hl=>@HR.ltA ⟨G,[],none⟩ _ _ _ H b (.inl hl)
 have t1':∃b,ν 0=.pointer (some ⟨b,0,none⟩)∧a.tmps.getD 1 undef=.pointer (some ⟨b,0,none⟩):=by
  obtain⟨cs,b,_,h2,h3⟩:=t1;exact⟨b,h2,h3⟩
 have t2':∃b,ν 1=.pointer (some ⟨b,0,none⟩)∧a.tmps.getD 2 undef=.pointer (some ⟨b,0,none⟩):=by
  obtain⟨cs,b,_,h2,h3⟩:=t2;exact⟨b,h2,h3⟩
 letI:ø:=⟨G,[aiW D],none⟩
 have H1:HR ν (ckH x s 0) w6:=HR_ghost H;have H2:HR ν (ckH x s 0) W:=(H1.grow (fun b hlt=>hb.block b hlt) hb.size hb.os hb.tape hb.output 0).2;have hlib:OA (aqi Int):=Sr ard (aqi Int) rfl rfl rfl rfl rfl (iM rfl);have hdraw:∀L call,mB (aqi Int) L call→mV (aqi Int) L call:=FX hmix;have hl0:(aqi Int).loops=s9 []:=rfl;have hcall:=nB (.inr fun _=>rfl) hlib hdraw (fun n hn hE path f fn c _ _ _ z _=>jZ hl0) 10 (dg _);have hEnv:mB (aqi Int) 2 (kr (aqi Int) 10):=⟨.inr (rI 9),hcall,hlib.plain,hlib.clone,hlib.joins⟩;have law:=ck_suf x s;rw[hS] at law
 have sim:Sim ν {t:=[.any,.box 0 0,.box 1 0]++List.replicate 75 .any,h:=ckH x s 0} a W:=by
  refine⟨hd,by simpa using hlen,fun i=>?_,H2⟩;simp only[Sn];rcases i with _|_|_|i
  ·trivial
  ·obtain⟨b,g1,g2⟩:=t1';exact⟨_,b,rfl,g1,g2⟩
  ·obtain⟨b,g1,g2⟩:=t2';exact⟨_,b,rfl,g1,g2⟩
  ·trivial
 refine wpIn_wide.2 (wpIn_wide.1 (wpIn_mono (mi hEnv (hdraw _ _ hEnv) rfl Xw 0 _ _ ν a W (fun z _=>jZ hl0) law sim (eN _)) fun e a' w' ha=>?_));obtain⟨ν',S',g1,g2,_,_,g5⟩:=ha;obtain⟨rfl,k2,k3⟩:=anJ g5;obtain⟨rb,te,r1,r2⟩:=aeY g1.heap k3;have r3:=g1.tmps 2;rw[k2] at r3;have r4:=Bq r3 r1;have hDlt:=ę hDo;refine ajn (w:=w') (a:=a') (G:=G) (y:=y) (w0:=w0) (D:=D) (rb:=rb) g1.defers ((g2.keep D hDlt fun hl=>by have:=hlive D hl; omega).1.trans hDo) r4 r2 (fun b hlt=>?_) (by omega) (by have:=g2.size; have:=hb.size; omega) (g2.os.trans (hb.os.trans h3)) (g2.tape.trans (hb.tape.trans h4)) (g2.output.trans (hb.output.trans h5));have h01:=h0 b hlt
 have hlt6:b<w6.heap.size:=by omega
 have hltW:b<W.heap.size:=by have:=hb.size; omega
 exact(g2.keep b hltW h01.2).1.trans ((hb.block b hlt6).trans h01.1)
set_option maxHeartbeats 2000000 in
def akR (G:Nat→Prop) (x:Val Ä) (y:Int) (hF':ù x=some y) (w:World) (vals:List Value) (hG:∀b,G b→b<w.heap.size) (hAL:AL w G [Ä] x vals) :
 (∃fn c,Tryz.prog.funcs[43]?=some fn∧fn.body=some c)∧CallsIn Fence.wide 0 Tryz.prog 43 vals.toArray w (D5 G y w):=by
 rw[aqh] at hF'
 letI:ø:=⟨G,[],none⟩
 have hpt:=ard;have hlib:OA (ckE ckR):=Sr hpt (ckE ckR) rfl rfl rfl rfl rfl (iM rfl);have hdraw:∀L call,mB (ckE ckR) L call→mV (ckE ckR) L call:=FX hmix;have h0:(ckE ckR).loops=s9 []:=rfl;have hcall:=nB (.inl ⟨rfl,rfl⟩) hlib hdraw (fun n hn hE path f fn c _ _ _ z _=>jZ h0) 10 (dg _);have hEnv:mB (ckE ckR) 2 (kr (ckE ckR) 10):=⟨.inr (rI 9),hcall,hlib.plain,hlib.clone,hlib.joins⟩;have hD:=hdraw _ _ hEnv;have H:HR (fun _=>undef) [] w:=⟨fun _=>trivial,fun _ _ _ h=>(by cases h),hG,fun _ _ h=>(by cases h)⟩;have hav:∀b,Av (fun _=>undef) [] b→G b:=fun b hb=>hb.elim (fun⟨_,h,_⟩=>by cases h) id;have hargs:Č (VR (fun _=>undef) [] w) (Ā [Ä] x) vals:=AL.VR (hAL.mono hav);refine⟨⟨Tryz.f43,_,Tryz.func43,arf⟩,?_⟩
 have hlen:vals.length=1:=by
  have:=hargs.length;simpa[Ā,ano] using this.symm
 cases hM:ckM x with
 |none=>rw[hM] at hF'; cases hF'
 |some r0 =>
 rw[hM] at hF';have law:=ck_pre x;rw[hM] at law;refine callsIn_wide.2 (callsIn_wide.1 (callsIn_of_wp_marks (n:=2) Tryz.func43 arf trivial ?_ (R:=D5 G y w)))
 have hS:Sim (fun _=>undef) {t:=Ā [Ä] x++List.replicate 77 .any,h:=[]} {tmps:=vals.toArray++Array.replicate (Tryz.f43.ntmps-vals.toArray.size) undef,defers:=[]} w:=by
  refine⟨rfl,?_,fun i=>?_,H⟩
  ·have:Tryz.f43.ntmps=78:=by kernel_rfl
   have hl2:(Ā [Ä] x).length=1:=rfl;simp[this,hlen,hl2]
  ·simp only[Sn];rcases dG i (Ā [Ä] x).length with hi|hi
   ·have:=Č.lk (R:=VR (fun _=>undef) [] w) (fun _=>trivial) i hargs
    have hv:i<vals.length:=by rw[←hargs.length]; exact hi
    have h2:(vals.toArray++Array.replicate (Tryz.f43.ntmps-vals.toArray.size) undef).getD i undef=vals.getD i undef:=by
     simp[dY,fA,hv]
    rw[h2]; exact this
   ·rw[amT _ _ hi]; trivial
 -- the ways out ahead of the loop
 have out:∀ν' S' a' w' e,e≠.normal→Sim ν' S' a' w'→Ev 0 (fun _=>undef) [] w ν' S'.h w'→ckK e S'=some r0→bodyPostM Fence.wide 2 Tryz.prog Tryz.f43 (D5 G y w) e a' w':=by
  intro ν' S' a' w' e hne hS' hE' hk
  cases e with
  |normal=>exact(hne rfl).elim
  |ret =>
   rw[asb] at hk
   cases hr:anI S' with
   |none=>rw[hr] at hk; cases hk
   |some n =>
    rw[hr,d9] at hk;cases hk
    have hyn:n=y:=by simpa using hF'
    subst hyn;unfold anI at hr
    split at hr
    ·rename_i v hv;obtain⟨u,q1,q2⟩:=JV hS' hv;show LeavesInM _ _ _ _ _ _ a'.defers _ _;rw[show a'.defers=[] from hS'.defers];exact⟨u,q1,u,rfl,XX hS'.heap [tI] q2 hr,fun b hb=>(hE'.keep b hb fun⟨_,h,_⟩=>by cases h).1,hE'.size,hE'.os,hE'.tape,hE'.output⟩
    ·cases hr
  |exit id=>cases hk
  |goto l=>cases hk
  |panic ch=>cases hk
  |outgrown=>cases hk
 have outT:∀{ν₁:Nat→Value} {h₁:List Blk} {w₁:World},Ev 0 (fun _=>undef) [] w ν₁ h₁ w₁→∀ν' S' a' w' e,e≠.normal→Sim ν' S' a' w'→Ev 0 ν₁ h₁ w₁ ν' S'.h w'→ckK e S'=some r0→bodyPostM Fence.wide 2 Tryz.prog Tryz.f43 (D5 G y w) e a' w' :=
  fun hE ν' S' a' w' e hne hS' hE' hk=>out ν' S' a' w' e hne hS' (hE.trans hE' (dg _)) hk
 refine peel rfl hEnv hD rfl rfl (fun z _=>jZ h0) law hS (fun ν1 S1 a1 w1 s1 e1 k1=>?_) out;refine peel rfl hEnv hD rfl rfl (fun z _=>jZ h0) k1 s1 (fun ν2 S2 a2 w2 s2 e2 k2=>?_) (outT e1);have t2:=e1.trans e2 (dg _);refine peel rfl hEnv hD rfl rfl (fun z _=>jZ h0) k2 s2 (fun ν3 S3 a3 w3 s3 e3 k3=>?_) (outT t2);have t3:=t2.trans e3 (dg _);refine peel rfl hEnv hD rfl rfl (fun z _=>jZ h0) k3 s3 (fun ν4 S4 a4 w4 s4 e4 k4=>?_) (outT t3);have t4:=t3.trans e4 (dg _);refine peel rfl hEnv hD rfl rfl (fun z _=>jZ h0) k4 s4 (fun ν5 S5 a5 w5 s5 e5 k5=>?_) (outT t4);have t5:=t4.trans e5 (dg _);refine wpIn_seq (wpIn_seq (wpIn_wide.2 (wpIn_wide.1 (wpIn_mono (mi hEnv hD rfl ckA5 0 S5 _ ν5 a5 w5 (fun z _=>jZ h0) k5 s5 (eN _)) fun e' a6 w6 ha=>?_))));obtain⟨ν,S,s6,e6,_,_,k6⟩:=ha;have t6:=t5.trans e6 (dg _)
 have other:∀e,e≠.normal→ckK e S=some r0→Exit.then (Code.wpIn Fence.wide 2 Tryz.prog Xw (bodyPostM Fence.wide 2 Tryz.prog Tryz.f43 (D5 G y w))) (bodyPostM Fence.wide 2 Tryz.prog Tryz.f43 (D5 G y w)) e a6 w6:=by
  intro e hne hk;have:=out ν S a6 w6 e hne s6 t6 hk
  cases e<;>first|exact(hne rfl).elim|exact this
 cases e' with
 |exit id=>exact other _ (by simp) k6
 |goto l=>exact other _ (by simp) k6
 |ret=>exact other _ (by simp) k6
 |panic ch=>exact other _ (by simp) k6
 |outgrown=>exact other _ (by simp) k6
 |normal =>
 clear other;rw[akQ] at k6
 split at k6<;>try (cases k6; done)
 rename_i h78
 have h78':78≤S.t.length:=by simpa using h78
 cases k6;obtain⟨hlens,s,hs,hq⟩:=asa hM;simp only[Prod.mk.injEq,List.cons.injEq,and_true] at hq;obtain⟨⟨q1,q2,q48⟩,qh⟩:=hq
 have hF2:ace (oz x s) some (ckS x)=some y:=by
  simp only at hF';rw[hs] at hF';exact hF'
 -- what the errors are
 obtain⟨L,hL,hLy⟩:∃L,oz x s=some L∧(match L.find? (fun e=>e != 0) with|some e=>some e|none=>ckS x)=some y:=by
  unfold ace at hF2
  cases hl:oz x s with
  |none=>rw[hl] at hF2; cases hF2
  |some L=>rw[hl] at hF2; exact⟨L,rfl,hF2⟩
 obtain⟨l1,l2,l3,l4,m1,m2,m3,m4,rfl⟩:∃l1 l2 l3 l4,PS (fun u=>Ņ u.1 u.2 s) (x.2.2.1:List (Int×Int))=some l1∧PS (fun i=>ο x s i) (yN (x.2.2.2.1:List (Val Ŏ)).length)=some l2 ∧
  PS (fun i=>ŋ x s i) (yN (x.2.2.2.2.1:List (Val Ì)).length)=some l3∧PS (fun u=>Ņ u.1 u.2 s) (x.2.2.2.2.2:List (Int×Int))=some l4∧L=l1++(l2++(l3++l4)):=by
  unfold oz at hL
  cases m1:PS (fun u=>Ņ u.1 u.2 s) (x.2.2.1:List (Int×Int)) with
  |none=>rw[m1] at hL; cases hL
  |some l1 =>
  rw[m1] at hL
  cases m2:PS (fun i=>ο x s i) (yN (x.2.2.2.1:List (Val Ŏ)).length) with
  |none=>simp only[Ã,m2] at hL; cases hL
  |some l2 =>
  cases m3:PS (fun i=>ŋ x s i) (yN (x.2.2.2.2.1:List (Val Ì)).length) with
  |none=>simp only[Ã,m2,m3] at hL; cases hL
  |some l3 =>
  cases m4:PS (fun u=>Ņ u.1 u.2 s) (x.2.2.2.2.2:List (Int×Int)) with
  |none=>simp only[Ã,m2,m3,m4] at hL; cases hL
  |some l4 =>
  simp only[Ã,m2,m3,m4] at hL;cases hL;exact⟨l1,l2,l3,l4,rfl,rfl,rfl,rfl,rfl⟩
 -- the blocks
 obtain⟨T,Hh⟩:=S;dsimp only at q1 q2 q48 qh h78';subst qh;have p1:=s6.tmps 1;have p2:=s6.tmps 2;have p48:=s6.tmps 48;dsimp only at p1 p2 p48;rw[q1] at p1;rw[q2] at p2;rw[q48] at p48;obtain⟨rb,te1,n1,hrb⟩:=aeY (id:=1) (n:=0) s6.heap rfl;have hB2:BR ν (ckH x s 0) w6 2 (.cells (flat Ä x)):=s6.heap.blk 2;have hB3:BR ν (ckH x s 0) w6 3 (.cells [.mp tI Ï s]):=s6.heap.blk 3;have hB4:BR ν (ckH x s 0) w6 4 (.cells [.fn (.func 175) [] [.box 3 0]]):=s6.heap.blk 4;obtain⟨bb,cb,te,n2,hbb,hb2⟩:=hB2;obtain⟨sb,cs3,te3,n3,hsb,hb3⟩:=hB3;obtain⟨tb,cs4,te2,n4,htb,hb4⟩:=hB4;obtain⟨mv,z3,hm3⟩:=hb3.one;obtain⟨fv,z4,hm4⟩:=hb4.one;have hmv:CR w6 noG (.map tI Ï) s [mv]:=CR.mono (fun _ hf=>hf.elim) (show CR w6 (Av ν (ckH x s 0)) (.map tI Ï) s [mv] from hm3.1)
 have hc3:cs3=#[mv]:=by rw[←d8,z3]
 have hfv:fv=.func (.func 175) #[] #[.pointer (some ⟨sb,0,none⟩)]:=by
  obtain⟨fs,cs,h1,h2,h3⟩:=hm4.1
  have e1:fs=#[]:=by rw[←d8]; exact h2.nil_left
  obtain⟨u,e2,h4⟩:=h3.one;have e3:u=.pointer (some ⟨sb,0,none⟩):=Bq (w:=w6) (id:=3) (off:=0) h4 n3
  have e4:cs=#[.pointer (some ⟨sb,0,none⟩)]:=by rw[←d8,e2,e3]
  rw[h1,e1,e4]
 have hc4:cs4=#[fv]:=by rw[←d8,z4]
 rw[hc3] at hsb;rw[hc4,hfv] at htb
 have hg:a6.tmps.getD 48 undef=.func (.func 178) #[] #[.pointer (some ⟨bb,0,none⟩),.pointer (some ⟨tb,0,none⟩),.pointer (some ⟨sb,0,none⟩)]:=by
  obtain⟨fs,cs,h1,h2,h3⟩:=p48
  have e1:fs=#[]:=by rw[←d8]; exact h2.nil_left
  have hl:=h3.length
  obtain⟨u1,u2,u3,e2⟩:∃u1 u2 u3,cs.toList=[u1,u2,u3]:=by
   rcases hcs:cs.toList with _|⟨u1,_|⟨u2,_|⟨u3,_|⟨u4,t⟩⟩⟩⟩<;>rw[hcs] at hl<;>simp at hl
   exact⟨u1,u2,u3,rfl⟩
  rw[e2] at h3;have e3:u1=.pointer (some ⟨bb,0,none⟩):=Bq (w:=w6) (id:=2) (off:=0) h3.1 n2;have e4:u2=.pointer (some ⟨tb,0,none⟩):=Bq (w:=w6) (id:=4) (off:=0) h3.2.1 n4;have e5:u3=.pointer (some ⟨sb,0,none⟩):=Bq (w:=w6) (id:=3) (off:=0) h3.2.2.1 n3;rw[h1,e1];congr 1;rw[←d8,e2,e3,e4,e5]
 have hseq:=apd m1 m2 m3 m4 hlens hbb (ash hb2) htb hsb hmv;have h2:=Bq p2 n1;have hsz:78≤a6.tmps.size:=dL h78' s6.len
 have hkeep:∀b,b<w.heap.size→w6.heap[b]?=w.heap[b]?∧¬aia ν (ckH x s 0) b:=fun b hb=>t6.keep b hb fun⟨_,h,_⟩=>by cases h
 have hdef:a6.defers=[]:=s6.defers;show ckRF.wpIn Fence.wide 2 Tryz.prog (Exit.then (Xw.wpIn Fence.wide 2 Tryz.prog (bodyPostM Fence.wide 2 Tryz.prog Tryz.f43 (D5 G y w))) (bodyPostM Fence.wide 2 Tryz.prog Tryz.f43 (D5 G y w))) a6 w6;rw[ar9];refine wpIn_block (arv hseq hg h2 hsz hrb (fun D W hall hbel hDl hDo=>?_) (fun D W z hz hput hDl hDo=>?_))
 ·have hck:ckS x=some y:=by
   have:(l1++(l2++(l3++l4))).find? (fun e=>e != 0)=none:=eT.2 fun z hz=>by rw[hall z hz]; simp
   rw[this] at hLy;exact hLy
  exact ar8 (s:=s) hck s6.heap hbel hDl hDo (by show aiW D::a6.defers=_; rw[hdef]) hsz p1 p2 hkeep t6.size t6.os t6.tape t6.output
 ·have hzy:z=y:=by
   rw[hz] at hLy;simpa using hLy
  subst hzy;obtain⟨te5,hcell⟩:=hput.cell;have hlb:=ę hrb;have hlive:aia ν (ckH x s 0) rb:=⟨1,rfl,by rw[n1]; rfl⟩
  exact ajn (a:={a6 with defers:=aiW D::a6.defers}) (w:=W) (by show aiW D::a6.defers=_; rw[hdef]) hDo h2 hcell
   (fun b hb=>(hput.block b (by have:=t6.size; omega) (fun e=>(hkeep b hb).2 (e▸hlive))).trans (hkeep b hb).1) (by have:=t6.size; omega) (by have:=t6.size; have:=hput.size; omega) (hput.os.trans t6.os) (hput.tape.trans t6.tape) (hput.output.trans t6.output)
def ţ:jt Tryz.prog 43 ś:=fun G x y hF w vals hG hAL=>akR G x y hF w vals hG hAL
end Go.Proofs.ZzM
end

noncomputable section
set_option maxRecDepth 100000
namespace Go.Proofs.ZzM
open Go Go.Am Go.RowKit
abbrev cP:Type:=Val (tyL jw)
abbrev cV:Type:=Val (tyL nu)
abbrev cS (p:cP) (v:cV):St:=jA uZ jw nu p v
abbrev cU (p:cP) (v:cV) (x:Val Ï):St:=jA Q2 jw BK p (Fu v x)
def aqb (im:List (Int×Bool)) (n:Int):oU Tryz.prog [.map tI .bool im] 182 (.omp 0) (.int .i64 n) false some=(match (uF (k:=tI) (v:=.bool) n im:Option Bool) with|some y=>some (.bool y)|none=>some (.bool false)):=by kernel_rfl
noncomputable def MapAt (W:World) (mb:Nat) (im:List (Int×Bool)):Prop:=∃(entries:Array MapEntry) (clock:Nat),W.heap[mb]?=some (.map entries clock)∧entries.size=im.length∧∀(i:Nat) (e:Int×Bool),im[i]?=some e→∃m,entries[i]?=some m∧m.key=.int .i64 e.1∧m.val=.bool e.2
noncomputable def Nh (im:List (Int×Bool)) (n:Int):Bool:=((uF (k:=tI) (v:=.bool) n im:Option Bool)).getD false
def apJ {W:World} {mb:Nat} {im:List (Int×Bool)} (h:MapAt W mb im) (n:Int):(Instr.lookup 182 (.map (some mb)) (.int .i64 n) false).run Tryz.prog W=.ok (.bool (Nh im n)) W:=by
 letI:ø:=⟨fun _=>False,[],none⟩
 obtain⟨entries,clock,h1,h2,h3⟩:=h
 have H:HR (fun _=>.map (some mb)) [.map tI .bool im] W:=by
  refine⟨fun id=>?_,fun i j b hi hj _ _=>?_,fun b hb=>hb.elim,fun id b _ _ hb=>hb.elim⟩
  ·rcases id with _|id
   ·refine⟨mb,entries,clock,rfl,h1,h2,fun i e he=>?_⟩;obtain⟨m,q1,q2,q3⟩:=h3 i e he;exact⟨m,[.bool e.2],q1,by rw[q2]; rfl,rfl,by rw[q3]; rfl⟩
   ·rw[W5 _ _ (by simp)]; trivial
  ·have one:∀i,(lkB [Blk.map tI .bool im] i).live=true→i=0:=fun i hi=>by
    rcases i with _|i
    ·rfl
    ·rw[W5 _ _ (by simp)] at hi; cases hi
   rw[one i hi,one j hj]
 have hom:VR (fun _=>.map (some mb)) [.map tI .bool im] W (.omp 0) (.map (some mb)):=⟨rfl,_,_,_,rfl,rfl⟩
 have hk:oU Tryz.prog [.map tI .bool im] 182 (.omp 0) (.int .i64 n) false some=some (.bool (Nh im n)):=by
  rw[aqb];unfold Nh
  cases(uF (k:=tI) (v:=.bool) n im:Option Bool)<;>rfl
 obtain⟨u,q1,q2⟩:=aeN H hk hom (ui:=.int .i64 n) rfl;rw[q1];have:u=.bool (Nh im n):=q2;rw[this]
noncomputable def gz (l:List (Val Ï)) (j:Nat):Val Ï:=l[j]?.getD (0,0,0,(0,0),(0,0),0)
def ahy {w:World} {av:Nat→Prop} {g:Val Ï} {us:List Value} (h:CR w av Ï g us) :
 us=[.int .i64 g.1,.int .i64 g.2.1,.int .i64 g.2.2.1,.int .i64 g.2.2.2.1.1,.int .i64 g.2.2.2.1.2,.int .i64 g.2.2.2.2.1.1,.int .i64 g.2.2.2.2.1.2,.int .i64 g.2.2.2.2.2]:=by
 obtain⟨a1,r1,rfl,h1,a2,r2,rfl,h2,a3,r3,rfl,h3,a4,r4,rfl,⟨b1,b2,rfl,h4,h5⟩,⟨b3,r5,rfl,⟨b5,b6,rfl,h6,h7⟩,h8⟩⟩:=h;have e1:a1=[.int .i64 g.1]:=h1;have e2:a2=[.int .i64 g.2.1]:=h2;have e3:a3=[.int .i64 g.2.2.1]:=h3;have e4:b1=[.int .i64 g.2.2.2.1.1]:=h4;have e5:b2=[.int .i64 g.2.2.2.1.2]:=h5;have e6:b5=[.int .i64 g.2.2.2.2.1.1]:=h6;have e7:b6=[.int .i64 g.2.2.2.2.1.2]:=h7;have e8:r5=[.int .i64 g.2.2.2.2.2]:=h8;subst e1 e2 e3 e4 e5 e6 e7 e8;rfl
noncomputable def KNd (w1:World) (R:Nat→Prop) (tb:Nat) (im:List (Int×Bool)) (W:World):Prop:=w1.heap.size≤W.heap.size∧(∀b,R b→W.heap[b]?=w1.heap[b]?)∧tb<w1.heap.size∧∃mb,mb<w1.heap.size∧W.cell? ⟨tb,0,none⟩=some (.map (some mb))∧MapAt W mb im
def KNd.below {w1 W W':World} {R:Nat→Prop} {tb:Nat} {im:List (Int×Bool)} (hR:∀b,R b→b<w1.heap.size) (h:KNd w1 R tb im W) (hz:W.heap.size≤W'.heap.size) (hb:∀b,b<w1.heap.size→W'.heap[b]?=W.heap[b]?):KNd w1 R tb im W':=by
 obtain⟨h1,h2,h3,mb,h4,h5,en,cl,h6,h7,h8⟩:=h;exact⟨dL h1 hz,fun b hr=>(hb b (hR b hr)).trans (h2 b hr),h3,mb,h4,by rw[World.cell?_of_block (w:=W) (hb tb h3)]; exact h5,en,cl,(hb mb h4).trans h6,h7,h8⟩
def KNd.grown {w1 W W':World} {R:Nat→Prop} {tb:Nat} {im:List (Int×Bool)} (hR:∀b,R b→b<w1.heap.size) (h:KNd w1 R tb im W) (hg:W.grownBy W' none):KNd w1 R tb im W' :=
 h.below hR hg.size fun b hb=>hg.block b (dI hb h.1) (by simp)
def aeQ {f:AV→Bool} (h0:f .any=true):∀(l:List AV),l.all f=true→∀i,f (lk l i)=true
 |[],_,i=>by cases i<;>exact h0
 |x::l,h,0=>by simp only[gc,dh] at h; exact h.1
 |x::l,h,i+1=>by simp only[gc,dh] at h; exact aeQ h0 l h.2 i
def aaR {f:Blk→Bool} (h0:f .dead=true):∀(l:List Blk),l.all f=true→∀i,f (lkB l i)=true
 |[],_,i=>by cases i<;>exact h0
 |x::l,h,0=>by simp only[gc,dh] at h; exact h.1
 |x::l,h,i+1=>by simp only[gc,dh] at h; exact aaR h0 l h.2 i
def cS_mf (p:cP) (v:cV):(cS p v).h.all mfB=true:=by kernel_rfl
def cU_mf (p:cP) (v:cV) (x:Val Ï):(cU p v x).h.all mfB=true:=by kernel_rfl
def cU_mft (p:cP) (v:cV) (x:Val Ï):(cU p v x).t.all mfV3=true:=by kernel_rfl
def cR_mf (y:Val Ä):(jA rc [] j8 () (lv y)).h.all mfB=true:=by kernel_rfl
def cR_mft (y:Val Ä):(jA rc [] j8 () (lv y)).t.all mfV3=true:=by kernel_rfl
noncomputable def pin0 (m:Nat):AV→Bool
 |.any=>true
 |.box id _=>Nat.blt id m
 |_=>false
noncomputable def pin3 (m:Nat):AV→Bool
 |.fn _ a b=>a.all (pin0 m)&&b.all (pin0 m)
 |a=>pin0 m a
section
variable [ø] {ν ν':Nat→Value} {h h':List Blk} {w w':World} {m:Nat}
def VR0.pin (e:Ev m ν h w ν' h' w') {a:AV} {v:Value} (hp:pin0 m a=true) (hv:VR0 ν h w a v):VR0 ν' h' w' a v:=by
 cases a with
 |any=>trivial
 |box id off =>
  obtain⟨cs,b,hl,h1,h2⟩:=hv;have hlt:id<m:=f6 hp;have hb:=e.blk id hlt;rw[hl] at hb;obtain⟨⟨cs',hl'⟩,he⟩:=hb;exact⟨cs',b,hl',by rw[he]; exact h1,h2⟩
 |_=>cases hp
def VR.pin (e:Ev m ν h w ν' h' w') {a:AV} {v:Value} (hp:pin3 m a=true) (hv:VR ν h w a v):VR ν' h' w' a v:=by
 cases a with
 |fn f fa fb =>
  obtain⟨fs,cs,h1,h2,h3⟩:=hv;simp only[pin3,dh,dO] at hp;exact⟨fs,cs,h1,h2.mem fun a ha _=>VR0.pin e (hp.1 a ha),h3.mem fun a ha _=>VR0.pin e (hp.2 a ha)⟩
 |any=>trivial
 |box id off=>exact VR0.pin (a:=.box id off) e (show pin0 m (.box id off)=true from hp) hv
 |_=>cases hp
end
def arg (p:cP) (v:cV):(cS p v).t.all (pin3 9)=true:=by kernel_rfl
def cS_len (p:cP) (v:cV):(cS p v).h.length=10:=by kernel_rfl
def cU_len (p:cP) (v:cV) (x:Val Ï):(cU p v x).h.length=11:=by kernel_rfl
def cS_t (p:cP) (v:cV) (z:List (Val Ï)):(cS p (Ģ v z)).t=(cS p v).t:=by kernel_rfl
def cS_5 (p:cP) (v:cV):∃a b us lo co ko,lkB (cS p v).h 5=.cells [.int .i64 a,.int .i64 b,.slc Ï (ò v),.slc Â us,.slc Ŏ lo,.slc Ì co,.slc Â ko]:=⟨_,_,_,_,_,_,rfl⟩
def cS_6 (p:cP) (v:cV):lkB (cS p v).h 6=.cells [.omp 7]:=by kernel_rfl
def cS_7 (p:cP) (v:cV):lkB (cS p v).h 7=.map tI .bool (Ū v):=by kernel_rfl
def cS_59 (p:cP) (v:cV):lk (cS p v).t 59=.fn (.func 212) [] [.box 5 0,.box 6 0]:=by kernel_rfl
noncomputable def aeX:Blk→Bool
 |.map _ _ _=>true
 |_=>false
def ah1 (p:cP) (v:cV):(cS p v).h.map aeX=[false,false,false,false,false,false,false,true,true,false]:=by kernel_rfl
def ase (p:cP) (v:cV) (x:Val Ï):(cU p v x).h.map aeX=[false,false,false,false,false,false,false,true,true,false,false]:=by kernel_rfl
def Lw:∀(l:List Blk) (i:Nat),aeX (lkB l i)=true→(l.map aeX)[i]?=some true
 |[],i,h=>by cases i<;>cases h
 |x::l,0,h=>by have:aeX x=true:=h; simp[this]
 |x::l,i+1,h=>by simpa using Lw l i h
def aiX {l:List Blk} {t:List Bool} (hl:l.map aeX=[false,false,false,false,false,false,false,true,true]++t) (ht:∀b∈t,b=false) {id:Nat} {k u:Ty} {es:List (Val k×Val u)} (h:lkB l id=.map k u es):id=7∨id=8:=by
 have:=Lw l id (by rw[h]; rfl);rw[hl] at this
 rcases id with _|_|_|_|_|_|_|_|_|id<;>simp at this ⊢
 have:=ht _ (dl this);cases this
noncomputable def aq9 {ρ:Type}:List (Val Ï)→Option ρ→Option ρ
 |[],x=>x
 |_::_,_=>none
def ahL {ρ:Type} {l:List (Val Ï)} {x:Option ρ} {r:ρ} (h:aq9 l x=some r):l=[]∧x=some r:=by
 cases l with
 |nil=>exact⟨rfl,h⟩
 |cons=>cases h
noncomputable def cutK (p:cP) (v:cV):Option (Val Ä):=aq9 (wI v) (Ã (BU (ò v) (Ū v)) fun z=>oi p (Ģ v z) some)
def am2 {l:List (Val Ï)} {im:List (Int×Bool)} {z:List (Val Ï)} (h:BU l im=some z):â l.length=true∧z=(TK (fun j=>Nh im (gz l j).1) l.length).map (gz l):=by
 unfold BU at h;simp only[Þ] at h
 split at h
 ·rename_i ho;cases h;refine⟨ho,?_⟩
  have key:∀(n:Nat),n≤l.length→(l.take n).filter (fun g=>((uF (k:=tI) (v:=.bool) g.1 im:Option Bool)).getD false)=(TK (fun j=>Nh im (gz l j).1) n).map (gz l):=by
   intro n
   induction n with
   |zero=>intro _; rfl
   |succ n ih =>
    intro hn
    have hg:l[n]?=some (gz l n):=by simp[gz,df (show n<l.length from hn)]
    rw[List.take_succ,gQ,ih (by omega),F9,hg];have:((uF (k:=tI) (v:=.bool) (gz l n).1 im:Option Bool)).getD false=Nh im (gz l n).1:=rfl;simp only[Option.toList_some,eo,eE,this]
    split<;>simp
  have:=key l.length (dg _)
  rwa [List.take_length] at this
 ·cases h
def apv {n m:Nat} (h:â n=true) (hm:m≤n):â m=true:=by
 unfold â at h ⊢;simp only[Bool.and_eq_true,decide_eq_true_eq] at h ⊢
 first|omega|(constructor<;>omega)
def ajJ {G:Nat→Prop} {D D':List Deferred} {Q Q':Option Nat} {ν:Nat→Value} {h:List Blk} {w:World} {a:AV} {v:Value} (hv:@VR ⟨G,D,Q⟩ ν h w a v):@VR ⟨G,D',Q'⟩ ν h w a v:=hv
def BJ [ø] {ν2 ν':Nat→Value} {h1 h':List Blk} {w1 W:World} (H1:HR ν2 h1 w1) (ev:Ev 9 ν2 h1 w1 ν' h' W) (hl1:∀id,id=7∨id=8→∃k u es,lkB h1 id=.map k u es)
 {t:List Bool} (hl:h'.map aeX=[false,false,false,false,false,false,false,true,true]++t) (ht:∀b∈t,b=false):aoF w1.heap.size ν' h':=by
 intro id k u es b hm hν
 have h9:id<9:=by rcases aiX hl ht hm with rfl|rfl<;>omega
 obtain⟨k1,u1,es1,h7⟩:=hl1 id (aiX hl ht hm);have hb:=ev.blk id h9;rw[h7] at hb;obtain⟨_,he⟩:=hb;have hB:=H1.blk id;rw[h7] at hB;obtain⟨b0,_,_,q1,q2,_⟩:=hB;rw[he,q1] at hν;cases hν;exact ę q2
def aqx (p:cP) (v:cV):∀id,id=7∨id=8→∃k u es,lkB (cS p v).h id=.map k u es:=by
 rintro id (rfl|rfl)
 ·exact⟨_,_,_,rfl⟩
 ·exact⟨_,_,_,rfl⟩
noncomputable def CI (G:Nat→Prop) (p:cP) (v:cV) (ν2:Nat→Value) (w1:World) (pre:List Nat) (W:World):Prop :=
 ∃ν',@HR ⟨G,[],none⟩ ν' (cS p (Ģ v (pre.map (gz (ò v))))).h W∧Ev 9 ν2 (cS p v).h w1 ν' (cS p (Ģ v (pre.map (gz (ò v))))).h W
def CI.own {G:Nat→Prop} {p:cP} {v:cV} {ν2:Nat→Value} {w1:World} (H1:@HR ⟨G,[],none⟩ ν2 (cS p v).h w1):OwnFrom w1.heap.size (CI G p v ν2 w1):=by
 intro pre W W' row hI hg hr
 letI:ø:=⟨G,[],none⟩
 obtain⟨ν',H,ev⟩:=hI;have hml:=BJ H1 ev (aqx p v) (ah1 _ _) (t:=[false]) (by simp);refine⟨ν',H.ckeep (Tb hg hr) (fun id k u es b hl hν=>?_) (aaR rfl _ (cS_mf _ _)),ev.own hg fun r e=>(hr r e).1⟩;have hb:=hml id k u es b hl hν
 exact hg.block b (dI hb ev.size) fun e=>by have:=(hr b e.symm).1; omega
def CI.nd {G:Nat→Prop} {p:cP} {v:cV} {ν2:Nat→Value} {w1 W:World} {pre:List Nat} {R:Nat→Prop} {tb:Nat} (H1:@HR ⟨G,[],none⟩ ν2 (cS p v).h w1) (hR:∀b,R b→b<w1.heap.size∧¬aia ν2 (cS p v).h b) (htb:ν2 6=.pointer (some ⟨tb,0,none⟩)) (hI:CI G p v ν2 w1 pre W):KNd w1 R tb (Ū v) W:=by
 letI:ø:=⟨G,[],none⟩
 obtain⟨ν',H,ev⟩:=hI;have h6:=H1.blk 6;rw[cS_6] at h6;obtain⟨b6,_,_,q1,q2,_⟩:=h6;rw[htb] at q1;cases q1;have h7:=H1.blk 7;rw[cS_7] at h7;obtain⟨mb,_,_,r1,r2,_⟩:=h7;have e6:=ev.blk 6 (by omega);rw[cS_6] at e6;have e7:=ev.blk 7 (by omega);rw[cS_7] at e7;have k6:=H.blk 6;rw[show lkB (cS p (Ģ v (pre.map (gz (ò v))))).h 6=.cells [.omp 7] from cS_6 _ _] at k6;obtain⟨b,c,e,s1,s2,s3⟩:=k6;rw[e6.2,htb] at s1;cases s1;obtain⟨mv,s4,s5⟩:=s3.one;obtain⟨_,k,u,es,_,s6⟩:=s5.1;have k7:=H.blk 7;rw[show lkB (cS p (Ģ v (pre.map (gz (ò v))))).h 7=.map tI .bool (Ū v) from cS_7 _ _] at k7;obtain⟨mb',en,cl,t1,t2,t3,t4⟩:=k7;have e1:mv=.map (some mb'):=s6.trans t1
 have e2:mb'=mb:=by rw[e7.2,r1] at t1; cases t1; rfl
 subst e2;refine⟨ev.size,fun b hb=>(ev.keep b (hR b hb).1 (hR b hb).2).1,ę q2,mb',ę r2,?_,en,cl,t2,t3,fun i x hx=>?_⟩
 ·have hc:c=#[mv]:=by rw[←d8,s4]
  rw[hc,e1] at s2;simp[World.cell?,s2]
 ·obtain⟨m,us,u1,u2,u3,u4⟩:=t4 i x hx;have v1:[m.key]=[.int .i64 x.1]:=u2;have v2:us=[.bool x.2]:=u3;refine⟨m,u1,by simpa using v1,?_⟩;rw[u4,v2];rfl
def akL:drawn (Am.rfA (Am.rfC 7 ģ))=false:=by kernel_rfl
def akK:drawn (Am.rfB (Am.rfC 7 ģ))=false:=by kernel_rfl
def akJ:í 4 (Am.rfA (Am.rfC 7 ģ))=[]:=by kernel_rfl
def akI:í 4 (Am.rfB (Am.rfC 7 ģ))=[]:=by kernel_rfl
def abe [ø] (ρ:Type):mB (ğ ρ) 2 (kr (ğ ρ) 10):=by
 have hlib:OA (ğ ρ):=Sr Q1 (ğ ρ) rfl rfl rfl rfl rfl (iM rfl);have hdraw:∀L call,mB (ğ ρ) L call→mV (ğ ρ) L call:=FX hmix;have hcall:=nB (.inr fun _=>rfl) hlib hdraw (fun n hn hE path f fn c hp hf hc=>IT (tab:=sL ρ) rfl MB hn hE (hdraw _ _ hE) hp hf hc) 10 (dg _);exact⟨.inr (rI 9),hcall,hlib.plain,hlib.clone,hlib.joins⟩
def anC {G:Nat→Prop} {p:cP} {v:cV} {ν2:Nat→Value} {a:Act} {w1:World} (H1:@Sim ⟨G,[],none⟩ ν2 (cS p v) a w1) (l:Nat) (pre:List Nat) (x:Nat) (W:World) (hl:w1.heap.size≤l) (hI:CI G p v ν2 w1 pre W) (hok:â (pre.length+1)=true) {u:Value} (hu:∀[ø] (ν:Nat→Value) (h:List Blk) (w:World),VR ν h w (.agg (flat Ï (gz (ò v) x))) u) :
 (Am.rfA (Am.rfC 7 ģ)).wpIn (Fence.wide.inRound l) 0 Tryz.prog (Exit.then (fun a' Wa=>KeepsFrom w1.heap.size W Wa∧∀r',(∃r,Wa.heap[l]?=some (.loop r)) →
  (Am.rfB (Am.rfC 7 ģ)).wpIn (Fence.wide.inRound l) 0 Tryz.prog (Exit.then (fun _ W3=>KeepsFrom w1.heap.size (Wa.putObj l (.loop r')) W3∧CI G p v ν2 w1 (pre++[x]) W3) (fun _ _ _=>False)) a' (Wa.putObj l (.loop r'))) (fun _ _ _=>False)) {tmps:=a.tmps.setIfInBounds 60 u,defers:=[]} W:=by
 letI:ø:=⟨G,[],some l⟩
 have H1h:HR ν2 (cS p v).h w1:=HR_ghost (@Sim.heap ⟨G,[],none⟩ _ _ _ _ H1);obtain⟨ν',H0,ev⟩:=hI;have H:HR ν' (cS p (Ģ v (pre.map (gz (ò v))))).h W:=HR_ghost H0;obtain⟨v',hv'⟩:∃v',v'=Ģ v (pre.map (gz (ò v))):=⟨_,rfl⟩;rw[←hv'] at H ev
 have ht:(cS p v').t=(cS p v).t:=by rw[hv']; exact cS_t _ _ _
 have hml:=BJ H1h ev (aqx p v) (ah1 _ _) (t:=[false]) (by simp)
 have simA:Sim ν' (cS p v') {tmps:=a.tmps,defers:=[]} W:=by
  refine⟨rfl,?_,fun i=>?_,H⟩
  ·rw[ht]; show _≤a.tmps.size; exact @Sim.len ⟨G,[],none⟩ _ _ _ _ H1
  ·rw[ht]; exact VR.pin ev (aeQ rfl _ (arg p v) i) (ajJ (@Sim.tmps ⟨G,[],none⟩ _ _ _ _ H1 i))
 have sim0:=simA.put (Ev.refl _ _ _ _) H (some 60) (hu ν' _ W);have hEnv:=abe (cP×Val (tyL BK));have hgo:=LD hEnv (path:=[]) rfl (Am.rfA (Am.rfC 7 ģ)) 4 _ _ ν' _ W (fun h=>by rw[akL] at h; cases h) (fun z hz=>by rw[akJ] at hz; cases hz) (akk p v' (gz (ò v) x) fun p u=>some (p,u)) sim0 (dL (show 9≤10 by decide) (Nat.le_of_eq (cS_len p v').symm));refine wpIn_mono hgo fun e a' Wa ha=>?_;obtain⟨νa,Sa,sA,evA,lenA,ddA,kA⟩:=ha;obtain⟨rfl,p',u',hm',hk'⟩:=GB kA;cases hk';obtain⟨νb,sB,evB,lB,dB⟩:=match_ok _ _ _ _ _ _ _ νa a' Wa hm' sA;have evAB:Ev 9 ν' (cS p v').h W νb (cU p v' (gz (ò v) x)).h Wa:=evA.trans evB (dg _);have evT:=ev.trans evAB (dg _);have hmu:=BJ H1h evT (aqx p v) (ase _ _ _) (t:=[false,false]) (by simp);refine⟨MU H hml evAB,fun r' ⟨r,hr⟩=>?_⟩;have hlt:l<Wa.heap.size:=ę hr
 have K:ς Wa (Wa.putObj l (.loop r')):=⟨by simp[World.putObj],fun b c e q hb=>by
  rw[World.putObj_heap_other (fun e'=>by subst e'; rw[hr] at hb; cases hb)]; exact hb⟩
 have sC:Sim νb (cU p v' (gz (ò v) x)) a' (Wa.putObj l (.loop r')):=sB.ckeep K (fun id k q es b hb hν=>World.putObj_heap_other (by have:=hmu id k q es b hb hν; omega)) (aaR rfl _ (cU_mf _ _ _)) (aeQ rfl _ (cU_mft _ _ _))
 have evO:Ev 9 ν2 (cS p v).h w1 νb (cU p v' (gz (ò v) x)).h (Wa.putObj l (.loop r')):=evT.own (grownBy_putObj' Wa l _) fun q e=>by cases e; exact hl
 have hEnv2:=abe (cP×cV);have law:=akj p v' (gz (ò v) x) fun p v=>some (p,v)
 have hrow:wI v'=pre.map (gz (ò v)):=by rw[hv']; rfl
 rw[hrow] at law;simp only[eF,dn,dH,dC,hok,Þ] at law;have hgo2:=LD hEnv2 (path:=[]) rfl (Am.rfB (Am.rfC 7 ģ)) 4 _ _ νb _ _ (fun h=>by rw[akK] at h; cases h) (fun z hz=>by rw[akI] at hz; cases hz) law sC (dL (show 9≤11 by decide) (Nat.le_of_eq (cU_len p v' (gz (ò v) x)).symm));refine wpIn_mono hgo2 fun e a3 W3 hb=>?_;obtain⟨νc,Sc,sD,evC,lenC,ddC,kC⟩:=hb;obtain⟨rfl,p',u',hm',hk'⟩:=GB kC;cases hk';obtain⟨νd,sE,evD,lD,dD⟩:=match_ok _ _ _ _ _ _ _ νc a3 W3 hm' sD;have evCD:=evC.trans evD (dg _);refine⟨MU sC.heap hmu evCD,νd,?_⟩
 have hput:Ģ v' (pre.map (gz (ò v))++[gz (ò v) x])=Ģ v ((pre++[x]).map (gz (ò v))):=by
  rw[hv',ic]; rfl
 rw[←hput];exact⟨HR_ghost sE.heap,evO.trans evCD (dg _)⟩
noncomputable def aib (G:Nat→Prop) (y:Val Ä) (w:World) (e:Ending) (w':World):Prop :=
 ∃u,e=.returned u∧RR w' G [Ä] y u∧(∀b,b<w.heap.size→w'.heap[b]?=w.heap[b]?)∧w.heap.size≤w'.heap.size∧w'.os=w.os∧w'.tape=w.tape∧w'.output=w.output
noncomputable def ahM (u:Val (tyL j8)):Val Ä:=((u.1,u.2.1),u.2.2.1,u.2.2.2.1,u.2.2.2.2.1,u.2.2.2.2.2.1,u.2.2.2.2.2.2)
def aqd (p:cP) (v:cV):oi p v (fun y=>(fun u=>some (ahM u)) (lv y))=oi p v some:=by kernel_rfl
def anB (u:Val (tyL j8)):lv (ahM u)=u:=by kernel_rfl
def asf (y:Val Ä):(jA rc [] j8 () (lv y)).h.map aeX=[false]:=by kernel_rfl
def aqa {G:Nat→Prop} {p:cP} {v:cV} {y:Val Ä} {ν:Nat→Value} {a:Act} {w0 W:World} {D:Nat} (H:@Sim ⟨G,[],none⟩ ν (cS p v) a W) (hB:oi p v some=some y) (hD:W.heap[D]?=some (.deferred (some []))) (hnl:¬aia ν (cS p v).h D)
 (hev:Ev 0 (fun _=>undef) [] w0 ν (cS p v).h W) (hDl:w0.heap.size≤D) :
 (Am.postC 7 ģ).wpIn Fence.wide 2 Tryz.prog (bodyPostM Fence.wide 2 Tryz.prog Tryz.f79 (aib G y w0)) {a with defers:=aiW D::a.defers} W:=by
 have hdf:a.defers=[]:=@Sim.defers ⟨G,[],none⟩ _ _ _ _ H
 letI:ø:=⟨G,[aiW D],none⟩
 have sim:Sim ν (cS p v) {a with defers:=aiW D::a.defers} W:=⟨by show aiW D::a.defers=[aiW D]; rw[hdf],(show _≤a.tmps.size from @Sim.len ⟨G,[],none⟩ _ _ _ _ H),fun i=>ajJ (@Sim.tmps ⟨G,[],none⟩ _ _ _ _ H i),HR_ghost (@Sim.heap ⟨G,[],none⟩ _ _ _ _ H)⟩;have hEnv:=abe (Val Ä);have hdraw:∀L call,mB (ğ (Val Ä)) L call→mV (ğ (Val Ä)) L call:=FX hmix;have law:=adQ p v fun u=>some (ahM u);rw[aqd,hB] at law
 have hL:∀z∈í 0 (Am.postC 7 ģ),rL (ğ (Val Ä)) [] 79 z.1 z.2:=fun z hz =>
  IT (E:=ğ (Val Ä)) (tab:=sL _) rfl MB (n:=10) (dg _) hEnv (hdraw _ _ hEnv) rfl Tryz.func79 sM z (ai0 7 ģ 0 HJ hz)
 have hgo:=mi hEnv (hdraw _ _ hEnv) rfl (Am.postC 7 ģ) 0 _ _ ν _ W hL law sim (eN _);rw[I6 rfl] at hgo;refine wpIn_wide.2 (wpIn_wide.1 (wpIn_mono hgo fun e a' W' ha=>?_));obtain⟨νa,Sa,sA,evA,_,_,kA⟩:=ha;obtain⟨rfl,u,hm,hk⟩:=amC kA;cases hk;obtain⟨νb,sB,evB,_,_⟩:=match_ok _ _ _ _ _ _ _ νa a' W' hm sA
 have hu:jA rc [] j8 () u=jA rc [] j8 () (lv (ahM u)):=by rw[anB]
 rw[hu] at sB evB;have evT:=(evA.trans evB (dg _));have hD':W'.heap[D]?=some (.deferred (some [])):=(evT.keep D (ę hD) hnl).1.trans hD;have hd':a'.defers=[aiW D]:=sB.defers;show LeavesInM _ _ _ _ _ _ a'.defers _ _;rw[hd'];refine⟨by simp,.inl ⟨D,_,rfl,run_takeDeferred hD',?_⟩⟩;have hlt:=ę hD'
 have K:ς W' (W'.putObj D (.deferred none)):=⟨by simp[World.putObj],fun b c e q hb=>by
  rw[World.putObj_heap_other (fun e'=>by subst e'; rw[hD'] at hb; cases hb)]; exact hb⟩
 have sC:=sB.ckeep K (fun id k q es b hb hν=>by
  have:=Lw _ id (by rw[hb]; rfl);rw[asf] at this
  rcases id with _|id<;>simp at this) (aaR rfl _ (cR_mf _)) (aeQ rfl _ (cR_mft _))
 obtain⟨uu,q1,q2⟩:=JV sC (agU (ahM u));have hall:=hev.trans evT (dg _);refine⟨uu,q1,uu,rfl,XX sC.heap [Ä] q2 (show ą [Ä] _ (enc Ä (ahM u))=some (ahM u) from rfl),fun b hb=>?_,?_,hall.os,hall.tape,hall.output⟩
 ·rw[World.putObj_heap_other (by omega)];exact(hall.keep b hb fun⟨_,h,_⟩=>by cases h).1
 ·have:=hall.size;simpa[World.putObj] using this
def aqe (x:Val (.pair Ä (.pair (.slice Â) (.slice Â)))):HK x.1 x.2.1 x.2.2 cutK=qx.F x:=by kernel_rfl
noncomputable def encG (g:Val Ï):Value:=.agg #[.int .i64 g.1,.int .i64 g.2.1,.int .i64 g.2.2.1,.int .i64 g.2.2.2.1.1,.int .i64 g.2.2.2.1.2,.int .i64 g.2.2.2.2.1.1,.int .i64 g.2.2.2.2.1.2,.int .i64 g.2.2.2.2.2]
def arZ [ø] (g:Val Ï) (ν:Nat→Value) (h:List Blk) (w:World):VR ν h w (.agg (flat Ï g)) (encG g) :=
 ⟨_,rfl,⟨rfl,rfl⟩,⟨rfl,rfl⟩,⟨rfl,rfl⟩,⟨rfl,rfl⟩,⟨rfl,rfl⟩,⟨rfl,rfl⟩,⟨rfl,rfl⟩,⟨rfl,rfl⟩,trivial⟩
def aqc (G:Nat→Prop) (x:Val (tyL qx.ts)) (y:Val Ä) (hF:qx.F x=some y) (w:World) (vals:List Value) (hG:∀b,G b→b<w.heap.size) (hAL:AL w G qx.ts x vals) :
 (∃fn c,Tryz.prog.funcs[79]?=some fn∧fn.body=some c)∧CallsIn Fence.wide 0 Tryz.prog 79 vals.toArray w (aib G y w):=by
 letI:ø:=⟨G,[],none⟩
 have hlib:OA (Δ (Val Ä)):=Sr Q1 _ rfl rfl rfl rfl rfl (iM rfl);have hdraw:∀L call,mB (Δ (Val Ä)) L call→mV (Δ (Val Ä)) L call:=FX hmix;have hloops:ah9 (Δ (Val Ä)):=fun n hn hE hD path f fn c hp hf hc=>IT (tab:=Ft _) rfl agW hn hE hD hp hf hc;have hcall:=nB (.inl ⟨rfl,rfl⟩) hlib hdraw (fun n hn hE=>hloops n hn hE (hdraw _ _ hE)) 10 (dg _);have hEnv:mB (Δ (Val Ä)) 2 (kr (Δ (Val Ä)) 10):=⟨.inr (rI 9),hcall,hlib.plain,hlib.clone,hlib.joins⟩;have H:HR (fun _=>undef) [] w:=⟨fun _=>trivial,fun _ _ _ h=>(by cases h),hG,fun _ _ h=>(by cases h)⟩;have hav:∀b,Av (fun _=>undef) [] b→G b:=fun b hb=>hb.elim (fun⟨_,h,_⟩=>by cases h) id;have hargs:Č (VR (fun _=>undef) [] w) (Ā qx.ts x) vals:=AL.VR (hAL.mono hav);refine⟨⟨Tryz.f79,_,Tryz.func79,sM⟩,?_⟩;have hlen:vals.length=3:=hargs.length.symm;refine callsIn_wide.2 (callsIn_wide.1 (callsIn_of_wp_marks (n:=2) Tryz.func79 sM trivial ?_ (R:=aib G y w)))
 have hS:Sim (fun _=>undef) {t:=Ā qx.ts x++List.replicate 127 .any,h:=[]} {tmps:=vals.toArray++Array.replicate (Tryz.f79.ntmps-vals.toArray.size) undef,defers:=[]} w:=by
  refine⟨rfl,?_,fun i=>?_,H⟩
  ·have:Tryz.f79.ntmps=130:=by kernel_rfl
   have hl2:(Ā qx.ts x).length=3:=rfl;simp[this,hlen,hl2]
  ·simp only[Sn];rcases dG i (Ā qx.ts x).length with hi|hi
   ·have:=Č.lk (R:=VR (fun _=>undef) [] w) (fun _=>trivial) i hargs
    have hv:i<vals.length:=by rw[←hargs.length]; exact hi
    have h2:(vals.toArray++Array.replicate (Tryz.f79.ntmps-vals.toArray.size) undef).getD i undef=vals.getD i undef:=by
     simp[dY,fA,hv]
    rw[h2]; exact this
   ·rw[amT _ _ hi]; trivial
 have law:=(agV x cutK).trans ((aqe x).trans hF);refine peelN rfl hEnv (hdraw _ _ hEnv) rfl (path:=[]) rfl (fun e S hne h=>hne (GB h).1) 7 ģ _ _ _ _ HJ (fun z hz=>hloops 10 (dg _) hEnv (hdraw _ _ hEnv) [] 79 Tryz.f79 ģ rfl Tryz.func79 sM z hz) law hS (fun ν1 S1 a1 w1 s1 e1 k1=>?_);obtain⟨_,p,v,hm,hk⟩:=GB k1;obtain⟨hrow,hk⟩:=ahL hk
 cases hz:BU (ò v) (Ū v) with
 |none=>rw[hz] at hk; cases hk
 |some z =>
 rw[hz] at hk;have hB:oi p (Ģ v z) some=some y:=hk;obtain⟨hzl,hzs⟩:=am2 hz;obtain⟨ν2,s2,e2,_,_⟩:=match_ok _ _ _ _ _ _ _ ν1 a1 w1 hm s1;have evw:=e1.trans e2 (dg _)
 have hv0:Ģ v []=v:=by rw[←hrow]; rfl
 have s2':Sim ν2 (cS p v) a1 w1:=s2
 -- the blocks
 obtain⟨fa,fb,us,lo,co,ko,h5⟩:=cS_5 p v;have hB5:=s2'.heap.blk 5;rw[h5] at hB5;obtain⟨bb,cb,te,n5,hbb,hc5⟩:=hB5;have hB6:=s2'.heap.blk 6;rw[cS_6] at hB6;obtain⟨tb,ct,tt,n6,htb,hc6⟩:=hB6;have hl5:=hc5.length
 obtain⟨u1,u2,u3,u4,u5,u6,u7,hcb⟩:∃u1 u2 u3 u4 u5 u6 u7,cb.toList=[u1,u2,u3,u4,u5,u6,u7]:=by
  rcases hcs:cb.toList with _|⟨u1,_|⟨u2,_|⟨u3,_|⟨u4,_|⟨u5,_|⟨u6,_|⟨u7,_|⟨u8,t⟩⟩⟩⟩⟩⟩⟩⟩<;>rw[hcs] at hl5<;>simp at hl5
  exact⟨u1,u2,u3,u4,u5,u6,u7,rfl⟩
 rw[hcb] at hc5;obtain⟨_,_,hc3,_⟩:=hc5;have hg3:CR w1 (Av ν2 (cS p v).h) (.slice Ï) (ò v) [u3]:=hc3.1;obtain⟨base,cap,eu3,hcap,hgl⟩:=hg3
 have eu3:u3=.slice base (ò v).length cap:=by simpa using eu3
 obtain⟨gb,go,hgb⟩:∃gb go,0<(ò v).length→base=some ⟨gb,go,none⟩∧¬Av ν2 (cS p v).h gb∧gb<w1.heap.size∧∀(i:Nat) (g:Val Ï),(ò v)[i]?=some g→∃us,CR w1 (Av ν2 (cS p v).h) Ï g us∧Ň w1 gb (go+i*8) us:=by
  rcases hgl with hgl|⟨gb,go,q1,q2,q3,q4⟩
  ·exact⟨0,0,fun h=>by rw[show(ò v)=[] from hgl] at h; simp at h⟩
  ·exact⟨gb,go,fun _=>⟨q1,q2,q3,q4⟩⟩
 obtain⟨gl,hgle⟩:∃gl,gl=ò v:=⟨_,rfl⟩;rw[←hgle] at hgb eu3
 have hR:∀b,(0<gl.length∧b=gb)→b<w1.heap.size∧¬aia ν2 (cS p v).h b:=fun b ⟨h,e⟩=>by subst e; obtain⟨_,q2,q3,_⟩:=hgb h; exact⟨q3,fun hl=>q2 (.inl hl)⟩
 have hnd:∀pre W,CI G p v ν2 w1 pre W→KNd w1 (fun b=>0<gl.length∧b=gb) tb (Ū v) W:=fun pre W hI=>hI.nd s2'.heap hR n6
 have hI0:CI G p v ν2 w1 [] w1:=by
  refine⟨ν2,?_,?_⟩
  ·rw[show Ģ v (([]:List Nat).map (gz (ò v)))=v from hv0]; exact s2'.heap
  ·rw[show Ģ v (([]:List Nat).map (gz (ò v)))=v from hv0]; exact Ev.refl _ _ _ _
 have hp59:=s2'.tmps 59;rw[cS_59] at hp59
 have hg:a1.tmps.getD 59 undef=.func (.func 212) #[] #[.pointer (some ⟨bb,0,none⟩),.pointer (some ⟨tb,0,none⟩)]:=by
  obtain⟨fs,cs,h1,h2,h3⟩:=hp59
  have e1:fs=#[]:=by rw[←d8]; exact h2.nil_left
  have hl:=h3.length
  obtain⟨v1,v2,e2⟩:∃v1 v2,cs.toList=[v1,v2]:=by
   rcases hcs:cs.toList with _|⟨v1,_|⟨v2,_|⟨v3,t⟩⟩⟩<;>rw[hcs] at hl<;>simp at hl
   exact⟨v1,v2,rfl⟩
  rw[e2] at h3;have e3:v1=.pointer (some ⟨bb,0,none⟩):=Bq (w:=w1) (id:=5) (off:=0) h3.1 n5;have e4:v2=.pointer (some ⟨tb,0,none⟩):=Bq (w:=w1) (id:=6) (off:=0) h3.2.1 n6;rw[h1,e1];congr 1;rw[←d8,e2,e3,e4]
 have hcbe:cb=#[u1,u2,.slice base gl.length cap,u4,u5,u6,u7]:=by rw[←d8,hcb,eu3]
 have hseq:SeqStopsK Fence.wide 1 Tryz.prog 212 #[.pointer (some ⟨bb,0,none⟩),.pointer (some ⟨tb,0,none⟩)] (fun j:Nat=>#[encG (gz gl j)]) (fun A B=>KNd w1 (fun b=>0<gl.length∧b=gb) tb (Ū v) A→KNd w1 (fun b=>0<gl.length∧b=gb) tb (Ū v) B)
  (fun xs=>xs=TK (fun j=>Nh (Ū v) (gz gl j).1) gl.length) (fun _=>True) (TK (fun j=>Nh (Ū v) (gz gl j).1) gl.length).length w1:=by
  intro l J Jx W hbel hJ hJx hY h0
  refine arP te 1 (by omega) l bb tb u1 u2 u4 u5 u6 u7 gb go gl.length cap base (fun h=>(hgb h).1) (fun j=>(gz gl j).1) (fun j=>(gz gl j).2.1) (fun j=>(gz gl j).2.2.1) (fun j=>(gz gl j).2.2.2.1.1) (fun j=>(gz gl j).2.2.2.1.2) (fun j=>(gz gl j).2.2.2.2.1.1) (fun j=>(gz gl j).2.2.2.2.1.2) (fun j=>(gz gl j).2.2.2.2.2)
   (fun j=>Nh (Ū v) (gz gl j).1) ?len (KNd w1 (fun b=>0<gl.length∧b=gb) tb (Ū v)) W ((hbel.block bb (ę hbb)).trans (by rw[hbb,hcbe])) ?cells ?maps (fun W1 W2 h hg=>h.grown (fun b hb=>(hR b hb).1) hg) ((hnd [] w1 hI0).below (fun b hb=>(hR b hb).1) hbel.size hbel.block)
   J Jx (fun pre W1 W2 hj hg=>hJ pre W1 W2 none hj hg (fun r e=>by cases e)) (fun pre W1 W2 hj hg=>hJx pre W1 W2 none hj hg (fun r e=>by cases e)) (fun pre j W1 hj hl=>hY pre j W1 hj hl) h0
  case len =>
   have:=hzl;rw[←hgle] at this;simp only[â,decide_eq_true_eq] at this;omega
  case cells =>
   intro W' hW j hj;obtain⟨q1,q2,q3,q4⟩:=hgb (by omega);obtain⟨vs,r1,r2⟩:=q4 j (gz gl j) (by simp[gz,df hj]);have r2:=r2.keep (w':=W') (hW.2.1 gb ⟨by omega,rfl⟩);rw[ahy r1] at r2;refine⟨?_,?_,?_,?_,?_,?_,?_,?_⟩
   ·simpa using r2 0 _ rfl
   ·simpa[fF] using r2 1 _ rfl
   ·simpa[fF] using r2 2 _ rfl
   ·simpa[fF] using r2 3 _ rfl
   ·simpa[fF] using r2 4 _ rfl
   ·simpa[fF] using r2 5 _ rfl
   ·simpa[fF] using r2 6 _ rfl
   ·simpa[fF] using r2 7 _ rfl
  case maps =>
   intro W' hW;obtain⟨_,_,h3,mb,h4,h5,h6⟩:=id hW;refine⟨.map (some mb),fun W'' hg=>?_⟩;obtain⟨k1,_,k3,mb',k4,k5,k6⟩:=hW.grown (fun b hb=>(hR b hb).1) hg
   have:mb'=mb:=by
    have e:=World.cell?_of_block (a:=⟨tb,0,none⟩) (hg.block tb (dI h3 hW.1) (by simp));rw[e,h5] at k5;cases k5; rfl
   subst this;exact⟨k5,fun j _=>apJ k6 _⟩
 rw[aki];refine wpIn_block (TM (n:=2) rfl (by omega) hg trivial (fun args w=>?eg) hseq (fun h k=>fun q=>k (h q)) (fun W l o o' hl ho _ _ hW=>?kb) (Below.refl _ _) (fun _=>rfl) (CI G p v ν2 w1) (CI.own s2'.heap) hI0 (fun l pre j W hl _ hI hlt=>?round) (fun D xs W hD hxs hI hDo=>?done))
 case eg=>simp[callFunc,Sem.run_bind,run_program,Result.andThen_ok,Tryz.func212,plain 212 _ Tryz.func212,show Tryz.f212.body.isNone=false from rfl]; rfl
 case kb=>exact hW.below (fun b hb=>(hR b hb).1) (by simp[World.putObj]) fun b hb=>World.putObj_heap_other (by omega)
 case round =>
  have hf:∀u:Value,((#[60]:Array Tmp).zip #[u]).foldl (fun t (p,v)=>t.setIfInBounds p v) a1.tmps=a1.tmps.setIfInBounds 60 u:=fun u=>by simp
  show Code.wpIn (Fence.wide.inRound l) 0 Tryz.prog _ _ ⟨((#[60]:Array Tmp).zip #[encG (gz gl j)]).foldl (fun t (p,v)=>t.setIfInBounds p v) a1.tmps,[]⟩ W;rw[hf];refine wpIn_mono (anC s2' l pre j W hl hI ?_ (u:=encG (gz gl j)) (by rw[hgle]; exact fun ν h w=>arZ _ ν h w)) fun e a' Wa ha=>?_
  ·refine apv hzl ?_;have:=agc (fun j=>Nh (Ū v) (gz gl j).1) gl.length;rw[←hgle];omega
  ·cases e with
   |normal =>
    refine⟨ha.1,fun r' hr=>wpIn_mono (ha.2 r' hr) fun e a3 W3 hb=>?_⟩
    cases e with
    |normal=>exact⟨hb.1,fun _=>hnd _ _ hb.2,hb.2⟩
    |_=>exact hb
   |_=>exact ha
 case done =>
  subst hxs;obtain⟨ν',Hd,evd⟩:=hI
  have hzz:(TK (fun j=>Nh (Ū v) (gz gl j).1) gl.length).map (gz (ò v))=z:=by rw[hzs,hgle]
  rw[hzz] at Hd evd;have hml:=BJ s2'.heap evd (aqx p v) (ah1 _ _) (t:=[false]) (by simp);have ht:(cS p (Ģ v z)).t=(cS p v).t:=cS_t _ _ _
  have simD:Sim ν' (cS p (Ģ v z)) a1 W:=by
   refine⟨s2'.defers,?_,fun i=>?_,Hd⟩
   ·rw[ht]; exact s2'.len
   ·rw[ht]; exact VR.pin evd (aeQ rfl _ (arg p v) i) (s2'.tmps i)
  exact aqa simD hB hDo (W6 Hd hml hD hDo rfl) (evw.trans (evd.mono (eN _)) (dg _)) (dL evw.size hD)
def anW:jt Tryz.prog 79 qx:=fun G x y hF w vals hG hAL=>aqc G x y hF w vals hG hAL
end Go.Proofs.ZzM
end

noncomputable section
set_option maxRecDepth 100000
namespace Go.Proofs.ZzM
open Go Go.Am
def akX:ZP 33 Wf:=zt (Mq _) Å rfl Å fun x=>TU x some
def aqm:ZP 7 aiG:=zt (J9 _) (Á akX Å) rfl (Á TS Å) fun x=>ac3 x some
def jU:ZP 119 ž:=zt (ů _) Å rfl (Á lO Å) fun x=>ng x some
def jV:ZP 53 jK:=zt (Si _) (Á ţ (Á Tp (Á jU Å))) rfl Å fun x=>aaN x some
def ln:ZP 50 jJ:=zt (Ho _) (Á jV Å) rfl Å fun x=>QU x some
def abm:ZP 173 OJ:=zt (WO _) Å rfl Å fun x=>ad5 x some
def Bo:ZP 146 uB:=zt (FC _) (Á abm Å) rfl (Á Rs Å) fun x=>Z4 x some
def Bn:ZP 147 rV:=zt (χ _) Å rfl (Á H6 (Á H5 (Á HZ (Á H4 (Á HY Å))))) fun x=>Oa x some
def an0:ZP 184 acB:=zt (FB _) (Á Bo (Á Bn (Á abm Å))) rfl (Á Rj Å) fun x=>Z0 x some
def ala:ZP 185 Wu:=zt (jP _) Å rfl (Á Oh (Á Og (Á Oe (Á Oc (Á Od Å))))) fun x=>U9 x some
def Tl:ZP 118 Gr:=zt (Ry _) (Á an0 (Á ala Å)) rfl Å fun x=>Z8 x some
def kK:ZP 52 jv:=zt (yc _) (Á Tl Å) rfl Å fun x=>Hn x some
def D3:ZP 96 tr:=zt (yb _) (Á ln (Á kK Å)) rfl Å fun x=>Hl x some
def vU:ZP 97 mZ:=zt (qW _) (Á ln (Á kK Å)) rfl Å fun x=>Ae x some
def nD:jt Tryz.prog 42 jY:=Gd (la _) (fun {_}=>Sr (Á D3 (Á vU Å)) (la _) rfl rfl rfl rfl rfl (iM rfl)) hmix (tab:=oh _) rfl Å (mY fun x=>Ac x some)
def pV:ZP 54 po:=zt (Lt _) (Á ţ Å) rfl (Á VG Å) fun x=>aeK x some
def M6:ZP 205 zc:=zt (DY _) (Á jU Å) rfl Å fun x=>On x some
def aqu:ZP 207 aiO:=zt (BP _) (Á nE Å) rfl (Á Vo (Á Vn Å)) fun x=>aew x some
def Ow:ZP 258 xR:=zt (sV _) Å rfl Å fun x=>CT x some
def Bp:ZP 261 uC:=zt (FD _) (Á JC Å) rfl (Á RA Å) fun x=>aaa x some
def Tm:ZP 285 Em:=zt (Ig _) (Á ajv (Á an3 Å)) rfl Å fun x=>RD x some
def asd:ZP 275 al9:=zt (aei _) (Á Bp (Á Tm Å)) rfl Å fun x=>ahc x some
def abo:ZP 259 Gu:=zt (AU _) (Á asd Å) rfl Å fun x=>Li x some
def ahX:ZP 291 agp:=zt (aeg _) Å rfl Å fun x=>ag9 x some
def D4:ZP 286 Da:=zt (yo _) (Á Bp (Á ahX Å)) rfl Å fun x=>Ij x some
def an5:ZP 289 ama:=zt (aek _) (Á Bp (Á Tm Å)) rfl Å fun x=>ahf x some
def an4:jt Tryz.prog 276 acE:=acf (FF _) (aej _) (fun {_}=>Sr (Á JC (Á D4 (Á an5 (Á ahX Å)))) (FF _) rfl rfl rfl rfl rfl (iM rfl)) (fun {_}=>libN (Á JC (Á D4 (Á an5 (Á ahX Å)))) _) rfl hmix (tab:=wU _) rfl Å (us:=MN) rfl (Á (by kernel_rfl) Å) (mY fun x=>aah x some)
def abn:ZP 260 Gt:=zt (AR _) (Á an4 Å) rfl Å fun x=>Lg x some
def Xy:ZP 243 J3:=zt (MR _) (Á Tn (Á JD (Á Ow (Á abo (Á abn Å))))) rfl Å fun x=>Vx x some
def afF:ZP 244 PI:=zt (Se _) Å rfl Å fun x=>aaE x some
def afD:ZP 262 PF:=zt (RF _) Å rfl Å fun x=>aae x some
def afE:ZP 245 PG:=zt (RJ _) (Á Bp (Á afD Å)) rfl Å fun x=>aaj x some
def ajw:ZP 246 Ya:=zt (WX _) (Á Bp (Á afD Å)) rfl Å fun x=>aen x some
def ajx:ZP 208 Yb:=zt (WY _) (Á Xy (Á afF (Á afE (Á ajw Å)))) rfl Å fun x=>aer x some
def ajy:ZP 74 Yc:=zt (vw _) (Á Tp (Á ajz (Á JD (Á M6 (Á aqu (Á ajx Å)))))) rfl (Á Vl (Á Vm (Á Vk Å))) fun x=>aeu x some
def ŭ:ZP 77 ŧ:=zt (MS _) (Á ţ (Á ajy Å)) rfl Å fun x=>VE x some
def Ś:ZP 108 ŗ:=zt (yl _) (Á Bo (Á Bn Å)) rfl Å fun x=>Ia x some
def afB:ZP 9 Mn:=zt (tJ _) (Á nD (Á ţ (Á jV (Á pV (Á ŭ (Á Ś Å)))))) rfl (Á HU Å) fun x=>N2 x some
def Xz:ZP 114 J4:=zt (MT _) (Á Xx (Á JD Å)) rfl Å fun x=>VI x some
def ajs:ZP 44 X6:=zt (WN _) (Á Xz Å) rfl Å fun x=>adL x some
def afA:ZP 45 PA:=zt (QZ _) Å rfl Å fun x=>ZC x some
def afx:ZP 46 Pz:=zt (Fs _) (Á Ŭ Å) rfl (Á QV Å) fun x=>Zz x some
def ajt:ZP 10 X7:=zt (BM _) (Á nD (Á ţ (Á ajs (Á afA (Á afx (Á jV (Á pV (Á ŭ (Á Ś Å))))))))) rfl (Á U1 (Á U0 Å)) fun x=>adZ x some
def ahW:ZP 12 PD:=zt (wO _) (Á ţ (Á ln (Á kK (Á jV (Á pV (Á ŭ (Á Ś Å))))))) rfl (Á KZ Å) fun x=>Re x some
def afC:ZP 148 PE:=zt (K6 _) Å rfl (Á ag3 (Á ag1 (Á ag0 (Á ag2 Å)))) fun x=>amH x some
def an1:ZP 78 acC:=zt (lf _) (Á Bo (Á Bn (Á afC Å))) rfl (Á Rq (Á Rl (Á Rn (Á Ro (Á Rp Å))))) fun x=>Z2 x some
def Tj:ZP 80 Ek:=zt (wD _) (Á ŭ Å) rfl (Á Kz Å) fun x=>QS x some
def anZ:ZP 24 acA:=zt (Q9 _) (Á ŭ (Á an1 (Á anW (Á Tj Å)))) rfl Å fun x=>ZT x some
def aft:ZP 34 Mk:=zt (Dc _) Å rfl Å fun x=>Nq x some
def FZ:ZP 93 Ej:=zt (G5 _) Å rfl Å fun x=>QQ x some
def anY:ZP 35 acz:=zt (Fx _) (Á nD (Á ţ (Á jV (Á pV (Á ŭ (Á FZ (Á Ś Å))))))) rfl (Á Q6 Å) fun x=>ZQ x some
def an2:ZP 95 acD:=zt (rg _) (Á Tl (Á afC Å)) rfl (Á Rw (Á Ru (Á Rv Å))) fun x=>Z6 x some
def abl:ZP 94 Gq:=zt (AD _) (Á ln (Á an2 Å)) rfl Å fun x=>KY x some
def ahV:jt Tryz.prog 36 PC:=Gd (mf _) (fun {_}=>Sr (Á ţ (Á jV (Á pV (Á ŭ (Á anW (Á Tj (Á abl (Á D3 (Á vU (Á Ś Å)))))))))) (mf _) rfl rfl rfl rfl rfl (iM rfl)) hmix (tab:=AC _) rfl (Á KW (Á KV Å)) (mY fun x=>Rb x some)
def ajA:ZP 167 Yf:=zt (Lr _) (Á ţ Å) rfl (Á VC Å) fun x=>aeG x some
def an7:ZP 215 acG:=zt (RN _) (Á Xy (Á afF (Á afE (Á ajw Å)))) rfl Å fun x=>aap x some
def ah0:ZP 166 PJ:=zt (IM _) (Á ajy (Á Tl (Á ajA (Á JD (Á M6 (Á an7 Å)))))) rfl Å fun x=>Sh x some
def an6:ZP 217 acF:=zt (RL _) (Á ţ Å) rfl Å fun x=>aan x some
def aqw:ZP 168 aiQ:=zt (WZ _) (Á ajx (Á an6 Å)) rfl Å fun x=>aeI x some
def afz:ZP 169 Mm:=zt (Dv _) (Á ln Å) rfl Å fun x=>NX x some
def afy:ZP 170 Ml:=zt (Du _) (Á kK Å) rfl Å fun x=>NV x some
def L2:jt Tryz.prog 98 J1:=Gd (sK _) (fun {_}=>Sr (Á ln (Á ŭ (Á Xz (Á ah0 (Á ajA (Á aqw (Á afz (Á afy Å)))))))) (sK _) rfl rfl rfl rfl rfl (iM rfl)) hmix (tab:=Dt _) rfl (Á NT Å) (mY fun x=>US x some)
def xI:ZP 101 wc:=zt (Aj _) Å rfl Å fun x=>KH x some
def ak7:ZP 172 Wr:=zt (MA _) Å rfl Å fun x=>UU x some
def ud:ZP 105 tp:=zt (xS _) (Á ak7 Å) rfl Å fun x=>G2 x some
def ue:ZP 106 tq:=zt (kO _) Å rfl (Á Cz (Á CA Å)) fun x=>G4 x some
def Ti:ZP 99 zb:=zt (nm _) (Á Ŭ (Á xI (Á ud (Á ue Å)))) rfl (Á Ab Å) fun x=>ES x some
def anX:ZP 37 acy:=zt (Fv _) (Á ţ (Á jV (Á pV (Á ŭ (Á L2 (Á Ti (Á Ś Å))))))) rfl (Á Q3 Å) fun x=>ZL x some
def JA:ZP 102 Gp:=zt (Ao _) Å rfl Å fun x=>KQ x some
def Jz:ZP 103 Gn:=zt (Ak _) Å rfl Å fun x=>KJ x some
def ahU:jt Tryz.prog 38 PB:=acf (wJ _) (ĕ _) (fun {_}=>Sr (Á ţ (Á jV (Á pV (Á ŭ (Á FZ (Á L2 (Á Ŭ (Á xI (Á JA (Á Jz (Á ud (Á ue (Á Ś Å))))))))))))) (wJ _) rfl rfl rfl rfl rfl (iM rfl)) (fun {_}=>Sr (Á ţ (Á jV (Á pV (Á ŭ (Á FZ (Á L2 (Á Ŭ (Á xI (Á JA (Á Jz (Á ud (Á ue (Á Ś Å))))))))))))) (ĕ _) rfl rfl rfl rfl rfl (iM rfl)) rfl hmix (tab:=re _) rfl (Á KO (Á KN Å)) (us:=tF) rfl (Á (by kernel_rfl) Å) (mY fun x=>Q5 x some)
def Tk:ZP 155 El:=zt (wQ _) Å rfl (Á K5 Å) fun x=>Rh x some
def aju:ZP 156 X8:=zt (K3 _) Å rfl (Á U6 Å) fun x=>ad3 x some
def VP:ZP 81 C8:=zt (ym _) (Á Bo (Á Tk (Á aju Å))) rfl Å fun x=>Ic x some
def VO:ZP 25 C7:=zt (yd _) (Á ţ (Á ŭ (Á VP Å))) rfl Å fun x=>HW x some
def VQ:ZP 107 C9:=zt (yn _) (Á Bo (Á Tk (Á aju (Á abm Å)))) rfl Å fun x=>If x some
def JB:ZP 40 wd:=zt (AB _) (Á ţ (Á jV (Á ŭ (Á VQ Å)))) rfl Å fun x=>KU x some
def oX:ZP 233 jm:=zt (Ő _) Å rfl (Á kX Å) fun x=>lR x some
def mJ:ZP 190 iy:=zt (Ξ _) (Á oX Å) rfl Å fun x=>kB x some
def t8:ZP 235 kv:=zt (Α _) Å rfl (Á nc Å) fun x=>oM x some
def pU:ZP 193 jC:=zt (iT _) (Á t8 Å) rfl Å fun x=>mI x some
def rJ:ZP 237 jI:=zt (Ű _) Å rfl (Á lP Å) fun x=>ni x some
def oF:ZP 196 iR:=zt (iB _) (Á rJ Å) rfl Å fun x=>lK x some
def aqt:ZP 55 aiN:=zt (Φ _) (Á mJ (Á pU (Á oF Å))) rfl (Á UQ (Á UN (Á UM (Á UO (Á UP (Á UL (Á UK (Á UJ (Á UI (Á UH Å)))))))))) fun x=>adN x some
def ak8:ZP 39 Ws:=zt (MF _) (Á VO (Á JB (Á ţ (Á aqt Å)))) rfl Å fun x=>UZ x some
def ahR:ZP 8 Ps:=zt (GF _) (Á afB (Á ajt (Á ahW (Á anZ (Á aft (Á anY (Á ahV (Á anX (Á ahU (Á ak8 (Á JB Å))))))))))) rfl Å fun x=>PV x some
def abk:ZP 51 Gm:=zt (á _) (Á kK Å) rfl (Á Fq (Á E9 (Á E5 (Á E4 (Á EY (Á EX (Á EV (Á EW (Á EZ (Á CO (Á CM (Á CN (Á E6 (Á CL (Á CH (Á CG (Á CE (Á CF (Á CJ (Á CD (Á CB (Á CC Å)))))))))))))))))))))) fun x=>KB x some
def ak9:ZP 11 Wt:=zt (lz _) (Á ţ (Á ajs (Á afA (Á afx (Á ks (Á ln (Á abk (Á jV (Á pV (Á ŭ (Á Ś Å))))))))))) rfl (Á N6 (Á N5 (Á N4 (Á N3 Å)))) fun x=>U3 x some
def afu:ZP 66 Pu:=zt (Ew _) Å rfl (Á PX Å) fun x=>Yy x some
def ajo:ZP 68 X2:=zt (WE _) Å rfl Å fun x=>ac6 x some
def VN:ZP 16 C6:=zt (oN _) (Á afu (Á ajo Å)) rfl (Á Cv Å) fun x=>GJ x some
def aqo:ZP 69 aiI:=zt (Ks _) Å rfl (Á Uv Å) fun x=>adt x some
def Ov:ZP 17 xQ:=zt (ι _) (Á afu (Á ajo (Á aqo Å))) rfl (Á yF (Á yE (Á yD Å))) fun x=>Cy x some
def tk:ZP 56 nT:=zt (Dh _) Å rfl Å fun x=>Nt x some
def Tg:ZP 132 J0:=zt (adm _) Å rfl Å fun x=>agE x some
def O5:ZP 62 Gl:=zt (WG _) (Á Tg Å) rfl Å fun x=>adr x some
def ajq:ZP 197 X4:=zt (Kv _) Å rfl (Á UB Å) fun x=>adE x some
def ajr:ZP 198 X5:=zt (WM _) Å rfl Å fun x=>adJ x some
def ak4:ZP 131 Wo:=zt (Mx _) (Á ajq (Á ajr Å)) rfl Å fun x=>Uy x some
def ak1:ZP 57 Wj:=zt (Mu _) (Á tk (Á O5 (Á ak4 (Á Tg Å)))) rfl Å fun x=>T5 x some
def Jy:ZP 134 za:=zt (EP _) Å rfl (Á Qw Å) fun x=>Y9 x some
def Cn:ZP 63 uz:=zt (Mv _) (Á Jy Å) rfl Å fun x=>Ue x some
def anM:ZP 58 aco:=zt (EE _) (Á O5 (Á Cn Å)) rfl (Á P1 Å) fun x=>YD x some
def akZ:ZP 59 Wh:=zt (oe _) (Á tk (Á Cn (Á Tg Å))) rfl (Á Nv (Á Nu (Á Nw Å))) fun x=>T1 x some
def anQ:ZP 133 acs:=zt (EK _) (Á Tg Å) rfl (Á Qg Å) fun x=>YV x some
def akY:ZP 60 Wg:=zt (Mr _) (Á tk (Á O5 (Á Tg (Á anQ Å)))) rfl Å fun x=>TZ x some
def afv:ZP 135 Pw:=zt (EM _) Å rfl (Á Qp Å) fun x=>Y2 x some
def aqn:ZP 199 aiH:=zt (Kn _) Å rfl (Á Um Å) fun x=>ado x some
def afw:ZP 136 Px:=zt (EN _) (Á aqn Å) rfl (Á Qr Å) fun x=>Y4 x some
def abj:ZP 61 Gk:=zt (jM _) (Á Cn (Á Jy (Á afv (Á afw Å)))) rfl (Á EH (Á EG (Á EF Å))) fun x=>Kj x some
def abi:ZP 139 OI:=zt (WF _) (Á afw Å) rfl Å fun x=>ada x some
def anN:ZP 137 acp:=zt (wx _) (Á abi Å) rfl (Á P8 (Á P7 Å)) fun x=>YK x some
def Co:ZP 64 uA:=zt (iU _) (Á anN Å) rfl (Á ND (Á NC (Á NB (Á Ny (Á Nz (Á NA Å)))))) fun x=>Uh x some
def LZ:ZP 85 BD:=zt (zN _) (Á Co Å) rfl (Á NE Å) fun x=>Ul x some
def anO:ZP 200 acq:=zt (EI _) Å rfl (Á Qa Å) fun x=>YM x some
def anR:ZP 138 act:=zt (EL _) (Á Jy (Á afv (Á anO Å))) rfl (Á Ql Å) fun x=>YY x some
def Th:ZP 274 Ei:=zt (GY _) (Á ajq (Á ajr Å)) rfl Å fun x=>QI x some
def aqs:ZP 254 aiM:=zt (WL _) (Á Th Å) rfl Å fun x=>adH x some
def aqq:ZP 255 aiK:=zt (WJ _) Å rfl Å fun x=>adA x some
def aqp:ZP 238 aiJ:=zt (WH _) (Á aqs (Á aqq Å)) rfl Å fun x=>ady x some
def ak0:ZP 239 Wi:=zt (Ms _) (Á Jy Å) rfl Å fun x=>T3 x some
def anU:ZP 256 acw:=zt (QL _) Å rfl Å fun x=>Zj x some
def aqr:ZP 257 aiL:=zt (WK _) (Á Th Å) rfl Å fun x=>adC x some
def ak5:ZP 240 Wp:=zt (My _) (Á anU (Á aqr Å)) rfl Å fun x=>UA x some
def ahT:ZP 201 Py:=zt (GW _) (Á abi (Á aqp (Á ak0 (Á ak5 Å)))) rfl Å fun x=>Qv x some
def ak2:ZP 202 Wm:=zt (Mw _) Å rfl Å fun x=>Uq x some
def anT:ZP 241 acv:=zt (QJ _) Å rfl Å fun x=>Zh x some
def ak6:ZP 203 Wq:=zt (Mz _) (Á anT Å) rfl Å fun x=>UD x some
def asc:ZP 242 al8:=zt (adu _) Å rfl Å fun x=>agK x some
def anV:ZP 204 acx:=zt (QN _) (Á asc Å) rfl Å fun x=>Zt x some
def anP:ZP 140 acr:=zt (Qe _) (Á ahT (Á ak2 (Á ak6 (Á anV Å)))) rfl Å fun x=>YT x some
def ajp:ZP 65 X3:=zt (uN _) (Á Co (Á LZ (Á anR (Á abi (Á anP Å))))) rfl (Á Ua (Á Ub (Á T9 Å))) fun x=>adf x some
def L1:ZP 15 BF:=zt (lu _) (Á tk (Á ak1 (Á anM (Á akZ (Á akY (Á abj (Á O5 (Á Cn (Á Co (Á ajp Å)))))))))) rfl (Á NI (Á NG (Á NH (Á NF Å)))) fun x=>Us x some
def ahS:ZP 31 Pv:=zt (GU _) (Á Co (Á ajp Å)) rfl Å fun x=>Qd x some
def anS:ZP 86 acu:=zt (Qn _) (Á L1 Å) rfl Å fun x=>Y0 x some
def ak3:ZP 87 Wn:=zt (κ _) Å rfl (Á NP (Á NQ (Á NN (Á NK (Á NL (Á NJ (Á NM Å))))))) fun x=>Uu x some
def anL:ZP 28 acn:=zt (EC _) (Á L1 (Á ahS (Á LZ (Á anS (Á ak3 Å))))) rfl (Á PZ Å) fun x=>YB x some
def akW:ZP 18 We:=zt (Mp _) (Á L1 (Á anL Å)) rfl Å fun x=>TR x some
def FY:ZP 70 qw:=zt (n0 _) Å rfl Å fun x=>wp x some
def Jw:ZP 71 wa:=zt (zr _) (Á LZ Å) rfl Å fun x=>Kd x some
def Tf:ZP 19 y0:=zt (nk _) (Á FY (Á Jw Å)) rfl (Á zo Å) fun x=>EB x some
def xH {rec:(Val å)→(Val (.slice tI))→(Val (.slice tI))→Option Int} (hrec:jt Tryz.prog 141 ⟨[å,(.slice tI),(.slice tI)],[tI],fun(x:Val (.pair å (.pair (.slice tI) (.slice tI))))=>rec x.1 x.2.1 x.2.2⟩):jt Tryz.prog 141 ⟨[å,(.slice tI),(.slice tI)],[tI],fun(x:Val (.pair å (.pair (.slice tI) (.slice tI))))=>ũ rec x.1 x.2.1 x.2.2 some⟩:=Gd (p:=⟨[å,(.slice tI),(.slice tI)],[tI],fun(x:Val (.pair å (.pair (.slice tI) (.slice tI))))=>ũ rec x.1 x.2.1 x.2.2 some⟩) (ĩ rec _) (fun {_}=>libN (Á hrec Å) _) hmix (tab:=mO rec _) rfl (Á uM Å) (mY fun x=>yB x some)
def mT:∀n:Nat,jt Tryz.prog 141 ⟨[å,(.slice tI),(.slice tI)],[tI],fun(x:Val (.pair å (.pair (.slice tI) (.slice tI))))=>Ī n x.1 x.2.1 x.2.2⟩
 |0=>by intro _ _ _ h; cases h
 |n+1=>xH (mT n)
def Jv:jt Tryz.prog 141 rU:=mT 100
def Te:ZP 72 yZ:=zt (j3 _) (Á Jv Å) rfl (Á zm (Á zl Å)) fun x=>Ez x some
def LY:ZP 20 uw:=zt (i8 _) (Á Jw (Á Te Å)) rfl (Á wt (Á wq Å)) fun x=>zq x some
def c_w6_SharpPiles:ZP 4 lM:=zt (uH _) (Á aqm (Á ahR (Á ajt (Á ak9 (Á VN (Á Ov (Á akW (Á Tf (Á LY Å))))))))) rfl Å fun x=>Eu x some
end Go.Proofs.ZzM
end
