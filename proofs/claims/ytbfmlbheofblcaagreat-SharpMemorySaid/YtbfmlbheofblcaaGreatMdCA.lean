/- lemmas -/
import Derived.Test.YtbfmlbheofblcaaGreatAmE
import Derived.Test.YtbfmlbheofblcaaGreatAmF
import Derived.Ground.NamesProg
import Derived.Ground.Names2Prog
import Derived.KernelRfl
import Derived.Test.YtbfmlbheofblcaaGreatMdMA
import Derived.Test.YtbfmlbheofblcaaGreatMdKB
import Derived.RangeFuncBox
import Derived.Lib.SliceRun
import Derived.RangeFuncLeaves
import Derived.WalkKit
import Derived.OwnWalkIn
import Derived.TacticsInMore
import Derived.LoopNIn
import Derived.LoopIn
import Derived.Test.YtbfmlbheofblcaaGreatProg
import Derived.RangeFuncFrom
import Derived.RangeFuncRecord
import Derived.Test.YtbfmlbheofblcaaGreatMdKA
set_option linter.all false
noncomputable section
namespace Go.Proofs
open Go.Shelf
def Tryz.laysSort_ren:Go.Shelf.Ren:=⟨fun|189=>186|125=>213|257=>212|128=>228|129=>229|294=>219|295=>220|296=>221|297=>222|298=>223|299=>224|216=>225|300=>226|301=>227|328=>232|329=>233|330=>234|331=>235|332=>236|215=>237|343=>245|n=>n,fun|28=>38|3=>3|46=>258|0=>0|51=>274|53=>253|4=>4|183=>267|182=>266|131=>229|5=>5|9=>9|218=>281|222=>285|228=>293|229=>294|n=>n,fun|n=>n⟩
def Tryz.laysSort:Go.Proofs.Lays.n189 Tryz.prog Tryz.laysSort_ren:={
 mixed:=by kernel_rfl
 f125:=Tryz.func213.trans (congrArg some (by kernel_rfl))
 f128:=Tryz.func228.trans (congrArg some (by kernel_rfl))
 f129:=Tryz.func229.trans (congrArg some (by kernel_rfl))
 f189:=Tryz.func186.trans (congrArg some (by kernel_rfl))
 f215:=Tryz.func237.trans (congrArg some (by kernel_rfl))
 f216:=Tryz.func225.trans (congrArg some (by kernel_rfl))
 f257:=Tryz.func212.trans (congrArg some (by kernel_rfl))
 f294:=Tryz.func219.trans (congrArg some (by kernel_rfl))
 f295:=Tryz.func220.trans (congrArg some (by kernel_rfl))
 f296:=Tryz.func221.trans (congrArg some (by kernel_rfl))
 f297:=Tryz.func222.trans (congrArg some (by kernel_rfl))
 f298:=Tryz.func223.trans (congrArg some (by kernel_rfl))
 f299:=Tryz.func224.trans (congrArg some (by kernel_rfl))
 f300:=Tryz.func226.trans (congrArg some (by kernel_rfl))
 f301:=Tryz.func227.trans (congrArg some (by kernel_rfl))
 f328:=Tryz.func232.trans (congrArg some (by kernel_rfl))
 f329:=Tryz.func233.trans (congrArg some (by kernel_rfl))
 f330:=Tryz.func234.trans (congrArg some (by kernel_rfl))
 f331:=Tryz.func235.trans (congrArg some (by kernel_rfl))
 f332:=Tryz.func236.trans (congrArg some (by kernel_rfl))
 f343:=Tryz.func245.trans (congrArg some (by kernel_rfl))
 t0:=Tryz.underlying0
 a0:=Tryz.isAgg0
 z0:=Tryz.sizeOf0
 v0:=Tryz.zeroValue0
 t3:=Tryz.underlying3
 a3:=Tryz.isAgg3
 z3:=Tryz.sizeOf3
 v3:=Tryz.zeroValue3
 t4:=Tryz.underlying4
 a4:=Tryz.isAgg4
 z4:=Tryz.sizeOf4
 v4:=Tryz.zeroValue4
 t5:=Tryz.underlying5
 a5:=Tryz.isAgg5
 z5:=Tryz.sizeOf5
 v5:=Tryz.zeroValue5
 t9:=Tryz.underlying9
 a9:=Tryz.isAgg9
 z9:=Tryz.sizeOf9
 v9:=Tryz.zeroValue9
 t28:=Tryz.underlying38
 a28:=Tryz.isAgg38
 z28:=Tryz.sizeOf38
 v28:=Tryz.zeroValue38
 t46:=Tryz.underlying258
 a46:=Tryz.isAgg258
 z46:=Tryz.sizeOf258
 v46:=Tryz.zeroValue258
 t51:=Tryz.underlying274
 a51:=Tryz.isAgg274
 z51:=Tryz.sizeOf274
 v51:=Tryz.zeroValue274
 t53:=Tryz.underlying253
 a53:=Tryz.isAgg253
 z53:=Tryz.sizeOf253
 v53:=Tryz.zeroValue253
 t131:=Tryz.underlying229
 a131:=Tryz.isAgg229
 z131:=Tryz.sizeOf229
 v131:=Tryz.zeroValue229
 t182:=Tryz.underlying266
 a182:=Tryz.isAgg266
 z182:=Tryz.sizeOf266
 v182:=Tryz.zeroValue266
 t183:=Tryz.underlying267
 a183:=Tryz.isAgg267
 z183:=Tryz.sizeOf267
 v183:=Tryz.zeroValue267
 t218:=Tryz.underlying281
 a218:=Tryz.isAgg281
 z218:=Tryz.sizeOf281
 v218:=Tryz.zeroValue281
 t222:=Tryz.underlying285
 a222:=Tryz.isAgg285
 z222:=Tryz.sizeOf285
 v222:=Tryz.zeroValue285
 t228:=Tryz.underlying293
 a228:=Tryz.isAgg293
 z228:=Tryz.sizeOf293
 v228:=Tryz.zeroValue293
 t229:=Tryz.underlying294
 a229:=Tryz.isAgg294
 z229:=Tryz.sizeOf294
 v229:=Tryz.zeroValue294}
def Tryz.laysCompact_ren:Go.Shelf.Ren:=⟨fun|20=>187|n=>n,fun|22=>38|3=>3|4=>4|0=>0|n=>n,fun|n=>n⟩
def Tryz.laysCompact:Go.Proofs.Lays2.n20 Tryz.prog Tryz.laysCompact_ren:={
 mixed:=by kernel_rfl
 f20:=Tryz.func187.trans (congrArg some (by kernel_rfl))
 t0:=Tryz.underlying0
 a0:=Tryz.isAgg0
 z0:=Tryz.sizeOf0
 v0:=Tryz.zeroValue0
 t3:=Tryz.underlying3
 a3:=Tryz.isAgg3
 z3:=Tryz.sizeOf3
 v3:=Tryz.zeroValue3
 t4:=Tryz.underlying4
 a4:=Tryz.isAgg4
 z4:=Tryz.sizeOf4
 v4:=Tryz.zeroValue4
 t22:=Tryz.underlying38
 a22:=Tryz.isAgg38
 z22:=Tryz.sizeOf38
 v22:=Tryz.zeroValue38
 i3:=by kernel_rfl}
end Go.Proofs
end

noncomputable section
namespace Go.Proofs.ZzM
open Go Go.Am
class NwE where
 E:Nat->Prop
instance lX [NwE]:ë where
 n:=0
 Φ:=fun _=>True
 keep:=fun _ _ _ _=>trivial
 cel:=fun _ _ b h=>absurd h (Nat.not_lt_zero b)
 E:=NwE.E
variable [NwE]
def hmix:Tryz.prog.follows .mixedOrders=true:=by kernel_rfl
def plain_ : (Tryz.prog.funcs.toList.all fun fn => !(fn.name == "runtime.NumGoroutine")) = true := by kernel_rfl
def plain (f : Nat) (fn : Func) (h : Tryz.prog.funcs[f]? = some fn) : (fn.name == "runtime.NumGoroutine") = false := by
 have:=dw.1 plain_ fn (cQ (i:=f) (by simpa using h));simpa using this
def aic:Tryz.laysSort_ren.f 189=186:=by kernel_rfl
def ZU:Tryz.laysCompact_ren.f 20=187:=by kernel_rfl
section
variable [Ð] {ρ:Type}
def sortOk (f:Nat) (a:Ug f=true) (h:AS Blk) (x:AV) (K:AV->AS Blk->AN ρ) (q:ρ) (e:O5 h x K=some q) (ν:Nat->Value) (w:World) (u:Value) (H:HR ν h w) (b:VR ν h w x u):DP Tryz.prog f ν h w [u] K q:=by
 have c:f=186:=by
  unfold Ug at a
  split at a
  ·rfl
  ·cases a
 subst c;have:=ah4 Tryz.laysSort e H b ⟨_,rfl⟩
 rwa [aic] at this
def ad6 (f:Nat) (a:wm f=true) (h:AS Blk) (x:AV) (K:AV->AS Blk->AN ρ) (q:ρ) (e:nW h x K=some q) (ν:Nat->Value) (w:World) (u:Value) (H:HR ν h w) (b:VR ν h w x u):DP Tryz.prog f ν h w [u] K q:=by
 have c:f=187:=by
  unfold wm at a
  split at a
  ·rfl
  ·cases a
 subst c;have:=aaW Tryz.laysCompact e H b ⟨_,rfl⟩
 rwa [ZU] at this
def aiT:E7 Tryz.prog Kg:=by
 intro g c fz S nid x v d e ν w u H a b hd;unfold Kg at c
 split at c
 ·exact tQ Tryz.func89 (T:=38) (by kernel_rfl) (by kernel_rfl) e H a b hd
 ·exact tQ Tryz.func90 (T:=60) (by kernel_rfl) (by kernel_rfl) e H a b hd
 ·exact tQ Tryz.func202 (T:=24) (by kernel_rfl) (by kernel_rfl) e H a b hd
 ·exact tQ Tryz.func203 (T:=25) (by kernel_rfl) (by kernel_rfl) e H a b hd
 ·exact tQ Tryz.func204 (T:=26) (by kernel_rfl) (by kernel_rfl) e H a b hd
 ·exact tQ Tryz.func205 (T:=28) (by kernel_rfl) (by kernel_rfl) e H a b hd
 ·exact tQ Tryz.func206 (T:=27) (by kernel_rfl) (by kernel_rfl) e H a b hd
 ·cases c
def J9 {c:AS (Nat×ï)} (h:∀e∈c,Ξ Tryz.prog e.1 e.2) (E:Env ρ) (b:E.P=Tryz.prog) (l:E.pure=aaJ c) (h2:E.sort=Ug) (k:E.compact=wm) (j:E.clone=Kg) (i:ZD E) (g:∀f X,E.ext f=some X->ajc E.P f X) (d:kR E):MV E:=by
 constructor
 ·intro f p a;rw[l] at a;rw[b];exact h (f,p) (OB a)
 ·intro f a;rw[h2] at a;rw[b];exact sortOk f a
 ·intro f a;rw[k] at a;rw[b];exact ad6 f a
 ·rw[b]; exact plain
 ·rw[b,j]; exact aiT
 ·exact i
 ·exact d
 ·exact g
def libN [LC] {a:AS (Nat×ï)} (h:∀e∈a,Ξ Tryz.prog e.1 e.2) (tab:AS (ă ρ)):MV (Ò a tab):=J9 h _ rfl rfl rfl rfl rfl (Λ rfl) (kK rfl) (ū rfl)
end
abbrev ZP (f:Nat) (p:ï):Prop:=Ξ Tryz.prog f p
def zt [LC] {f:Nat} {p:ï} {a:AS (Nat×ï)} {tab:AS (ă (Val (tyL p.rs)))} (E:Env (Val (tyL p.rs))) (c:∀e∈a,Ξ Tryz.prog e.1 e.2) (d:E=Ò a tab) (b:∀x∈tab,x.Ok E) (law:∀x:Val (tyL p.ts),topK E f (UL p.ts x) (fun h v=>Ä (ahx p.rs h v) some)=p.F x):Ξ Tryz.prog f p:=by
 subst d;exact AR (Ò a tab) (fun {_}=>libN c _) hmix (tab:=tab) rfl b (lh law)
end Go.Proofs.ZzM
end

noncomputable section
set_option maxRecDepth 100000
namespace Go.Proofs.ZzM
open Go Go.Am
def ņ [LC] [NwE]:ZP 63 Ł:=zt (jl _) Ã rfl (À qY (À qX Ã)) fun x=>by kernel_rfl
def Jk [LC] [NwE]:∀e∈Eh,Ξ Tryz.prog e.1 e.2:=(À ņ Ã)
def Wh [LC] [NwE] {ρ:Type}:∀e∈Ac ρ,e.Ok (Ř ρ):=(À PX (À PY (À PW (À PV (À PU (À PT Ã))))))
def Fy [LC] [NwE] {ρ:Type}:∀e∈pH ρ,e.Ok (ē ρ):=(À Mj (À Mi (À Mh Ã)))
def xM [LC] [NwE]:ZP 102 qR:=zt (T2 _) Ã rfl Ã fun x=>by kernel_rfl
def lQ [LC] [NwE]:ZP 180 jU:=zt (TZ _) Ã rfl Ã fun x=>by kernel_rfl
def Le [LC] [NwE]:ZP 147 Bb:=zt (Wx _) (À lQ Ã) rfl Ã fun x=>by kernel_rfl
def Zl [LC] [NwE]:ZP 208 Pj:=zt (aar _) Ã rfl Ã fun x=>by kernel_rfl
def aeB [LC] [NwE]:ZP 209 VS:=zt (TV _) Ã rfl (À P6 Ã) fun x=>by kernel_rfl
def DC [LC] [NwE]:ZP 179 A7:=zt (Wt _) (À Zl (À aeB Ã)) rfl Ã fun x=>by kernel_rfl
def Xg [LC] [NwE]:ZP 145 H9:=zt (CD _) (À xM (À Le (À DC (À lQ Ã)))) rfl Ã fun x=>JZ x some
def Lf [LC] [NwE]:ZP 103 vk:=zt (rK _) (À Xg Ã) rfl (À wd Ã) fun x=>by kernel_rfl
def Lc [LC] [NwE]:ZP 104 zN:=zt (Cm _) Ã rfl (À Es Ã) fun x=>by kernel_rfl
def EU [LC] [NwE]:ZP 211 qM:=zt (oE _) Ã rfl (À sw Ã) fun x=>by kernel_rfl
def nc [LC] [NwE]:ZP 185 jj:=zt (uG _) (À EU Ã) rfl Ã fun x=>by kernel_rfl
def Zp [LC] [NwE]:ZP 152 Pn:=zt (Ew _) (À nc Ã) rfl (À MG (À MF Ã)) fun x=>by kernel_rfl
def Ld [LC] [NwE]:ZP 106 Ba:=zt (Aj _) (À Zp Ã) rfl (À JW (À JX Ã)) fun x=>by kernel_rfl
def qF [LC] [NwE]:ZP 148 lS:=zt (GQ _) Ã rfl Ã fun x=>by kernel_rfl
def Xf [LC] [NwE]:ZP 146 VU:=zt (P8 _) (À Le (À qF Ã)) rfl Ã fun x=>by kernel_rfl
def QS [LC] [NwE]:ZP 150 Po:=zt (kB _) (À xM (À qF (À lQ Ã))) rfl (À Ao (À Al Ã)) fun x=>Ex x some
def OP [LC] [NwE]:ZP 153 D8:=zt (FO _) (À lQ Ã) rfl (À GR Ã) fun x=>by kernel_rfl
def DD [LC] [NwE]:ZP 154 wY:=zt (Eu _) (À nc Ã) rfl (À ME (À MD Ã)) fun x=>by kernel_rfl
def ag4 [LC] [NwE]:ZP 184 X9:=zt (Oc _) (À lQ Ã) rfl (À MH Ã) fun x=>by kernel_rfl
def GY [LC] [NwE]:ZP 151 F5:=zt (ń _) (À ņ (À xM (À Le (À qF (À OP (À DD (À lQ (À ag4 Ã)))))))) rfl (À uK (À uI (À uJ (À uH Ã)))) fun x=>xX x some
end Go.Proofs.ZzM
end

noncomputable section
namespace Go.Proofs
open Go.RowKit
attribute [local go_sem] Oper.semAt_some
noncomputable def Ly (a:Nat->Bool) (k:Nat):AS Nat:=(List.range k).filter a
def AO (a:Nat->Bool) (k:Nat):Ly a (k+1)=if a k then Ly a k++[k] else Ly a k:=by
 unfold Ly;rw[List.range_succ,List.filter_append]
 cases h:a k<;>simp[h]
def VG (a:Nat->Bool) (k:Nat):(Ly a k).length<=k:=by
 unfold Ly;exact Nat.le_trans (List.length_filter_le _ _) (by simp)
def abV (a:Nat->Bool) {j k:Nat} (h:j<=k):(Ly a j).length<=(Ly a k).length:=by
 obtain⟨d,rfl⟩:∃d,k=j+d:=⟨k-j,by omega⟩;unfold Ly;rw[List.range_add,List.filter_append,List.length_append];omega
def ah6 {a:Nat->Bool} {k n:Nat} (h:k<n) (c:a k=true):(Ly a k).length<(Ly a n).length:=by
 have b:=abV a (j:=k+1) (k:=n) h;rw[AO,c] at b;simp at b;omega
set_option maxRecDepth 100000 in
set_option maxHeartbeats 1000000 in
def aix (te:TypeId) (n:Nat) (hn:1<=n) (l bb tb:Nat) (flo fhi us lo co ko:Value) (gb go len cap:Nat) (gbase:AN Addr) (hgb:0<len->gbase=some ⟨gb,go,none⟩)
 (c0 c1 c2 c3 c4 c5 c6 c7:Nat->Int) (sel:Nat->Bool) (hlen:(len:Int)<9223372036854775807) (Nd:World->Prop)
 (W:World) (hb0:W.heap[bb]?=some (.cells #[flo,fhi,.slice gbase len cap,us,lo,co,ko] te (0,0)))
 (hNc:∀W',Nd W'->∀j,j<len->W'.cell? ⟨gb,go+j*8,none⟩=some (.int .i64 (c0 j))/\W'.cell? ⟨gb,go+j*8+1,none⟩=some (.int .i64 (c1 j))/\W'.cell? ⟨gb,go+j*8+2,none⟩=some (.int .i64 (c2 j))/\W'.cell? ⟨gb,go+j*8+3,none⟩=some (.int .i64 (c3 j)) /\
  W'.cell? ⟨gb,go+j*8+4,none⟩=some (.int .i64 (c4 j))/\W'.cell? ⟨gb,go+j*8+5,none⟩=some (.int .i64 (c5 j))/\W'.cell? ⟨gb,go+j*8+6,none⟩=some (.int .i64 (c6 j))/\W'.cell? ⟨gb,go+j*8+7,none⟩=some (.int .i64 (c7 j)))
 (hNm:∀W',Nd W'->∃mv,∀W'',W'.grownBy W'' none->W''.cell? ⟨tb,0,none⟩=some mv/\∀j,j<len->(Instr.lookup 145 mv (.int .i64 (c0 j)) false).run Tryz.prog W''=.ok (.bool (sel j)) W'')
 (hNs:∀W1 W2,Nd W1->W1.grownBy W2 none->Nd W2) (hN:Nd W)
 (J Jx:AS Nat->World->Prop) (hJ:∀pre W W',J pre W->W.grownBy W' none->J pre W') (hJx:∀pre W W',Jx pre W->W.grownBy W' none->Jx pre W')
 (hY:∀pre x W,J pre W->pre.length<(Ly sel len).length->YieldAt Fence.wide (n-1) Tryz.prog l #[.agg #[.int .i64 (c0 x),.int .i64 (c1 x),.int .i64 (c2 x),.int .i64 (c3 x),.int .i64 (c4 x),.int .i64 (c5 x),.int .i64 (c6 x),.int .i64 (c7 x)]] W fun e W' =>
  (e=.returned (.bool true)/\J (pre++[x]) W'/\(Nd W->Nd W'))\/(e=.returned (.bool false)/\Jx (pre++[x]) W'))
 (h0 : J [] W) :
  CallsIn Fence.wide n Tryz.prog 138 #[.func (.yield l) #[] #[],.pointer (some ⟨bb,0,none⟩),.pointer (some ⟨tb,0,none⟩)] W fun e W'=>(∃v,e=.returned v) /\
   ((∃xs,xs=Ly sel len/\J xs W')\/(∃pre,True/\Jx pre W')):=by
 have hb3:W.cell? ⟨bb,2,none⟩=some (.slice gbase len cap):=by simp[World.cell?,hb0]
 refine callsIn_of_wp Tryz.func138 rfl trivial ?_ rfl;simp only[Tryz.ntmps138,eT,cY,dm,Nat.reduceAdd,Nat.reduceSub,Array.replicate_succ,Array.replicate_zero,List.push_toArray,gx,fD,fe]
 gi_wp2
 gi_loopw [9] (fun i wr=>∃k:Nat,k<=len/\i=.int .i64 k/\J (Ly sel k) wr/\Nd wr)
  (fun i _=>len-(intOf i).toNat)
 case atStart=>exact⟨0,dG _,rfl,h0,hN⟩
 case round =>
  obtain⟨k,hk,rfl,hJs,hNw⟩:=hrel
  by_cases hlt:k<len
  ·have hg:=hgb (by omega);subst hg;obtain⟨q0,q1,q2,q3,q4,q5,q6,q7⟩:=hNc _ hNw k hlt;obtain⟨mv,hmv⟩:=hNm _ hNw;have hta:∀o,(wr.alloc o).cell? ⟨tb,0,none⟩=some mv:=fun o=>(hmv _ (World.grownBy_alloc _ o none)).1;have hlk:∀o,(Instr.lookup 145 mv (.int .i64 (c0 k)) false).run Tryz.prog (wr.alloc o)=.ok (.bool (sel k)) (wr.alloc o):=fun o=>(hmv _ (World.grownBy_alloc _ o none)).2 k hlt;have hNa:∀o,Nd (wr.alloc o):=fun o=>hNs _ _ hNw (World.grownBy_alloc _ o none);have hJa:∀o,J (Ly sel k) (wr.alloc o):=fun o=>hJ _ _ _ hJs (World.grownBy_alloc _ o none);clear hmv hNm hNc
   cases hsel:sel k with
   |false =>
    rw[hsel] at hlk
    iterate 52 (first|go_values|gi_guarded|gi_step|gi_upon)
    refine⟨fun f hf=>by simp[undef,go_sem] at hf,?_⟩
    gi_wp2
    go_roundw
    case rel=>exact⟨k+1,by omega,by simp,by rw[AO,hsel]; exact hJa _,hNa _⟩
    case measure=>simp[intOf]; omega
   |true =>
    rw[hsel] at hlk
    gi_wp2
    obtain⟨fn,tmps,assign,body,hy,hR⟩:=hY (Ly sel k) k (wr.alloc (.cells #[.int .i64 (c0 k),.int .i64 (c1 k),.int .i64 (c2 k),.int .i64 (c3 k),.int .i64 (c4 k),.int .i64 (c5 k),.int .i64 (c6 k),.int .i64 (c7 k)] 48)) (hJa _) (ah6 hlt hsel);rw[hy];refine⟨fun h=>(by cases h),hR.mono ?_⟩;rintro e W3 (⟨rfl,hJ3,hk3⟩|⟨rfl,hJx3⟩)
    ·gi_wp2
     go_roundw
     case rel=>exact⟨k+1,by omega,by simp,by rw[AO,hsel]; exact hJ3,hk3 (hNa _)⟩
     case measure=>simp[intOf]; omega
    ·gi_wp2
     refine bodyPost_ret (results_none rfl _ _ _) rfl ?_;exact⟨⟨_,rfl⟩,.inr ⟨_,trivial,hJx3⟩⟩
  ·obtain rfl:len=k:=by omega
   gi_wp2
   go_end0
   exact⟨⟨_,rfl⟩,.inl ⟨_,rfl,hJs⟩⟩
end Go.Proofs
end

noncomputable section
namespace Go.Proofs
open Go.RowKit
attribute [local go_sem] Oper.semAt_some
noncomputable def upE (f:Nat->Int) (k:Nat):AS Int:=(List.range k).map f
def pf (f:Nat->Int) (k:Nat):upE f (k+1)=upE f k++[f k]:=by simp[upE,List.range_succ]
def wS (f:Nat->Int) (k:Nat):(upE f k).length=k:=by simp[upE]
def G0 (f:Nat->Int) {j k:Nat} (h:j<=k):upE f j <+: upE f k:=by
 have:k=j+(k-j):=by omega
 rw[this,upE,upE,List.range_add,gD];exact eo _ _
set_option maxRecDepth 100000 in
set_option maxHeartbeats 1000000 in
noncomputable def afP (te:TypeId) (n:Nat) (hn:1<=n) (l n₀ bb tb sb:Nat) (flo fhi ga mv:Value) (hbb:bb<n₀) (htb:tb<n₀) (hsb:sb<n₀)
 (ub uo ul uc kb ko kl kc:Nat) (ubase kbase lbase cbase:AN Addr) (ll lc cl cc:Nat) (hub:0<ul->ubase=some ⟨ub,uo,none⟩/\ub<n₀) (hkb:0<kl->kbase=some ⟨kb,ko,none⟩/\kb<n₀)
 (U K:Nat->Int×Int) (eU eL eC eK:Nat->Int)
 (hul:ul<=1000) (hll:ll<=1000) (hcl:cl<=1000) (hkl:kl<=1000)
 (W:World) (hb0:W.heap[bb]?=some (.cells #[flo,fhi,ga,.slice ubase ul uc,.slice lbase ll lc,.slice cbase cl cc,.slice kbase kl kc] te (0,0)))
 (ht:W.cell? ⟨tb,0,none⟩=some (.func (.func 146) #[] #[.pointer (some ⟨sb,0,none⟩)])) (hs:W.cell? ⟨sb,0,none⟩=some mv)
 (hU:∀j,j<ul->W.cell? ⟨ub,uo+j*2,none⟩=some (.int .i64 (U j).1)/\W.cell? ⟨ub,uo+j*2+1,none⟩=some (.int .i64 (U j).2))
 (hK:∀j,j<kl->W.cell? ⟨kb,ko+j*2,none⟩=some (.int .i64 (K j).1)/\W.cell? ⟨kb,ko+j*2+1,none⟩=some (.int .i64 (K j).2))
 (cU:∀j,j<ul->∀W',Below n₀ W W'->CallsIn Fence.wide (n-1) Tryz.prog 146 #[.int .i64 (U j).1,.int .i64 (U j).2,.pointer (some ⟨sb,0,none⟩)] W' fun e W''=>e=.returned (.int .i64 (eU j))/\W'.grownBy W'' none)
 (cK:∀j,j<kl->∀W',Below n₀ W W'->CallsIn Fence.wide (n-1) Tryz.prog 146 #[.int .i64 (K j).1,.int .i64 (K j).2,.pointer (some ⟨sb,0,none⟩)] W' fun e W''=>e=.returned (.int .i64 (eK j))/\W'.grownBy W'' none)
 (cL:∀j,j<ll->∀W',Below n₀ W W'->CallsIn Fence.wide (n-1) Tryz.prog 150 #[.agg #[flo,fhi,ga,.slice ubase ul uc,.slice lbase ll lc,.slice cbase cl cc,.slice kbase kl kc],mv,.int .i64 j] W' fun e W''=>e=.returned (.int .i64 (eL j))/\W'.grownBy W'' none)
 (cC:∀j,j<cl->∀W',Below n₀ W W'->CallsIn Fence.wide (n-1) Tryz.prog 151 #[.agg #[flo,fhi,ga,.slice ubase ul uc,.slice lbase ll lc,.slice cbase cl cc,.slice kbase kl kc],mv,.int .i64 j] W' fun e W''=>e=.returned (.int .i64 (eC j))/\W'.grownBy W'' none)
 (J Jx:AS Int->World->Prop) (hJ:∀pre W W',J pre W->W.grownBy W' none->J pre W') (hJx:∀pre W W',Jx pre W->W.grownBy W' none->Jx pre W')
 (hY:∀pre x W,J pre W->pre.length<ul+(ll+(cl+kl))->YieldAt Fence.wide (n-1) Tryz.prog l #[.int .i64 x] W fun e W' =>
  (e=.returned (.bool true)/\J (pre++[x]) W'/\Below n₀ W W')\/(e=.returned (.bool false)/\Jx (pre++[x]) W'))
 (h0 : J [] W) (hn₀ : n₀ <= W.heap.size) :
  CallsIn Fence.wide n Tryz.prog 149 #[.func (.yield l) #[] #[],.pointer (some ⟨bb,0,none⟩),.pointer (some ⟨tb,0,none⟩),.pointer (some ⟨sb,0,none⟩)] W fun e W'=>(∃v,e=.returned v) /\
   ((∃xs,xs=upE eU ul++(upE eL ll++(upE eC cl++upE eK kl))/\J xs W')\/(∃pre,(pre <+: upE eU ul++(upE eL ll++(upE eC cl++upE eK kl)))/\Jx pre W')):=by
 have grown_alloc:∀(X:World) (o:Obj),X.grownBy (X.alloc o) none:=fun X o=>World.grownBy_alloc X o none
 have bel:∀{X Y:World},Below n₀ W X->X.grownBy Y none->Below n₀ W Y:=fun {X Y} h g =>
  ⟨g.os.trans h.os,g.tape.trans h.tape,g.output.trans h.output,dc h.size g.size,fun k hk=>(g.block k (df (df hk hn₀) h.size) (by simp)).trans (h.block k hk)⟩
 have hc:∀{X:World},Below n₀ W X->X.heap[bb]?=some (.cells #[flo,fhi,ga,.slice ubase ul uc,.slice lbase ll lc,.slice cbase cl cc,.slice kbase kl kc] te (0,0)):=fun h=>(h.block bb hbb).trans hb0;refine callsIn_of_wp Tryz.func149 rfl trivial ?_ rfl;simp only[Tryz.ntmps149,eT,cY,dm,Nat.reduceAdd,Nat.reduceSub,Array.replicate_succ,Array.replicate_zero,List.push_toArray,gx,fD,fe]
 have hb3:W.cell? ⟨bb,3,none⟩=some (.slice ubase ul uc):=by simp[World.cell?,hb0]
 gi_wp2
 gi_loopw [14] (fun i wr=>∃k:Nat,k<=ul/\i=.int .i64 k/\J (upE eU k) wr/\Below n₀ W wr)
  (fun i _=>ul-(intOf i).toNat)
 case atStart=>exact⟨0,dG _,rfl,h0,Below.refl _ _⟩
 case round =>
  obtain⟨k,hk,rfl,hJs,hnx⟩:=hrel
  by_cases hlt:k<ul
  ·obtain⟨rfl,hlu⟩:=hub (by omega);have hu1:=(hnx.cell (p:=⟨ub,uo+k*2,none⟩) hlu).trans (hU k hlt).1;have hu2:=(hnx.cell (p:=⟨ub,uo+k*2+1,none⟩) hlu).trans (hU k hlt).2;have ht':=(hnx.cell (p:=⟨tb,0,none⟩) htb).trans ht;have hta:∀o,(wr.alloc o).cell? ⟨tb,0,none⟩=some (.func (.func 146) #[] #[.pointer (some ⟨sb,0,none⟩)]):=fun o=>Lib.cell?_alloc_some _ ht'
   gi_wp2
   refine⟨trivial,(cU k hlt _ (bel hnx (grown_alloc _ _))).mono ?_⟩;rintro e W2 ⟨rfl,hg2⟩;obtain⟨fn,tmps,assign,body,hy,hR⟩:=hY _ (eU k) W2 (hJ _ _ _ (hJ _ _ _ hJs (grown_alloc _ _)) hg2) (by rw[wS]; omega);have hb2:=bel (bel hnx (grown_alloc _ _)) hg2
   gi_wp2
   refine hR.mono ?_;rintro e W3 (⟨rfl,hJ3,hk3⟩|⟨rfl,hJx3⟩)
   ·gi_wp2
    go_roundw
    case rel=>exact⟨k+1,by omega,by simp,by rw[pf]; exact hJ3,hb2.trans hk3⟩
    case measure=>simp[intOf]; omega
   ·gi_wp2
    refine bodyPost_ret (results_none rfl _ _ _) rfl ?_;refine⟨⟨_,rfl⟩,.inr ⟨_,?_,hJx3⟩⟩;rw[<-pf];exact(G0 eU (by omega)).trans (eo _ _)
  ·obtain rfl:ul=k:=by omega
   have hb4:wr.cell? ⟨bb,4,none⟩=some (.slice lbase ll lc):=by simp[World.cell?,hc hnx]
   gi_wp2
   gi_loopw [31] (fun i wr=>∃k:Nat,k<=ll/\i=.int .i64 k/\J (upE eU ul++upE eL k) wr/\Below n₀ W wr)
    (fun i _=>ll-(intOf i).toNat)
   case atStart=>exact⟨0,dG _,rfl,by simpa[upE] using hJs,hnx⟩
   case round =>
    clear hJs hnx;obtain⟨k,hk,rfl,hJs,hnx⟩:=hrel
    by_cases hlt:k<ll
    ·have q0:wr.cell? ⟨bb,0,none⟩=some flo:=by simp[World.cell?,hc hnx]
     have q1:wr.cell? ⟨bb,1,none⟩=some fhi:=by simp[World.cell?,hc hnx]
     have q2:wr.cell? ⟨bb,2,none⟩=some ga:=by simp[World.cell?,hc hnx]
     have q3:wr.cell? ⟨bb,3,none⟩=some (.slice ubase ul uc):=by simp[World.cell?,hc hnx]
     have q4:wr.cell? ⟨bb,4,none⟩=some (.slice lbase ll lc):=by simp[World.cell?,hc hnx]
     have q5:wr.cell? ⟨bb,5,none⟩=some (.slice cbase cl cc):=by simp[World.cell?,hc hnx]
     have q6:wr.cell? ⟨bb,6,none⟩=some (.slice kbase kl kc):=by simp[World.cell?,hc hnx]
     have hs':=(hnx.cell (p:=⟨sb,0,none⟩) hsb).trans hs
     gi_wp2
     refine⟨trivial,(cL k hlt _ hnx).mono ?_⟩;rintro e W2 ⟨rfl,hg2⟩;obtain⟨fn,tmps,assign,body,hy,hR⟩:=hY _ (eL k) W2 (hJ _ _ _ hJs hg2) (by simp only[cN,wS]; omega);have hb2:=bel hnx hg2
     gi_wp2
     refine hR.mono ?_;rintro e W3 (⟨rfl,hJ3,hk3⟩|⟨rfl,hJx3⟩)
     ·gi_wp2
      go_roundw
      case rel=>exact⟨k+1,by omega,by simp,by rw[pf,<-dj]; exact hJ3,hb2.trans hk3⟩
      case measure=>simp[intOf]; omega
     ·gi_wp2
      refine bodyPost_ret (results_none rfl _ _ _) rfl ?_;refine⟨⟨_,rfl⟩,.inr ⟨_,?_,hJx3⟩⟩;rw[dj,<-pf];exact(eO _).2 ((G0 eL (by omega)).trans (eo _ _))
    ·obtain rfl:ll=k:=by omega
     have hb5:wr.cell? ⟨bb,5,none⟩=some (.slice cbase cl cc):=by simp[World.cell?,hc hnx]
     gi_wp2
     gi_loopw [45] (fun i wr=>∃k:Nat,k<=cl/\i=.int .i64 k/\J (upE eU ul++upE eL ll++upE eC k) wr/\Below n₀ W wr)
      (fun i _=>cl-(intOf i).toNat)
     case atStart=>exact⟨0,dG _,rfl,by simpa[upE] using hJs,hnx⟩
     case round =>
      clear hJs hnx;obtain⟨k,hk,rfl,hJs,hnx⟩:=hrel
      by_cases hlt:k<cl
      ·have q0:wr.cell? ⟨bb,0,none⟩=some flo:=by simp[World.cell?,hc hnx]
       have q1:wr.cell? ⟨bb,1,none⟩=some fhi:=by simp[World.cell?,hc hnx]
       have q2:wr.cell? ⟨bb,2,none⟩=some ga:=by simp[World.cell?,hc hnx]
       have q3:wr.cell? ⟨bb,3,none⟩=some (.slice ubase ul uc):=by simp[World.cell?,hc hnx]
       have q4:wr.cell? ⟨bb,4,none⟩=some (.slice lbase ll lc):=by simp[World.cell?,hc hnx]
       have q5:wr.cell? ⟨bb,5,none⟩=some (.slice cbase cl cc):=by simp[World.cell?,hc hnx]
       have q6:wr.cell? ⟨bb,6,none⟩=some (.slice kbase kl kc):=by simp[World.cell?,hc hnx]
       have hs':=(hnx.cell (p:=⟨sb,0,none⟩) hsb).trans hs
       gi_wp2
       refine⟨trivial,(cC k hlt _ hnx).mono ?_⟩;rintro e W2 ⟨rfl,hg2⟩;obtain⟨fn,tmps,assign,body,hy,hR⟩:=hY _ (eC k) W2 (hJ _ _ _ hJs hg2) (by simp only[cN,wS]; omega);have hb2:=bel hnx hg2
       gi_wp2
       refine hR.mono ?_;rintro e W3 (⟨rfl,hJ3,hk3⟩|⟨rfl,hJx3⟩)
       ·gi_wp2
        go_roundw
        case rel=>exact⟨k+1,by omega,by simp,by rw[pf,<-dj]; exact hJ3,hb2.trans hk3⟩
        case measure=>simp[intOf]; omega
       ·gi_wp2
        refine bodyPost_ret (results_none rfl _ _ _) rfl ?_;refine⟨⟨_,rfl⟩,.inr ⟨_,?_,hJx3⟩⟩;rw[dj,<-pf]
        exact by rw[dj]; exact(eO _).2 ((eO _).2 ((G0 eC (by omega)).trans (eo _ _)))
      ·obtain rfl:cl=k:=by omega
       have hb6:wr.cell? ⟨bb,6,none⟩=some (.slice kbase kl kc):=by simp[World.cell?,hc hnx]
       gi_wp2
       gi_loopw [59] (fun i wr=>∃k:Nat,k<=kl/\i=.int .i64 k/\J ((upE eU ul++upE eL ll++upE eC cl)++upE eK k) wr/\Below n₀ W wr)
        (fun i _=>kl-(intOf i).toNat)
       case atStart=>exact⟨0,dG _,rfl,by simpa[upE] using hJs,hnx⟩
       case round =>
        clear hJs hnx;obtain⟨k,hk,rfl,hJs,hnx⟩:=hrel
        by_cases hlt:k<kl
        ·obtain⟨rfl,hlk⟩:=hkb (by omega);have hu1:=(hnx.cell (p:=⟨kb,ko+k*2,none⟩) hlk).trans (hK k hlt).1;have hu2:=(hnx.cell (p:=⟨kb,ko+k*2+1,none⟩) hlk).trans (hK k hlt).2;have ht':=(hnx.cell (p:=⟨tb,0,none⟩) htb).trans ht;have hta:∀o,(wr.alloc o).cell? ⟨tb,0,none⟩=some (.func (.func 146) #[] #[.pointer (some ⟨sb,0,none⟩)]):=fun o=>Lib.cell?_alloc_some _ ht'
         gi_wp2
         refine⟨trivial,(cK k hlt _ (bel hnx (grown_alloc _ _))).mono ?_⟩;rintro e W2 ⟨rfl,hg2⟩;obtain⟨fn,tmps,assign,body,hy,hR⟩:=hY _ (eK k) W2 (hJ _ _ _ (hJ _ _ _ hJs (grown_alloc _ _)) hg2) (by simp only[cN,wS]; omega);have hb2:=bel (bel hnx (grown_alloc _ _)) hg2
         gi_wp2
         refine hR.mono ?_;rintro e W3 (⟨rfl,hJ3,hk3⟩|⟨rfl,hJx3⟩)
         ·gi_wp2
          go_roundw
          case rel=>exact⟨k+1,by omega,by simp,by rw[pf,<-dj]; exact hJ3,hb2.trans hk3⟩
          case measure=>simp[intOf]; omega
         ·gi_wp2
          refine bodyPost_ret (results_none rfl _ _ _) rfl ?_;refine⟨⟨_,rfl⟩,.inr ⟨_,?_,hJx3⟩⟩;rw[dj,<-pf,dj,dj];exact(eO _).2 ((eO _).2 ((eO _).2 (G0 eK (by omega))))
        ·obtain rfl:kl=k:=by omega
         gi_wp2
         go_end0
         exact⟨⟨_,rfl⟩,.inl ⟨_,rfl,by simpa[dj] using hJs⟩⟩
end Go.Proofs
end

noncomputable section
set_option maxRecDepth 100000
namespace Go.Proofs.ZzM
open Go Go.Am Go.RowKit
variable [LC] [NwE]
def XR (p:String):Code:=.region 10 #[{dst:=some 5,op:=.assign (.tmp 49),type:=34,pos:=p,after:=#[],guard:=none}] false
def ahw (q r:String):Code:=.block 1 (.seq (.region 11 #[{dst:=some 50,op:=.move (.tmp 5),type:=34,pos:=q,after:=#[],guard:=none},{dst:=some 51,op:=.binOp .neq 34 (.tmp 50) (.const (.int .i64 0)) 34,type:=4,pos:=q,after:=#[{on:=0,ground:=.data}],guard:=none}] false)
 (.cond (.tmp 51) (.seq (.region 12 #[{dst:=some 52,op:=.move (.tmp 5),type:=34,pos:=r,after:=#[],guard:=none},{dst:=none,op:=.store 34 (.tmp 2) (.tmp 52),type:=0,pos:=r,after:=#[{on:=0,ground:=.data},{on:=0,ground:=.phase}],guard:=none}] false) .ret) .skip))
section
variable {P:Program} {F:Fence} {n:Nat}
def Bc {b:Array Oper} {i d:Nat} {o:Oper} {u:Value} {w w':World} {a:Act} {next:Act->World->Prop} {Q:Exit->Act->World->Prop} (q:∀f,F.fn f) (l:b[i]?=some o) (p:o.guard=none) (hd:o.dst=some d) (g:∀c,o.op≠.defer c)
 (e:(execOp a.eval o).run P w=.ok (.value u) w') (k:next (a.put (some d) u) w'):wpOpIn F n P b Q i next a w:=by
 unfold wpOpIn;rw[l]
 have j:Region.wanted o (yielded b a.tmps)=true:=by simp[Region.wanted,p]
 simp only[j,if_true];refine⟨fun _ _=>q _,?_⟩;rw[Oper.semAt_eq _ _ _ g,e];rw[<-hd] at k;exact k
def Z3 {b:Array Oper} {i:Nat} {o:Oper} {w w':World} {a:Act} {next:Act->World->Prop} {Q:Exit->Act->World->Prop} (p:∀f,F.fn f) (j:b[i]?=some o) (l:o.guard=none) (hd:o.dst=none) (e:∀c,o.op≠.defer c)
 (d:(execOp a.eval o).run P w=.ok .skip w') (k:next a w'):wpOpIn F n P b Q i next a w:=by
 unfold wpOpIn;rw[j]
 have g:Region.wanted o (yielded b a.tmps)=true:=by simp[Region.wanted,l]
 simp only[g,if_true];refine⟨fun _ _=>p _,?_⟩;rw[Oper.semAt_eq _ _ _ e,d];show next (a.put o.dst undef) w';rw[hd];exact k
end
def ja (T:Array Value) (i j:Nat) (v:Value):(T.setIfInBounds i v).getD j undef=if i=j/\i<T.size then v else T.getD j undef:=by
 simp only[dR,eN]
 by_cases h:i=j
 ·subst h
  by_cases h2:i<T.size
  ·simp[h2]
  ·simp[h2]
 ·simp[h]
noncomputable def ahE (D:Nat):Deferred:={target:=.collected D,args:=#[]}
structure Put1 (n₀ rb:Nat) (x:Int) (w W:World):Prop where
 os:W.os=w.os
 tape:W.tape=w.tape
 output:W.output=w.output
 size:w.heap.size<=W.heap.size
 block:∀k,k<n₀->k≠rb->W.heap[k]?=w.heap[k]?
 cell:∃e,W.heap[rb]?=some (.cells #[.int .i64 x] e (0,0))
set_option maxHeartbeats 4000000 in
def ah9 {a:Act} {w:World} {Q:Exit->Act->World->Prop} {lb:Array Value} {L:AS Int} {rb:Nat} {e0:TypeId} {v0:Value} {p q r:String}
 (R:SeqStopsK Fence.wide 1 Tryz.prog 149 lb (fun x:Int=>#[.int .i64 x]) (Below w.heap.size) (fun xs=>xs=L) (fun i=>i <+: L) L.length w)
 (hg:a.tmps.getD 48 undef=.func (.func 149) #[] lb) (h2:a.tmps.getD 2 undef=.pointer (some ⟨rb,0,none⟩)) (hsz:78<=a.tmps.size)
 (V:w.heap[rb]?=some (.cells #[v0] e0 (0,0)))
 (A:∀D W,(∀x∈L,x=0)->Below w.heap.size w W->w.heap.size<=D->W.heap[D]?=some (.deferred (some []))->Q .normal {a with defers:=ahE D::a.defers} W)
 (z:∀D W x,L.find? (fun e=>e != 0)=some x->Put1 w.heap.size rb x w W->w.heap.size<=D->W.heap[D]?=some (.deferred (some []))->Q .ret {a with defers:=ahE D::a.defers} W) :
 (Code.rangeFunc (.tmp 48) #[49] (XR p) (ahw q r)).wpIn Fence.wide 2 Tryz.prog Q a w:=by
 have Y:∀f,Fence.wide.fn f:=fun _=>trivial;have U:=à V
 refine wpIn_rangeFunc_ownF (α:=Int) (encs:=fun x=>#[.int .i64 x]) (Kp:=Below w.heap.size) (S:=fun xs=>xs=L) (Sp:=fun i=>i <+: L) (N:=L.length) (w0:=w) rfl (by omega) hg trivial (fun args w=>?eg) R
  (fun h k=>h.trans k) (fun W l o o' hl ho hc hw=>belowK_b (cJ _) W l o o' hl ho hc hw) (Below.refl _ _) (fun _=>rfl)
  (fun i W=>(∀x∈i,x=0)/\Below w.heap.size w W)
  (fun c i W=>c=.ret/\∃j x,i=j++[x]/\(∀x∈j,x=0)/\x≠0/\Put1 w.heap.size rb x w W)
  ?hI ?hIx ⟨by simp,Below.refl _ _⟩ (fun x=>{tmps:=(a.tmps.setIfInBounds 49 (.int .i64 x)).setIfInBounds 5 (.int .i64 x),defers:=[]}) ?hassign ?hbody ?A ?z
 case eg=>simp[callFunc,Sem.run_bind,run_program,Result.andThen_ok,Tryz.func149,plain 149 _ Tryz.func149,show Tryz.f149.body.isNone=false from rfl]; rfl
 case hI =>
  intro s W W' row ⟨G,h2⟩ g hr;exact⟨G,g.os.trans h2.os,g.tape.trans h2.tape,g.output.trans h2.output,dc h2.size g.size,fun k B=>(g.block k (df B h2.size) (fun e=>by have:=(hr k e.symm).1; omega)).trans (h2.block k B)⟩
 case hIx =>
  intro c s W W' row ⟨G,j,x,h3,h4,h5,E⟩ g hr;have hb:∀k,k<w.heap.size->W'.heap[k]?=W.heap[k]?:=fun k B=>g.block k (df B E.size) (fun e=>by have:=(hr k e.symm).1; omega)
  exact⟨G,j,x,h3,h4,h5,g.os.trans E.os,g.tape.trans E.tape,g.output.trans E.output,dc E.size g.size,fun k B H=>(hb k B).trans (E.block k B H),by
   obtain⟨e,he⟩:=E.cell
   exact⟨e,(hb rb U).trans he⟩⟩
 case hassign =>
  intro l x W K hK
  have hf:((#[49]:Array Tmp).zip #[Value.int .i64 x]).foldl (fun t (p,v)=>t.setIfInBounds p v) a.tmps=a.tmps.setIfInBounds 49 (.int .i64 x):=by simp
  rw[hf];refine wpIn_region ?_;rw[show ∀o:Oper,List.range (#[o]:Array Oper).size=[0] from fun _=>rfl,wpOpsIn_cons];refine Bc (d:=5) (u:=.int .i64 x) (w':=W) Y rfl rfl rfl (by simp) ?_ hK;show Result.ok (Next.value ((a.tmps.setIfInBounds 49 (.int .i64 x)).getD 49 undef)) W=_;rw[ja,if_pos ⟨rfl,by omega⟩]
 case hbody =>
  intro l i x W ⟨G,hbel⟩ hpre;refine wpIn_block (wpIn_seq (wpIn_region ?_));rw[show ∀o p:Oper,List.range (#[o,p]:Array Oper).size=[0,1] from fun _ _=>rfl,wpOpsIn_cons]
  refine Bc (d:=50) (u:=.int .i64 x) (w':=W) Y rfl rfl rfl (by simp) (by
   show Result.ok (Next.value (((a.tmps.setIfInBounds 49 (.int .i64 x)).setIfInBounds 5 (.int .i64 x)).getD 5 undef)) W=_
   rw[ja,if_pos ⟨rfl,by simp; omega⟩]) ?_
  rw[wpOpsIn_cons]
  refine Bc (d:=51) (u:=.bool (x != 0)) (w':=W) Y rfl rfl rfl (by simp) (by
   show((do let u <-(do eqGuard .neq 34 (.tmp 50) (.const (.int .i64 0)) ((((a.tmps.setIfInBounds 49 (.int .i64 x)).setIfInBounds 5 (.int .i64 x)).setIfInBounds 50 (.int .i64 x)).getD 50 undef) (.int .i64 0); binOp .neq 34 ((((a.tmps.setIfInBounds 49 (.int .i64 x)).setIfInBounds 5 (.int .i64 x)).setIfInBounds 50 (.int .i64 x)).getD 50 undef) (.int .i64 0)); pure (.value u)):Sem Next).run Tryz.prog W=_;rw[ja,if_pos ⟨rfl,by simp; omega⟩]
   simp[eqGuard,binOp,Op.intCmp]) ?_
  show Code.wpIn (Fence.wide.inRound l) (2-1-1) Tryz.prog (Code.cond (.tmp 51) _ .skip) _ {tmps:=((((a.tmps.setIfInBounds 49 (.int .i64 x)).setIfInBounds 5 (.int .i64 x)).setIfInBounds 50 (.int .i64 x)).setIfInBounds 51 (.bool (x != 0))),defers:=[]} W;obtain⟨T,C⟩:∃T,T=((((a.tmps.setIfInBounds 49 (.int .i64 x)).setIfInBounds 5 (.int .i64 x)).setIfInBounds 50 (.int .i64 x)).setIfInBounds 51 (.bool (x != 0))):=⟨_,rfl⟩;rw[<-C]
  have M:T.getD 51 undef=.bool (x != 0):=by rw[C,ja,if_pos ⟨rfl,by simp; omega⟩]
  have t5:T.getD 5 undef=.int .i64 x:=by rw[C,ja,if_neg (by simp),ja,if_neg (by simp),ja,if_pos ⟨rfl,by simp; omega⟩]
  have t2:T.getD 2 undef=.pointer (some ⟨rb,0,none⟩):=by rw[C,ja,if_neg (by simp),ja,if_neg (by simp),ja,if_neg (by simp),ja,if_neg (by simp),h2]
  have tsz:78<=T.size:=by rw[C]; simpa using hsz
  clear C
  by_cases Z:x=0
  ·have J:Act.eval {tmps:=T,defers:=[]} (.tmp 51)=.bool false:=M.trans (by simp[Z]);refine wpIn_cond_false J (wpIn_skip ?_);simp only[Exit.inBlock,ownPostK];exact⟨KeepsOthers.refl _,Below.refl _ _,fun y hy=>(cR.1 hy).elim (G y) (fun h=>by rw[cX] at h; rw[h,Z]),hbel⟩
  ·have J:Act.eval {tmps:=T,defers:=[]} (.tmp 51)=.bool true:=M.trans (by simp[Z]);refine wpIn_cond_true J (wpIn_seq (wpIn_region ?_));rw[show ∀o p:Oper,List.range (#[o,p]:Array Oper).size=[0,1] from fun _ _=>rfl,wpOpsIn_cons]
   have e5:(execOp (Act.eval {tmps:=T,defers:=[]}) {dst:=some 52,op:=.move (.tmp 5),type:=34,pos:=r,after:=#[],guard:=none}).run Tryz.prog W=.ok (.value (.int .i64 x)) W:=by
    show Result.ok (Next.value (T.getD 5 undef)) W=_;rw[t5]
   refine Bc (d:=52) (u:=.int .i64 x) (w':=W) Y rfl rfl rfl (by simp) e5 ?_;rw[wpOpsIn_cons];have hW:W.heap[rb]?=some (.cells #[v0] e0 (0,0)):=(hbel.block rb U).trans V
   letI:Ð:=(Gk (fun _=>False) [] (none))
   have hst:=pj (P:=Tryz.prog) (w:=W) (t:=34) (u:=.int .i64 x) (n:=1) (b:=rb) (o:=0) (by kernel_rfl) rfl hW (by simp) (by simp[Value.cells,Value.oneCell'])
   have O:(storeVar 34 ⟨rb,0,none⟩ (.int .i64 x)).run Tryz.prog W=.ok () (W.setRow rb #[.int .i64 x]):=by simpa[Value.cells] using hst
   have t52:(T.setIfInBounds 52 (.int .i64 x)).getD 52 undef=.int .i64 x:=by rw[ja,if_pos ⟨rfl,by omega⟩]
   have t2':(T.setIfInBounds 52 (.int .i64 x)).getD 2 undef=.pointer (some ⟨rb,0,none⟩):=by rw[ja,if_neg (by simp),t2]
   have e6:(execOp (Act.eval {tmps:=T.setIfInBounds 52 (.int .i64 x),defers:=[]}) {dst:=none,op:=.store 34 (.tmp 2) (.tmp 52),type:=0,pos:=r,after:=#[{on:=0,ground:=.data},{on:=0,ground:=.phase}],guard:=none}).run Tryz.prog W=.ok .skip (W.setRow rb #[.int .i64 x]):=by
    show((do Instr.storeAt 34 ((T.setIfInBounds 52 (.int .i64 x)).getD 2 undef) ((T.setIfInBounds 52 (.int .i64 x)).getD 52 undef); pure .skip):Sem Next).run Tryz.prog W=_;rw[t52,t2'];simp[Instr.storeAt,Instr.sureAddr,O]
   refine Z3 (w':=W.setRow rb #[.int .i64 x]) Y rfl rfl rfl (by simp) e6 ?_;refine wpIn_ret ?_;simp only[Exit.inBlock,ownPostK];refine⟨⟨by simp,fun k o B ho=>?_⟩,trivial,i,x,rfl,G,Z,hbel.os,hbel.tape,hbel.output,by simpa using hbel.size,fun k B H=>(setRow_other _ _ _ _ H).trans (hbel.block k B),⟨_,setRow_heap _ _ _ _ _ _ hW⟩⟩
   by_cases X:k=rb
   ·subst X; rw[hW] at B; cases B; simp[Obj.isCells] at ho
   ·rw[setRow_other _ _ _ _ X]; exact B
 case A =>
  intro D xs W hD hS ⟨G,hbel⟩ I;subst hS;exact A D W G hbel hD I
 case z =>
  intro D c i W hD hS ⟨hc,j,x,h3,h4,h5,E⟩ I;subst hc;refine wpIn_ret (z D W x ?_ E hD I);obtain⟨t,rfl⟩:=hS;rw[h3,dj,List.find?_append]
  have:List.find? (fun e=>e != 0) j=none:=eF.2 fun y hy=>by simp[h4 y hy]
  rw[this];simp[h5]
end Go.Proofs.ZzM
end

noncomputable section
set_option maxRecDepth 100000
namespace Go.Proofs.ZzM
open Go Go.Am Go.RowKit
variable [LC] [NwE]
noncomputable def fstC:Code->Code
 |.seq a _=>a
 |c=>c
noncomputable def sndC:Code->Code
 |.seq _ b=>b
 |c=>c
noncomputable def acw:Nat->Code->Code
 |0,c=>fstC c
 |n+1,c=>acw n (sndC c)
noncomputable def agy:Nat->Code->Code
 |0,c=>c
 |n+1,c=>agy n (sndC c)
noncomputable def ckB:Code:=Tryz.f56.body.getD .skip
noncomputable def ckA5:Code:=fstC (agy 5 ckB |> fstC)
noncomputable def ckRF:Code:=sndC (agy 5 ckB |> fstC)
noncomputable def OK:Code:=sndC (agy 5 ckB)
noncomputable def ckPre:Code:=.seq (acw 0 ckB) (.seq (acw 1 ckB) (.seq (acw 2 ckB) (.seq (acw 3 ckB) (.seq (acw 4 ckB) ckA5))))
def ahR:Tryz.f56.body=some (.seq (acw 0 ckB) (.seq (acw 1 ckB) (.seq (acw 2 ckB) (.seq (acw 3 ckB) (.seq (acw 4 ckB) (.seq (.seq ckA5 ckRF) OK)))))):=by kernel_rfl
noncomputable def ck_pt:AS (Nat×ï):=[(106,Ba),(104,zN),(102,qR),(103,vk)]
noncomputable def ckE (ρ:Type):Env ρ:=Ò ck_pt []
abbrev ckR:Type:=Int ⊕ (AS AV×AS Blk)
noncomputable def aeb (S:St):AN Int:=match kf Tryz.prog Tryz.f56 S with
 |some v=>ahx [tI] S.h v
 |none=>none
noncomputable def ckK (e:Exit) (S:St):AN ckR:=match e with
 |.ret=>match aeb S with
  |some n=>some (.inl n)
  |none=>none
 |.normal=>match decide (78<=S.t.length) with
  |true=>some (.inr ([lk S.t 1,lk S.t 2,lk S.t 48],S.h))
  |false=>none
 |_=>none
noncomputable def ckH (x:a8) (s:js) (n:Int):AS Blk :=
 [.cells (flat Å x),.cells [.int .i64 n],.cells (flat Å x),.cells [.mp tI È s],.cells [.fn (.func 146) [] [.box 3 0]]]
noncomputable def ckM (x:a8):AN ckR :=
 Ä (Ū x.1 (0:Int) (1000000:Int)) fun r1=>ifb (!r1) (some (.inl 1)) (ifb (igt (Ö x.2.1) (12:Int)) (some (.inl 2)) (ifb (igt (Ö x.2.2.1) (40:Int)) (some (.inl 2)) (ifb (igt (Ö x.2.2.2.1) (12:Int)) (some (.inl 2)) (ifb (igt (Ö x.2.2.2.2.1) (40:Int)) (some (.inl 2)) (ifb (igt (Ö x.2.2.2.2.2) (10:Int)) (some (.inl 2))
  (Ä (ŝ x) fun r2=>ifb (ine r2 (0:Int)) (some (.inl r2)) (Ä (Ÿ x) fun a=>some (.inr ([.box 0 0,.box 1 0,.fn (.func 149) [] [.box 2 0,.box 4 0,.box 3 0]],ckH x a 0)))))))))
def ck_pre (x:a8):goC (ckE ckR) (jm (ckE ckR) 10) 56 [] 0 0 ckPre {t:=UL [Å] x++List.replicate 77 .any,h:=[]} ckK=ckM x:=by kernel_rfl
noncomputable def agO (ρ:Type):Env ρ:={ckE ρ with inl:=fun _=>false}
noncomputable def ckS (x:a8):AN Int :=
 Ä (oX x) fun c=>ifb (igt (Ö c) (59:Int)) (some (2:Int)) (ck ((2:Int)*(Ö x.2.1)) fun g=>ck ((Ö c)-(Ö x.2.1)) fun f=>ck ((2:Int)*f) fun e=>ck (g+e) fun d=>ck ((2:Int)*(Ö x.2.2.2.2.1)) fun b=>ck (d+b) fun a=>ifb (igt a (300:Int)) (some (2:Int)) (some (0:Int)))
noncomputable def ckK2 (e:Exit) (S:St):AN Int:=match e with
 |.ret=>match lk S.t 2 with
  |.box 1 0=>match lkB S.h 1 with
   |.cells [.int .i64 n]=>some n
   |_=>none
  |_=>none
 |_=>none
def ck_suf (x:a8) (s:js):goC (agO Int) (jm (agO Int) 10) 56 [] 0 0 OK {t:=[.any,.box 0 0,.box 1 0]++List.replicate 75 .any,h:=ckH x s 0} ckK2=ckS x:=by kernel_rfl
def agN (x:a8):ô x=match ckM x with
 |none=>none
 |some (.inl n)=>some n
 |some (.inr _)=>Ä (Ÿ x) fun s=>RT (mz x s) some (ckS x):=by
 unfold ô J1 ckM ckS
 cases Ū x.1 (0:Int) (1000000:Int) with
 |none=>rfl
 |some r1 =>
 cases r1 with
 |false=>rfl
 |true =>
 simp only[Ä,ifb,dM]
 cases igt (Ö x.2.1) (12:Int) with
 |true=>rfl
 |false =>
 cases igt (Ö x.2.2.1) (40:Int) with
 |true=>rfl
 |false =>
 cases igt (Ö x.2.2.2.1) (12:Int) with
 |true=>rfl
 |false =>
 cases igt (Ö x.2.2.2.2.1) (40:Int) with
 |true=>rfl
 |false =>
 cases igt (Ö x.2.2.2.2.2) (10:Int) with
 |true=>rfl
 |false =>
 cases ŝ x with
 |none=>rfl
 |some r2 =>
 simp only
 cases ine r2 (0:Int) with
 |true=>rfl
 |false =>
 cases Ÿ x with
 |none=>rfl
 |some a=>rfl
def aiW {x:a8} {q:AS AV×AS Blk} (h:ckM x=some (.inr q)):((x.2.2.1:AS an).length<=1000/\(x.2.2.2.1:AS rm).length<=1000/\(x.2.2.2.2.1:AS ew).length<=1000/\(x.2.2.2.2.2:AS an).length<=1000) /\
 ∃s,Ÿ x=some s/\q=([.box 0 0,.box 1 0,.fn (.func 149) [] [.box 2 0,.box 4 0,.box 3 0]],ckH x s 0):=by
 unfold ckM at h
 cases h0:Ū x.1 (0:Int) (1000000:Int) with
 |none=>rw[h0] at h; cases h
 |some r1 =>
 rw[h0] at h
 cases r1 with
 |false=>cases h
 |true =>
 simp only[Ä,ifb,dM] at h
 cases g:igt (Ö x.2.1) (12:Int) with
 |true=>rw[g] at h; cases h
 |false =>
 rw[g] at h
 cases h2:igt (Ö x.2.2.1) (40:Int) with
 |true=>rw[h2] at h; cases h
 |false =>
 rw[h2] at h
 cases c:igt (Ö x.2.2.2.1) (12:Int) with
 |true=>rw[c] at h; cases h
 |false =>
 rw[c] at h
 cases b:igt (Ö x.2.2.2.2.1) (40:Int) with
 |true=>rw[b] at h; cases h
 |false =>
 rw[b] at h
 cases a:igt (Ö x.2.2.2.2.2) (10:Int) with
 |true=>rw[a] at h; cases h
 |false =>
 rw[a] at h
 cases f:ŝ x with
 |none=>rw[f] at h; cases h
 |some r2 =>
 rw[f] at h;simp only at h
 cases e:ine r2 (0:Int) with
 |true=>rw[e] at h; cases h
 |false =>
 rw[e] at h
 cases d:Ÿ x with
 |none=>rw[d] at h; cases h
 |some i =>
 rw[d] at h
 have lt:∀{α:Type} (l:AS α) (n:Nat),igt (Ö l) (n:Int)=false->l.length<=n:=by
  intro α l n h;unfold Ö at h;rw[zQ] at h;simp only[igt,gt_iff_lt,decide_eq_false_iff_not] at h;omega
 simp only[Option.some.injEq,Sum.inr.injEq] at h;exact⟨⟨by have:=lt x.2.2.1 40 h2; omega,by have:=lt x.2.2.2.1 12 c; omega,by have:=lt x.2.2.2.2.1 40 b; omega,by have:=lt x.2.2.2.2.2 10 a; omega⟩,i,rfl,h.symm⟩
def Bm {α β:Type} {f:α->AN β}:∀{l:AS α} {m:AS β},Im f l=some m->m.length=l.length/\∀(i:Nat) (a:α),l[i]?=some a->∃b,m[i]?=some b/\f a=some b
 |[],m,h=>by cases h; exact⟨rfl,fun i a ha=>by simp at ha⟩
 |a::l,m,h=>by
  unfold Im at h
  cases ha:f a with
  |none=>rw[ha] at h; cases h
  |some b =>
   rw[ha] at h
   cases d:Im f l with
   |none=>rw[d] at h; cases h
   |some j =>
    rw[d] at h;cases h;obtain⟨g,h2⟩:=Bm d;refine⟨by simp[g],fun i c e=>?_⟩
    cases i with
    |zero=>simp at e; subst e; exact⟨b,by simp,ha⟩
    |succ i=>simpa using h2 i c (by simpa using e)
def G3 (l:AS Int):upE (fun j=>l[j]?.getD 0) l.length=l:=by
 unfold upE;refine List.ext_getElem (by simp) fun i a h2=>?_;simp at a;simp[a]
def CR.below {a:Nat} {w W:World} {av:Nat->Prop} (hb:Below a w W) (d:w.heap.size<=a) {t:Ty} {x:Val t} {vs:AS Value} (h:CR w av t x vs):CR W av t x vs :=
 h.keep fun b c ha=>⟨hb.block b (df c d),ha⟩
def HJ {w:World} {av:Nat->Prop} {xs:AS (Int×Int)} {v:Value} (h:CR w av (.slice Â) xs [v]):∃base cap b off,v=.slice base xs.length cap/\(0<xs.length->base=some ⟨b,off,none⟩/\b<w.heap.size) /\
 ∀j,j<xs.length->w.cell? ⟨b,off+j*2,none⟩=some (.int .i64 (xs[j]?.getD (0,0)).1)/\w.cell? ⟨b,off+j*2+1,none⟩=some (.int .i64 (xs[j]?.getD (0,0)).2):=by
 obtain⟨base,cap,e,u,a⟩:=h;cases e;rcases a with a|⟨b,off,hb,g,d,a⟩
 ·refine⟨base,cap,0,0,rfl,fun h=>?_,fun j c=>?_⟩
  ·rw[show xs=[] from a] at h; simp at h
  ·rw[show xs=[] from a] at c; simp at c
 ·refine⟨base,cap,b,off,rfl,fun _=>⟨hb,d⟩,fun j c=>?_⟩;obtain⟨us,l,h2⟩:=a j xs[j] (cI c);obtain⟨u1,f,q,k,i⟩:=l;have p:u1=[.int .i64 xs[j].1]:=k;have o:f=[.int .i64 xs[j].2]:=i;subst p o q;have s:(Â).size=2:=rfl;rw[s] at h2;have t:=h2 0 _ rfl;have r:=h2 1 _ rfl;rw[cI c];exact⟨by simpa using t,by simpa[fh] using r⟩
end Go.Proofs.ZzM
end

noncomputable section
set_option maxRecDepth 100000
namespace Go.Proofs.ZzM
open Go Go.Am Go.RowKit
variable [LC] [NwE]
section
variable {w W W':World}
abbrev noG:Nat->Prop:=fun _=>False
abbrev Xs (w:World):Prop:=ë.Φ w/\∀b,ë.E b->b<w.heap.size
def Qm (w:World) (n:Int):kd w noG tI n (.int .i64 n):=⟨[.int .i64 n],rfl,rfl⟩
def aiu {a:Nat} {b:Value} {e:TypeId} {s:js} (h:w.heap[a]?=some (.cells #[b] e (0,0))) (c:CR w noG (.map tI È) s [b]):kd w noG (.ptr (.map tI È)) s (.pointer (some ⟨a,0,none⟩)):=by
 letI:Ð:=(Gk (fun _=>False) [] (none))
 exact⟨[.pointer (some ⟨a,0,none⟩)],⟨a,0,[b],rfl,id,à h,c,Ď.of_cells h⟩,rfl⟩
def aib {y:Int} {u:Value} (h:RR w noG [tI] y u):u=.int .i64 y:=by
 obtain⟨us,a,rfl⟩:=h;have:us=[.int .i64 y]:=a;rw[this]; rfl
def agm (e:∀b,b<W.heap.size->W'.heap[b]?=W.heap[b]?) (h2:W.heap.size<=W'.heap.size) (d:W'.os=W.os) (c:W'.tape=W.tape) (a:W'.output=W.output):W.grownBy W' none :=
 ⟨d,c,a,h2,fun b hb _=>e b hb⟩
def QK {f:Nat} {p:ï} (c:Xs W) (i:Ξ Tryz.prog f p) (a:p.rs=[tI]) {x:Val (tyL p.ts)} {y:Int} (g:p.F x=some (a▸(show Val (tyL [tI]) from y))) {vals:AS Value} (ha:AL W noG p.ts x vals) :
 CallsIn Fence.wide 0 Tryz.prog f vals.toArray W fun e d=>e=.returned (.int .i64 y)/\W.grownBy d none:=by
 obtain⟨ts,rs,F⟩:=p;dsimp only at a g ha x;subst a;refine(i noG x y g W vals (fun b h=>h.elim (fun q=>q.elim) (c.2 b)) c.1 ha).2.mono fun e w' ⟨u,h0,r,h2,o,l,k,j⟩=>⟨?_,agm h2 o l k j⟩;rw[h0,aib r]
noncomputable def Ho {k:Nat} (h:Xs w) (hb:Below k w W) (c:w.heap.size<=k):Xs W :=
 ⟨ë.keep w W h.1 fun b a=>hb.block b (df (by obtain⟨o,e,_⟩:=ë.dat w h.1 b a; exact à e) c),fun b d=>df (h.2 b d) hb.size⟩
def Rg (d:Xs W) {s:js} {a b y:Int} (j:ĥ a b s=some y) {c:Nat} {g:Value} {e:TypeId} (h:W.heap[c]?=some (.cells #[g] e (0,0))) (i:CR W noG (.map tI È) s [g]) :
 CallsIn Fence.wide 0 Tryz.prog 146 #[.int .i64 a,.int .i64 b,.pointer (some ⟨c,0,none⟩)] W fun e f=>e=.returned (.int .i64 y)/\W.grownBy f none :=
 QK d Xf rfl (x:=(a,b,s)) (y:=y) j (vals:=[.int .i64 a,.int .i64 b,.pointer (some ⟨c,0,none⟩)]) ⟨_,_,rfl,Qm _ _,_,_,rfl,Qm _ _,_,rfl,aiu h i⟩
def acI {a:Value} {s:js} (b:CR W noG (.map tI È) s [a]):kd W noG (.map tI È) s a:=⟨[a],b,rfl⟩
def Zs {x:a8} {cs:Array Value} (hb:CR W noG Å x cs.toList):kd W noG Å x (.agg cs):=⟨cs.toList,hb,by show Value.agg cs=Value.agg cs.toList.toArray; rw[Array.toArray_toList]⟩
def adb (b:Xs W) {x:a8} {s:js} {i y:Int} (f:Ů x s i=some y) {a:Value} {cs:Array Value} (hb:CR W noG Å x cs.toList) (d:CR W noG (.map tI È) s [a]) :
 CallsIn Fence.wide 0 Tryz.prog 150 #[.agg cs,a,.int .i64 i] W fun e c=>e=.returned (.int .i64 y)/\W.grownBy c none :=
 QK b QS rfl (x:=(x,s,i)) (y:=y) f (vals:=[.agg cs,a,.int .i64 i]) ⟨_,_,rfl,Zs hb,_,_,rfl,acI d,_,rfl,Qm _ _⟩
def UV (b:Xs W) {x:a8} {s:js} {i y:Int} (f:Ĩ x s i=some y) {a:Value} {cs:Array Value} (hb:CR W noG Å x cs.toList) (d:CR W noG (.map tI È) s [a]) :
 CallsIn Fence.wide 0 Tryz.prog 151 #[.agg cs,a,.int .i64 i] W fun e c=>e=.returned (.int .i64 y)/\W.grownBy c none :=
 QK b GY rfl (x:=(x,s,i)) (y:=y) f (vals:=[.agg cs,a,.int .i64 i]) ⟨_,_,rfl,Zs hb,_,_,rfl,acI d,_,rfl,Qm _ _⟩
end
def ow {w:World} {av:Nat->Prop} {t:Ty} {xs:AS (Val t)} {vs:AS Value} (h:CR w av (.slice t) xs vs):∃base cap,vs=[.slice base xs.length cap]:=by
 obtain⟨base,cap,e,_⟩:=h;exact⟨base,cap,e⟩
def afG {w:World} (C:Xs w) {x:a8} {s:js} {H B A G:AS Int} (h1:Im (fun u=>ĥ u.1 u.2 s) (x.2.2.1:AS (Int×Int))=some H) (h2:Im (fun i=>Ů x s i) (uN (x.2.2.2.1:AS rm).length)=some B)
 (h3:Im (fun i=>Ĩ x s i) (uN (x.2.2.2.2.1:AS ew).length)=some A) (h4:Im (fun u=>ĥ u.1 u.2 s) (x.2.2.2.2.2:AS (Int×Int))=some G)
 (t:(x.2.2.1:AS an).length<=1000/\(x.2.2.2.1:AS rm).length<=1000/\(x.2.2.2.2.1:AS ew).length<=1000/\(x.2.2.2.2.2:AS an).length<=1000)
 {bb tb S:Nat} {te te2 te3:TypeId} {cb:Array Value} {mv:Value} (hbb:w.heap[bb]?=some (.cells cb te (0,0))) (O:CR w noG Å x cb.toList) (htb:w.heap[tb]?=some (.cells #[.func (.func 146) #[] #[.pointer (some ⟨S,0,none⟩)]] te2 (0,0)))
 (D:w.heap[S]?=some (.cells #[mv] te3 (0,0))) (E:CR w noG (.map tI È) s [mv]) :
 SeqStopsK Fence.wide 1 Tryz.prog 149 #[.pointer (some ⟨bb,0,none⟩),.pointer (some ⟨tb,0,none⟩),.pointer (some ⟨S,0,none⟩)] (fun x:Int=>#[.int .i64 x]) (Below w.heap.size) (fun xs=>xs=H++(B++(A++G))) (fun o=>o <+: (H++(B++(A++G)))) (H++(B++(A++G))).length w:=by
 intro l J Jx W d hJ hJx hY h0;obtain⟨fl,r0,e0,hfl,hr0⟩:=id O;obtain⟨ga,r1,e1,hga,hr1⟩:=hr0;obtain⟨us,r2,e2,I,hr2⟩:=hr1;obtain⟨lo,r3,e3,hlo,hr3⟩:=hr2;obtain⟨co,ko,e4,hco,L⟩:=hr3;obtain⟨f1,f2,e5,hf1,hf2⟩:=hfl;have e6:f1=[.int .i64 x.1.1]:=hf1;have e7:f2=[.int .i64 x.1.2]:=hf2;obtain⟨gab,gac,e8⟩:=ow hga;obtain⟨X,V,e9⟩:=ow hlo;obtain⟨cob,coc,e10⟩:=ow hco;obtain⟨usb0,usc0,R⟩:=ow I;obtain⟨kob0,koc0,Q⟩:=ow L;rw[R] at I;rw[Q] at L;obtain⟨U,T,ub,uo,e13,K,hU⟩:=HJ I;obtain⟨Z,Y,kb,kof,e14,M,hK⟩:=HJ L;rw[e13] at R;rw[e14] at Q
 have N:cb=#[.int .i64 x.1.1,.int .i64 x.1.2,.slice gab (x.2.1:AS c9).length gac,.slice U (x.2.2.1:AS an).length T,.slice X (x.2.2.2.1:AS rm).length V,.slice cob (x.2.2.2.2.1:AS ew).length coc,.slice Z (x.2.2.2.2.2:AS an).length Y]:=by
  rw[<-dK,e0,e1,e2,e3,e4,e5,e6,e7,e8,e9,e10,R,Q];rfl
 obtain⟨g1,q1⟩:=Bm h1;obtain⟨g2,q2⟩:=Bm h2;obtain⟨g3,q3⟩:=Bm h3;obtain⟨g4,q4⟩:=Bm h4
 have gl2:B.length=(x.2.2.2.1:AS rm).length:=by rw[g2]; simp[uN]
 have gl3:A.length=(x.2.2.2.2.1:AS ew).length:=by rw[g3]; simp[uN]
 have up1:upE (fun j=>H[j]?.getD 0) (x.2.2.1:AS an).length=H:=by rw[<-g1]; exact G3 H
 have up2:upE (fun j=>B[j]?.getD 0) (x.2.2.2.1:AS rm).length=B:=by rw[<-gl2]; exact G3 B
 have up3:upE (fun j=>A[j]?.getD 0) (x.2.2.2.2.1:AS ew).length=A:=by rw[<-gl3]; exact G3 A
 have up4:upE (fun j=>G[j]?.getD 0) (x.2.2.2.2.2:AS an).length=G:=by rw[<-g4]; exact G3 G
 have at1:∀{xs:AS (Int×Int)} {z:AS Int},(∀(i:Nat) (a:Int×Int),xs[i]?=some a->∃b,z[i]?=some b/\ĥ a.1 a.2 s=some b)->∀j,j<xs.length->ĥ (xs[j]?.getD (0,0)).1 (xs[j]?.getD (0,0)).2 s=some (z[j]?.getD 0):=by
  intro xs z hq j k;obtain⟨b,hb,hf⟩:=hq j xs[j] (cI k);rw[cI k,hb];exact hf
 have at2:∀{n:Nat} {z:AS Int} {f:Int->AN Int},(∀(i:Nat) (a:Int),(uN n)[i]?=some a->∃b,z[i]?=some b/\f a=some b)->∀j,j<n->f (j:Int)=some (z[j]?.getD 0):=by
  intro n z f hq j k;obtain⟨b,hb,hf⟩:=hq j j (by simp[uN,k]);rw[hb]; exact hf
 have c:∀{W':World},Below w.heap.size W W'->Below w.heap.size w W':=fun h=>d.trans h;have g:∀{W':World} {p:Addr} {v:Value},Below w.heap.size w W'->w.cell? p=some v->p.block<w.heap.size->W'.cell? p=some v:=fun {W'} {p} {v} h hc hp=>(h.cell (p:=p) hp).trans hc;have lb:=à hbb;have lt:=à htb;have z:=à D
 have:=afP te 1 (by omega) l w.heap.size bb tb S (.int .i64 x.1.1) (.int .i64 x.1.2) (.slice gab (x.2.1:AS c9).length gac) mv lb lt z
  ub uo (x.2.2.1:AS an).length T kb kof (x.2.2.2.2.2:AS an).length Y U Z X cob (x.2.2.2.1:AS rm).length V (x.2.2.2.2.1:AS ew).length coc K M
  (fun j=>(x.2.2.1:AS (Int×Int))[j]?.getD (0,0)) (fun j=>(x.2.2.2.2.2:AS (Int×Int))[j]?.getD (0,0)) (fun j=>H[j]?.getD 0) (fun j=>B[j]?.getD 0) (fun j=>A[j]?.getD 0) (fun j=>G[j]?.getD 0)
  t.1 t.2.1 t.2.2.1 t.2.2.2 W ((d.block bb lb).trans (by rw[hbb,N])) (g d (by simp[World.cell?,htb]) lt) (g d (by simp[World.cell?,D]) z)
  (fun j k=>⟨g d (hU j k).1 (K (by omega)).2,g d (hU j k).2 (K (by omega)).2⟩) (fun j k=>⟨g d (hK j k).1 (M (by omega)).2,g d (hK j k).2 (M (by omega)).2⟩)
  (fun j k W' q=>Rg (Ho C (c q) (cJ _)) (at1 q1 j k) (((c q).block S z).trans D) (CR.below (c q) (cJ _) E))
  (fun j k W' q=>Rg (Ho C (c q) (cJ _)) (at1 q4 j k) (((c q).block S z).trans D) (CR.below (c q) (cJ _) E))
  (fun j k W' q=>adb (Ho C (c q) (cJ _)) (at2 q2 j k) (by have:=CR.below (c q) (cJ _) O; rwa [N] at this) (CR.below (c q) (cJ _) E))
  (fun j k W' q=>UV (Ho C (c q) (cJ _)) (at2 q3 j k) (by have:=CR.below (c q) (cJ _) O; rwa [N] at this) (CR.below (c q) (cJ _) E))
  J Jx (fun o W1 W2 k hg=>hJ o W1 W2 none k hg (fun r e=>by cases e)) (fun o W1 W2 k hg=>hJx o W1 W2 none k hg (fun r e=>by cases e))
  (fun o y W1 k hl=>hY o y W1 k (by simp only[cN]; omega)) h0 d.size
 rw[up1,up2,up3,up4] at this;exact this
end Go.Proofs.ZzM
end

noncomputable section
set_option maxRecDepth 100000
namespace Go.Proofs.ZzM
open Go Go.Am Go.RowKit
variable [LC] [NwE]
section
variable [Ð] {ρ:Type} {ν:Nat->Value} {w:World}
def peel (k:Ð.Q=none) {E:Env ρ} {call:AS Nat->Bool->Nat->AS AV->AS Blk->(AV->AS Blk->AN ρ)->AN ρ} {L:Nat} (t:jS E L call) (u:nh E L call) (q:E.joins=fun _ _ _ _=>none) {fid:Nat} {path:AS Nat} (o:path.length+2=L) {x y c:Code} {bid n:Nat} {S:St} {K:Exit->St->AN ρ} {r:ρ} {a:Act} {Q:Exit->Act->World->Prop}
 (s:∀z∈Þ bid x,ng E path fid z.1 z.2) (e:goC E call fid path 0 bid (.seq x y) S K=some r) (H:Sim ν S a w)
 (p:∀ν' b d w',Sim ν' b d w'->Ev 0 ν S.h w ν' b.h w'->goC E call fid path 0 bid y b K=some r->c.wpIn Fence.wide n E.P Q d w')
 (i:∀ν' b d w' e,e≠.normal->Sim ν' b d w'->Ev 0 ν S.h w ν' b.h w'->K e b=some r->Q e d w'):(Code.seq x c).wpIn Fence.wide n E.P Q a w:=by
 simp only[goC,q] at e;have j:=kE t u o x bid S _ ν a w s e H (dG _);rw[C4 k] at j;refine wpIn_seq (wpIn_wide.2 (wpIn_wide.1 (wpIn_mono j fun v d w' ha=>?_)));obtain⟨ν',b,g,h2,B,A,f⟩:=ha
 cases v with
 |normal=>exact p ν' b d w' g h2 f
 |exit id=>exact i ν' b d w' _ (by simp) g h2 f
 |goto l=>exact i ν' b d w' _ (by simp) g h2 f
 |ret=>exact i ν' b d w' _ (by simp) g h2 f
 |panic ch=>exact i ν' b d w' _ (by simp) g h2 f
 |outgrown=>exact i ν' b d w' _ (by simp) g h2 f
end
def ab1 {T:Array Value} {rb:Nat} {n:Int} {e:TypeId} {W:World} (h2:T.getD 2 undef=.pointer (some ⟨rb,0,none⟩)) (f:W.heap[rb]?=some (.cells #[.int .i64 n] e (0,0))):(results Tryz.f56 T).run Tryz.prog W=.ok (.int .i64 n) W:=by
 letI:Ð:=(Gk (fun _=>False) [] (none))
 have d:(loadVar 34 ⟨rb,0,none⟩).run Tryz.prog W=.ok (.int .i64 n) W:=by
  have:=si (P:=Tryz.prog) (w:=W) (t:=34) (agg:=false) (n:=1) (by kernel_rfl) (us:=[.int .i64 n]) rfl (fun _=>rfl) (a:=⟨rb,0,none⟩) (fun j v b=>by
   have:=Ď.of_cells f j v (by simpa using b)
   cases j with
   |zero=>simpa[Addr.add] using this
   |succ j=>simp at b)
  exact this
 have c:Tryz.f56.results=#[.cell 2 34]:=by kernel_rfl
 unfold results;rw[c,Array.mapM_eq_mapM_toList];simp only[Sem.run_bind,Sem.run_map,List.mapM_cons,List.mapM_nil,h2,asAddr,Sem.run_pure,Result.andThen_ok,d];rfl
@[reducible] noncomputable def gck (G:Nat->Prop) (M:Nat):Ð:=(Gh G).re G [] none M
def ai2 [Ð] {ν:Nat->Value} {h:AS Blk} {w:World} {x:a8} {us:AS Value} (a:ò (VRc ν h w) (flat Å x) us):CR w noG Å x us:=by
 have e:Ù Å (flat Å x)=some x:=rfl;have h2:ò (VRs w (Av ν h)) (flat Å x) us:=a.mono fun c u b=>b.1.data;exact CR.mono (fun _ d=>d.elim) (Ĝ e h2)
def zy (G:Nat->Prop) (y:Int) (w:World) (e:Ending) (w':World):Prop :=
 ∃u,e=.returned u/\RR w' G [tI] y u/\(∀b,b<w.heap.size->w'.heap[b]?=w.heap[b]?)/\w.heap.size<=w'.heap.size/\w'.os=w.os/\w'.tape=w.tape/\w'.output=w.output
def Zf {G:Nat->Prop} {y:Int} {w0 w:World} {a:Act} {ms:AS Nat} {rb:Nat} {e:TypeId} (hd:a.defers=ms.map mk1) (r:ms.Nodup) (i:∀k∈ms,w.heap[k]?=some (.deferred (some []))/\w0.heap.size<=k) (h2:a.tmps.getD 2 undef=.pointer (some ⟨rb,0,none⟩)) (g:w.heap[rb]?=some (.cells #[.int .i64 y] e (0,0)))
 (hb:∀b,b<w0.heap.size->w.heap[b]?=w0.heap[b]?) (c:w0.heap.size<=w.heap.size) (x:w.os=w0.os) (v:w.tape=w0.tape) (u:w.output=w0.output):LeavesInM Fence.wide 2 Tryz.prog Tryz.f56 a.tmps (zy G y w0) a.defers .returning w:=by
 rw[hd]
 have d:rb∉ms:=fun h=>by rw[(i rb h).1] at g; cases g
 refine mw ms w r (fun k t=>(i k t).1) fun z q p o l j=>?_;exact⟨.int .i64 y,ab1 h2 ((j rb d).trans g),.int .i64 y,rfl,⟨[.int .i64 y],rfl,rfl⟩,fun b f=>(j b fun s=>by have:=(i b s).2; omega).trans (hb b f),by rw[q]; exact c,p.trans x,o.trans v,l.trans u⟩
def aiX (S:St):ckK .ret S=(aeb S).map .inl:=by
 unfold ckK
 cases aeb S<;>rfl
def aaZ (S:St):ckK .normal S=if decide (78<=S.t.length)=true then some (.inr ([lk S.t 1,lk S.t 2,lk S.t 48],S.h)) else none:=by
 unfold ckK
 cases decide (78<=S.t.length)<;>rfl
def jW [Ð] {ρ:Type} {E:Env ρ} (h0:E.loops=lW []) (c:E.ranges=fun _ _ _ _ _ _ _=>none) {path:AS Nat} {fid bid:Nat} {b:LI}:ng E path fid bid b:=by
 cases b with
 |lp b=>exact fun m S K r ν a w e=>by rw[h0] at e; cases e
 |rf g ps x y=>exact fun m S K r ν a w e=>by rw[c] at e; cases e
def ahQ {ρ:Type} (E:Env ρ) (e:E.P.follows .mixedOrders=true) (a:∀[Ð],kR E->MV E) (h0:E.loops=lW []) (g:E.ranges=fun _ _ _ _ _ _ _=>none) (d:E.yld=none) [Ð]:jS E 2 (jm E 10) :=
 oZ a (fun L call b=>lO e L call b) (fun n i b _ _ path f fn c _ _ _ z _=>jW h0 g) 10 (cJ _) (ū d)
noncomputable def aie:Code->String
 | .region _ ops _ => ((ops[0]?).map fun o => o.pos).getD ""
 | _ => ""
noncomputable def rfA:Code->Code
 |.block _ (.rangeFunc _ _ a _)=>a
 |_=>.skip
noncomputable def rfB:Code->Code
 |.block _ (.rangeFunc _ _ _ (.block _ (.seq a _)))=>a
 |_=>.skip
noncomputable def rfC:Code->Code
 |.block _ (.rangeFunc _ _ _ (.block _ (.seq _ (.cond _ (.seq a _) _))))=>a
 |_=>.skip
def aiV:ckRF=Code.block 0 (Code.rangeFunc (.tmp 48) #[49] (XR (aie (rfA ckRF))) (ahw (aie (rfB ckRF)) (aie (rfC ckRF)))):=by kernel_rfl
def ahP:∀e∈ck_pt,Ξ Tryz.prog e.1 e.2:=À Ld (À Lc (À xM (À Lf Ã)))
def aec {e:Exit} {S:St} {n:Int} (h:ckK2 e S=some n):e=.ret/\lk S.t 2=.box 1 0/\lkB S.h 1=.cells [.int .i64 n]:=by
 unfold ckK2 at h
 split at h
 ·split at h
  ·rename_i h2
   split at h
   ·rename_i a;cases h;exact⟨rfl,h2,a⟩
   ·cases h
  ·cases h
 ·cases h
def Ui [Ð] {ν:Nat->Value} {h:AS Blk} {w:World} {n:Int} {id:Nat} (H:HR ν h w) (d:lkB h id=.cells [.int .i64 n]):∃b e,ν id=.pointer (some ⟨b,0,none⟩)/\w.heap[b]?=some (.cells #[.int .i64 n] e (0,0)):=by
 have a:=H.blk id;rw[d] at a;obtain⟨b,c,e,k,h2,j⟩:=a;obtain⟨u,i,g⟩:=j.one;have f:u=.int .i64 n:=g.1;refine⟨b,e,k,?_⟩;rw[h2]
 have:c=#[.int .i64 n]:=by rw[<-dK,i,f]
 rw[this]
def wM [Ð] {ν:Nat->Value} {h:AS Blk} {w:World} {id off:Nat} {v:Value} {b:Nat} (a:VR ν h w (.box id off) v) (hb:ν id=.pointer (some ⟨b,0,none⟩)):v=.pointer (some ⟨b,off,none⟩):=by
 obtain⟨cs,e,d,h2,c⟩:=a;rw[hb] at h2;cases h2;exact c
def aiU {G:Nat->Prop} {x:a8} {s:js} {y:Int} (X:ckS x=some y) {ν:Nat->Value} {w0 c W:World} {a:Act} (H:@HR _ (gck G w0.heap.size) ν (ckH x s 0) c) (hb:Below c.heap.size c W) {ms:AS Nat} (hd:a.defers=ms.map mk1) (V:ms.Nodup) (E:∀k∈ms,W.heap[k]?=some (.deferred (some []))/\w0.heap.size<=k) (r:78<=a.tmps.size)
 (N:@VR _ (gck G w0.heap.size) ν (ckH x s 0) c (.box 0 0) (a.tmps.getD 1 undef)) (t2:@VR _ (gck G w0.heap.size) ν (ckH x s 0) c (.box 1 0) (a.tmps.getD 2 undef))
 (h0:∀b,b<w0.heap.size->c.heap[b]?=w0.heap[b]?/\¬uM ν (ckH x s 0) b) (D:w0.heap.size<=c.heap.size) (u:c.os=w0.os) (Z:c.tape=w0.tape) (Y:c.output=w0.output) :
 OK.wpIn Fence.wide 2 Tryz.prog (bodyPostM Fence.wide 2 Tryz.prog Tryz.f56 (zy G y w0)) a W:=by
 have I:∀b,uM ν (ckH x s 0) b->b<c.heap.size:=fun b K=>@HR.ltA _ (gck G w0.heap.size) _ _ _ H b (.inl K)
 have B:∃b,ν 0=.pointer (some ⟨b,0,none⟩)/\a.tmps.getD 1 undef=.pointer (some ⟨b,0,none⟩):=by
  obtain⟨cs,b,_,h2,u⟩:=N;exact⟨b,h2,u⟩
 have A:∃b,ν 1=.pointer (some ⟨b,0,none⟩)/\a.tmps.getD 2 undef=.pointer (some ⟨b,0,none⟩):=by
  obtain⟨cs,b,_,h2,u⟩:=t2;exact⟨b,h2,u⟩
 letI:Ð:=gck G w0.heap.size
 have H1:HR ν (ckH x s 0) c:=H;have H2:HR ν (ckH x s 0) W:=(H1.grow (fun b g=>hb.block b g) hb.size hb.os hb.tape hb.output 0).2;have j:∀L call,jS (agO Int) L call->nh (agO Int) L call:=lO hmix;have J:(agO Int).loops=lW []:=rfl;have f:jS (agO Int) 2 (jm (agO Int) 10):=ahQ (agO Int) hmix (fun {_} _=>J9 ahP (agO Int) rfl rfl rfl rfl rfl (Λ rfl) (kK rfl) (ū rfl)) rfl rfl rfl;have law:=ck_suf x s;rw[X] at law
 have C:Sim ν {t:=[.any,.box 0 0,.box 1 0]++List.replicate 75 .any,h:=ckH x s 0} a W:=by
  refine⟨⟨⟨ms,hd.trans (dv _).symm,V,E⟩,fun l K=>(by cases K),dG _,dc D hb.size⟩,by simpa using r,fun i=>?_,H2⟩;simp only[J6];rcases i with _|_|_|i
  ·trivial
  ·obtain⟨b,o,d⟩:=B;exact⟨_,b,rfl,o,d⟩
  ·obtain⟨b,o,d⟩:=A;exact⟨_,b,rfl,o,d⟩
  ·trivial
 refine wpIn_wide.2 (wpIn_wide.1 (wpIn_mono (kE f (j _ _ f) rfl OK 0 _ _ ν a W (fun z _=>jW J rfl) law C (dG _)) fun e a' w' ha=>?_));obtain⟨ν',S',o,d,_,_,g5⟩:=ha;obtain⟨rfl,U,T⟩:=aec g5;obtain⟨rb,te,r1,r2⟩:=Ui o.heap T;have M:=o.tmps 2;rw[U] at M;have O:=wM M r1;obtain⟨⟨Q,m1,S,R⟩,_⟩:=o.defers;refine Zf (w:=w') (a:=a') (G:=G) (y:=y) (w0:=w0) (rb:=rb) (m1.trans (dv _)) S R O r2 (fun b g=>?_) (by have:=d.size; have:=hb.size; omega) (d.os.trans (hb.os.trans u)) (d.tape.trans (hb.tape.trans Z)) (d.output.trans (hb.output.trans Y));have v:=h0 b g
 have q:b<c.heap.size:=by omega
 have p:b<W.heap.size:=by have:=hb.size; omega
 exact(d.keep b p v.2).1.trans ((hb.block b q).trans v.1)
set_option maxHeartbeats 2000000 in
def aa0 (G:Nat->Prop) (x:a8) (y:Int) (A:ô x=some y) (w:World) (vals:AS Value) (hG:∀b,G b\/ë.E b->b<w.heap.size) (hΦ:ë.Φ w) (hAL:AL w G [Å] x vals) :
 (∃fn c,Tryz.prog.funcs[56]?=some fn/\fn.body=some c)/\CallsIn Fence.wide 0 Tryz.prog 56 vals.toArray w (zy G y w):=by
 rw[agN] at A
 letI:Ð:=gck G w.heap.size
 have hpt:=ahP;have hdraw:∀L call,jS (ckE ckR) L call->nh (ckE ckR) L call:=lO hmix;have h0:(ckE ckR).loops=lW []:=rfl;have p:jS (ckE ckR) 2 (jm (ckE ckR) 10):=ahQ (ckE ckR) hmix (fun {_} _=>J9 hpt (ckE ckR) rfl rfl rfl rfl rfl (Λ rfl) (kK rfl) (ū rfl)) rfl rfl rfl;have hD:=hdraw _ _ p;have H:HR (fun _=>undef) [] w:=⟨fun _=>trivial,fun _ _ _ h=>(by cases h),hG,fun _ _ h=>(by cases h),hΦ,fun _ _ ⟨_,h,_⟩=>(by cases h)⟩;have hav:∀b,Av (fun _=>undef) [] b->G b:=fun b hb=>hb.elim (fun⟨_,h,_⟩=>by cases h) id;have I:ò (VR (fun _=>undef) [] w) (UL [Å] x) vals:=AL.VR (hAL.mono hav);refine⟨⟨Tryz.f56,_,Tryz.func56,ahR⟩,?_⟩
 have hlen:vals.length=1:=by
  have:=I.length;simpa[UL,adN] using this.symm
 cases hM:ckM x with
 |none=>rw[hM] at A; cases A
 |some r0 =>
 rw[hM] at A;have law:=ck_pre x;rw[hM] at law;refine callsIn_wide.2 (callsIn_wide.1 (callsIn_of_wp_marks (n:=2) Tryz.func56 ahR trivial ?_ (R:=zy G y w)))
 have hS:Sim (fun _=>undef) {t:=UL [Å] x++List.replicate 77 .any,h:=[]} {tmps:=vals.toArray++Array.replicate (Tryz.f56.ntmps-vals.toArray.size) undef,defers:=[]} w:=by
  refine⟨⟨⟨[],rfl,fB,fun _ h=>(by cases h)⟩,fun l hl=>(by cases hl),dG _,cJ _⟩,?_,fun i=>?_,H⟩
  ·have:Tryz.f56.ntmps=78:=by kernel_rfl
   have hl2:(UL [Å] x).length=1:=rfl;simp[this,hlen,hl2]
  ·simp only[J6];rcases dC i (UL [Å] x).length with hi|hi
   ·have:=ò.lk (R:=VR (fun _=>undef) [] w) (fun _=>trivial) i I
    have hv:i<vals.length:=by rw[<-I.length]; exact hi
    have h2:(vals.toArray++Array.replicate (Tryz.f56.ntmps-vals.toArray.size) undef).getD i undef=vals.getD i undef:=by
     simp[dR,eZ,hv]
    rw[h2]; exact this
   ·rw[adg _ _ hi]; trivial
 -- the ways out ahead of the loop
 have out:∀ν' X a' w' e,e≠.normal->Sim ν' X a' w'->Ev 0 (fun _=>undef) [] w ν' X.h w'->ckK e X=some r0->bodyPostM Fence.wide 2 Tryz.prog Tryz.f56 (zy G y w) e a' w':=by
  intro ν' X a' w' e V r J d
  cases e with
  |normal=>exact(V rfl).elim
  |ret =>
   rw[aiX] at d
   cases hr:aeb X with
   |none=>rw[hr] at d; cases d
   |some n =>
    rw[hr,dT] at d;cases d
    have hyn:n=y:=by simpa using A
    subst hyn;unfold aeb at hr
    split at hr
    ·rename_i v hv;show LeavesInM _ _ _ _ _ _ a'.defers _ _;obtain⟨⟨ms,m1,m2,m3⟩,_,m4,m5⟩:=r.defers;rw[show a'.defers=ms.map mk1 from m1.trans (dv _)];refine mw ms w' m2 (fun k d=>(m3 k d).1) fun w2 q1 q2 q3 q4 q5=>?_
     have hk2:∀(b:Nat) (o:Obj),w'.heap[b]?=some o->Ie o=true\/b<(gck G w.heap.size).B->w2.heap[b]?=some o:=fun b o hb hd=>by
      have hbm:b∉ms:=fun hm=>by
       rw[(m3 b hm).1] at hb; cases hb;rcases hd with hd|hd
       ·cases hd
       ·exact absurd hd (Nat.not_lt_zero _)
      rw[q5 b hbm]; exact hb
     have KG:jR (gck G w.heap.size) ν' X.h w' (gck G w.heap.size).G w2:=jR.nds q2 q3 q4 (by omega) hk2
     have sim2:Sim ν' X {a' with defers:=[]} w2:=⟨⟨⟨[],rfl,fB,fun _ h=>(by cases h)⟩,fun l hl=>(by cases hl),dG _,by rw[q1]; exact m5⟩,r.len,fun i=>VR.step (g:=gck G w.heap.size) (D:=[]) (Q:=none) (M:=w.heap.size) KG (r.tmps i),
      HR.step (g:=gck G w.heap.size) (D:=[]) (Q:=none) (M:=w.heap.size) KG (fun b hb=>by rw[q1]; exact r.heap.ghL b hb) (fun b hb hg=>by obtain⟨id,h1,h2⟩:=hb; exact r.heap.ghG id b h1 h2 hg) r.heap⟩
     obtain⟨u,r1,r2⟩:=DX sim2 hv;exact⟨u,r1,u,rfl,Pa sim2.heap [tI] r2 hr,fun b hb=>(q5 b fun hm=>by have m7:w.heap.size<=b:=(m3 b hm).2; omega).trans (J.keep b hb fun⟨_,h,_⟩=>by cases h).1,by rw[q1]; exact J.size,q2.trans J.os,q3.trans J.tape,q4.trans J.output⟩
    ·cases hr
  |exit id=>cases d
  |goto l=>cases d
  |panic ch=>cases d
  |outgrown=>cases d
 have K:∀{Z:Nat->Value} {h₁:AS Blk} {w₁:World},Ev 0 (fun _=>undef) [] w Z h₁ w₁->∀ν' X a' w' e,e≠.normal->Sim ν' X a' w'->Ev 0 Z h₁ w₁ ν' X.h w'->ckK e X=some r0->bodyPostM Fence.wide 2 Tryz.prog Tryz.f56 (zy G y w) e a' w' :=
  fun hE ν' X a' w' e V r J d=>out ν' X a' w' e V r (hE.trans J (cJ _)) d
 refine peel rfl p hD rfl rfl (fun z _=>jW h0 rfl) law hS (fun ν1 S1 a1 w1 s1 e1 k1=>?_) out;refine peel rfl p hD rfl rfl (fun z _=>jW h0 rfl) k1 s1 (fun ν2 S2 a2 w2 s2 e2 k2=>?_) (K e1);have t2:=e1.trans e2 (cJ _);refine peel rfl p hD rfl rfl (fun z _=>jW h0 rfl) k2 s2 (fun ν3 S3 a3 w3 s3 e3 k3=>?_) (K t2);have t3:=t2.trans e3 (cJ _);refine peel rfl p hD rfl rfl (fun z _=>jW h0 rfl) k3 s3 (fun ν4 S4 a4 w4 s4 e4 k4=>?_) (K t3);have t4:=t3.trans e4 (cJ _);refine peel rfl p hD rfl rfl (fun z _=>jW h0 rfl) k4 s4 (fun ν5 S5 a5 w5 s5 e5 k5=>?_) (K t4);have t5:=t4.trans e5 (cJ _);refine wpIn_seq (wpIn_seq (wpIn_wide.2 (wpIn_wide.1 (wpIn_mono (kE p hD rfl ckA5 0 S5 _ ν5 a5 w5 (fun z _=>jW h0 rfl) k5 s5 (dG _)) fun e' a6 N ha=>?_))));obtain⟨ν,S,U,e6,_,_,k6⟩:=ha;have O:=t5.trans e6 (cJ _)
 have f:∀e,e≠.normal->ckK e S=some r0->Exit.then (Code.wpIn Fence.wide 2 Tryz.prog OK (bodyPostM Fence.wide 2 Tryz.prog Tryz.f56 (zy G y w))) (bodyPostM Fence.wide 2 Tryz.prog Tryz.f56 (zy G y w)) e a6 N:=by
  intro e V d;have:=out ν S a6 N e V U O d
  cases e<;>first|exact(V rfl).elim|exact this
 cases e' with
 |exit id=>exact f _ (by simp) k6
 |goto l=>exact f _ (by simp) k6
 |ret=>exact f _ (by simp) k6
 |panic ch=>exact f _ (by simp) k6
 |outgrown=>exact f _ (by simp) k6
 |normal =>
 clear f;rw[aaZ] at k6
 split at k6<;>try (cases k6; done)
 rename_i h78
 have h78':78<=S.t.length:=by simpa using h78
 cases k6;obtain⟨hlens,s,hs,hq⟩:=aiW hM;simp only[Prod.mk.injEq,List.cons.injEq,and_true] at hq;obtain⟨⟨q1,q2,q48⟩,qh⟩:=hq
 have hF2:RT (mz x s) some (ckS x)=some y:=by
  simp only at A;rw[hs] at A;exact A
 -- what the errors are
 obtain⟨L,Y,hLy⟩:∃L,mz x s=some L/\(match L.find? (fun e=>e != 0) with|some e=>some e|none=>ckS x)=some y:=by
  unfold RT at hF2
  cases hl:mz x s with
  |none=>rw[hl] at hF2; cases hF2
  |some L=>rw[hl] at hF2; exact⟨L,rfl,hF2⟩
 obtain⟨l1,l2,l3,l4,m1,m2,m3,m4,rfl⟩:∃l1 l2 l3 l4,Im (fun u=>ĥ u.1 u.2 s) (x.2.2.1:AS (Int×Int))=some l1/\Im (fun i=>Ů x s i) (uN (x.2.2.2.1:AS rm).length)=some l2 /\
  Im (fun i=>Ĩ x s i) (uN (x.2.2.2.2.1:AS ew).length)=some l3/\Im (fun u=>ĥ u.1 u.2 s) (x.2.2.2.2.2:AS (Int×Int))=some l4/\L=l1++(l2++(l3++l4)):=by
  unfold mz at Y
  cases m1:Im (fun u=>ĥ u.1 u.2 s) (x.2.2.1:AS (Int×Int)) with
  |none=>rw[m1] at Y; cases Y
  |some l1 =>
  rw[m1] at Y
  cases m2:Im (fun i=>Ů x s i) (uN (x.2.2.2.1:AS rm).length) with
  |none=>simp only[Ä,m2] at Y; cases Y
  |some l2 =>
  cases m3:Im (fun i=>Ĩ x s i) (uN (x.2.2.2.2.1:AS ew).length) with
  |none=>simp only[Ä,m2,m3] at Y; cases Y
  |some l3 =>
  cases m4:Im (fun u=>ĥ u.1 u.2 s) (x.2.2.2.2.2:AS (Int×Int)) with
  |none=>simp only[Ä,m2,m3,m4] at Y; cases Y
  |some l4 =>
  simp only[Ä,m2,m3,m4] at Y;cases Y;exact⟨l1,l2,l3,l4,rfl,rfl,rfl,rfl,rfl⟩
 -- the blocks
 obtain⟨T,Hh⟩:=S;dsimp only at q1 q2 q48 qh h78';subst qh;have p1:=U.tmps 1;have p2:=U.tmps 2;have p48:=U.tmps 48;dsimp only at p1 p2 p48;rw[q1] at p1;rw[q2] at p2;rw[q48] at p48;obtain⟨rb,te1,n1,hrb⟩:=Ui (id:=1) (n:=0) U.heap rfl;have hB2:BR ν (ckH x s 0) N 2 (.cells (flat Å x)):=U.heap.blk 2;have hB3:BR ν (ckH x s 0) N 3 (.cells [.mp tI È s]):=U.heap.blk 3;have hB4:BR ν (ckH x s 0) N 4 (.cells [.fn (.func 146) [] [.box 3 0]]):=U.heap.blk 4;obtain⟨bb,cb,te,n2,hbb,hb2⟩:=hB2;obtain⟨sb,cs3,te3,n3,hsb,hb3⟩:=hB3;obtain⟨tb,cs4,te2,n4,htb,hb4⟩:=hB4;obtain⟨mv,z3,hm3⟩:=hb3.one;obtain⟨fv,z4,hm4⟩:=hb4.one;have hmv:CR N noG (.map tI È) s [mv]:=CR.mono (fun _ hf=>hf.elim) (show CR N (Av ν (ckH x s 0)) (.map tI È) s [mv] from hm3.1)
 have hc3:cs3=#[mv]:=by rw[<-dK,z3]
 have hfv:fv=.func (.func 146) #[] #[.pointer (some ⟨sb,0,none⟩)]:=by
  obtain⟨fs,cs,h1,h2,h3⟩:=hm4.1
  have e1:fs=#[]:=by rw[<-dK]; exact h2.nil_left
  obtain⟨u,e2,h4⟩:=h3.one;have e3:u=.pointer (some ⟨sb,0,none⟩):=wM (w:=N) (id:=3) (off:=0) h4 n3
  have e4:cs=#[.pointer (some ⟨sb,0,none⟩)]:=by rw[<-dK,e2,e3]
  rw[h1,e1,e4]
 have hc4:cs4=#[fv]:=by rw[<-dK,z4]
 rw[hc3] at hsb;rw[hc4,hfv] at htb
 have hg:a6.tmps.getD 48 undef=.func (.func 149) #[] #[.pointer (some ⟨bb,0,none⟩),.pointer (some ⟨tb,0,none⟩),.pointer (some ⟨sb,0,none⟩)]:=by
  obtain⟨fs,cs,h1,h2,h3⟩:=p48
  have e1:fs=#[]:=by rw[<-dK]; exact h2.nil_left
  have hl:=h3.length
  obtain⟨u1,u2,u3,e2⟩:∃u1 u2 u3,cs.toList=[u1,u2,u3]:=by
   rcases hcs:cs.toList with _|⟨u1,_|⟨u2,_|⟨u3,_|⟨u4,t⟩⟩⟩⟩<;>rw[hcs] at hl<;>simp at hl
   exact⟨u1,u2,u3,rfl⟩
  rw[e2] at h3;have e3:u1=.pointer (some ⟨bb,0,none⟩):=wM (w:=N) (id:=2) (off:=0) h3.1 n2;have e4:u2=.pointer (some ⟨tb,0,none⟩):=wM (w:=N) (id:=4) (off:=0) h3.2.1 n4;have e5:u3=.pointer (some ⟨sb,0,none⟩):=wM (w:=N) (id:=3) (off:=0) h3.2.2.1 n3;rw[h1,e1];congr 1;rw[<-dK,e2,e3,e4,e5]
 have hseq:=afG ⟨U.heap.glob,fun b hb=>U.heap.ghlt b (.inr hb)⟩ m1 m2 m3 m4 hlens hbb (ai2 hb2) htb hsb hmv;have h2:=wM p2 n1;have hsz:78<=a6.tmps.size:=dc h78' U.len
 have C:∀b,b<w.heap.size->N.heap[b]?=w.heap[b]?/\¬uM ν (ckH x s 0) b:=fun b hb=>O.keep b hb fun⟨_,h,_⟩=>by cases h
 obtain⟨⟨ms,m1',m2',q⟩,_⟩:=U.defers;have hdef:a6.defers=ms.map mk1:=m1'.trans (dv _);show ckRF.wpIn Fence.wide 2 Tryz.prog (Exit.then (OK.wpIn Fence.wide 2 Tryz.prog (bodyPostM Fence.wide 2 Tryz.prog Tryz.f56 (zy G y w))) (bodyPostM Fence.wide 2 Tryz.prog Tryz.f56 (zy G y w))) a6 N;rw[aiV];refine wpIn_block (ah9 hseq hg h2 hsz hrb (fun D W hall hbel hDl hDo=>?_) (fun D W z hz j hDl hDo=>?_))
 ·have hck:ckS x=some y:=by
   have:(l1++(l2++(l3++l4))).find? (fun e=>e != 0)=none:=eF.2 fun z hz=>by rw[hall z hz]; simp
   rw[this] at hLy;exact hLy
  have hDn:D∉ms:=fun hm=>by have:=à (q D hm).1; omega
  exact aiU (s:=s) (ms:=D::ms) hck U.heap hbel (by show ahE D::a6.defers=_; rw[hdef]; rfl) (fj.2 ⟨hDn,m2'⟩) (fun k d=>by
   rcases cW.1 d with rfl|d
   ·exact⟨hDo,dc O.size hDl⟩
   ·exact⟨(hbel.block k (à (q k d).1)).trans (q k d).1,(q k d).2⟩) hsz p1 p2 C O.size O.os O.tape O.output
 ·have hzy:z=y:=by
   rw[hz] at hLy;simpa using hLy
  subst hzy;obtain⟨te5,hcell⟩:=j.cell;have hlb:=à hrb;have hlive:uM ν (ckH x s 0) rb:=⟨1,rfl,by rw[n1]; rfl⟩
  have hDn:D∉ms:=fun hm=>by have:=à (q D hm).1; omega
  exact Zf (a:={a6 with defers:=ahE D::a6.defers}) (w:=W) (ms:=D::ms) (by show ahE D::a6.defers=_; rw[hdef]; rfl) (fj.2 ⟨hDn,m2'⟩) (fun k d=>by
   rcases cW.1 d with rfl|d
   ·exact⟨hDo,dc O.size hDl⟩
   ·exact⟨(j.block k (à (q k d).1) (fun e=>by have h9:=(q k d).1; rw[e,hrb] at h9; cases h9)).trans (q k d).1,(q k d).2⟩) h2 hcell
   (fun b hb=>(j.block b (by have:=O.size; omega) (fun e=>(C b hb).2 (e▸hlive))).trans (C b hb).1) (by have:=O.size; have:=j.size; omega) (j.os.trans O.os) (j.tape.trans O.tape) (j.output.trans O.output)
def Ľ:Ξ Tryz.prog 56 Ĺ:=fun G x y d w vals c a b=>aa0 G x y d w vals c a b
end Go.Proofs.ZzM
end

noncomputable section
set_option maxRecDepth 100000
namespace Go.Proofs.ZzM
open Go Go.Am Go.RowKit
variable [LC] [NwE]
abbrev Ζ:Ty:=(.pair Â (.pair (.fsl È) (.pair (.slice Â) (.pair (.slice Ĵ) (.pair (.fsl (.pair tI (.pair tI (.pair (.fsl tI) (.pair (.fsl tI) (.pair tI ć)))))) (.slice Â))))))
abbrev cP:Type:=Val (tyL ik)
abbrev cV:Type:=Val (tyL lr)
abbrev cS (p:cP) (v:cV):St:=ą rj ik lr p v
abbrev cU (p:cP) (v:cV) (x:c9):St:=ą Jl ik w9 p (Ad v x)
def agG (a:AS (Int×Bool)) (n:Int):lF Tryz.prog [.map tI .bool a] 145 (.omp 0) (.int .i64 n) false some=(match (qT (k:=tI) (v:=.bool) n a:AN Bool) with|some y=>some (.bool y)|none=>some (.bool false)):=by kernel_rfl
noncomputable def MapAt (W:World) (d:Nat) (c:AS (Int×Bool)):Prop:=ë.Φ W/\∃(a:Array MapEntry) (b:Nat),W.heap[d]?=some (.map a b)/\a.size=c.length/\∀(i:Nat) (e:Int×Bool),c[i]?=some e->∃m,a[i]?=some m/\m.key=.int .i64 e.1/\m.val=.bool e.2
noncomputable def F3 (a:AS (Int×Bool)) (n:Int):Bool:=((qT (k:=tI) (v:=.bool) n a:AN Bool)).getD false
def aga {W:World} {f:Nat} {d:AS (Int×Bool)} (h:MapAt W f d) (n:Int):(Instr.lookup 145 (.map (some f)) (.int .i64 n) false).run Tryz.prog W=.ok (.bool (F3 d n)) W:=by
 obtain⟨l,a,g,y,h2,I⟩:=h;have p:=ë.cel W l
 letI:ë:={n:=ë.n,Φ:=ë.Φ,keep:=ë.keep,cel:=ë.cel,E:=fun _=>False}
 letI:Ð:=Gh fun _=>False
 have H:HR (fun _=>.map (some f)) [.map tI .bool d] W:=by
  refine⟨fun id=>?_,fun i j b hi D _ _=>?_,fun b hb=>hb.elim (fun q=>q.elim) fun q=>q.elim,fun id b _ _ hb=>hb.elim (fun q=>q.elim) fun q=>q.elim,l,fun b hb ⟨id,z,B⟩=>?_⟩
  ·rcases id with _|id
   ·refine⟨f,a,g,rfl,y,h2,fun i e G=>?_⟩;obtain⟨m,t,s,A⟩:=I i e G;exact⟨m,[.bool e.2],t,by rw[s]; rfl,rfl,by rw[A]; rfl⟩
   ·rw[FP _ _ (by simp)]; trivial
  ·have one:∀i,(lkB [Blk.map tI .bool d] i).live=true->i=0:=fun i hi=>by
    rcases i with _|i
    ·rfl
    ·rw[FP _ _ (by simp)] at hi; cases hi
   rw[one i hi,one j D]
  ·obtain⟨c,e,r,q⟩:=p b hb;rcases id with _|id
   ·have J:f=b:=by rcases B with⟨o,r,e⟩|e<;>cases e<;>rfl
    rw[J,q] at y; cases y
   ·rw[FP _ _ (by simp)] at z; cases z
 have x:VR (fun _=>.map (some f)) [.map tI .bool d] W (.omp 0) (.map (some f)):=⟨rfl,_,_,_,rfl,rfl⟩
 have C:lF Tryz.prog [.map tI .bool d] 145 (.omp 0) (.int .i64 n) false some=some (.bool (F3 d n)):=by
  rw[agG];unfold F3
  cases(qT (k:=tI) (v:=.bool) n d:AN Bool)<;>rfl
 obtain⟨u,t,s⟩:=Ua H C x (ui:=.int .i64 n) rfl;rw[t];have:u=.bool (F3 d n):=s;rw[this]
noncomputable def gz (l:AS c9) (j:Nat):c9:=l[j]?.getD (0,0,0,(0,0),(0,0),0)
def Kk {w:World} {av:Nat->Prop} {g:c9} {us:AS Value} (h:CR w av È g us) :
 us=[.int .i64 g.1,.int .i64 g.2.1,.int .i64 g.2.2.1,.int .i64 g.2.2.2.1.1,.int .i64 g.2.2.2.1.2,.int .i64 g.2.2.2.2.1.1,.int .i64 g.2.2.2.2.1.2,.int .i64 g.2.2.2.2.2]:=by
 obtain⟨A,r1,rfl,j,z,r2,rfl,h2,a3,C,rfl,i,D,B,rfl,⟨y,x,rfl,f,e⟩,⟨b3,a,rfl,⟨v,u,rfl,d,c⟩,b⟩⟩:=h;have t:A=[.int .i64 g.1]:=j;have s:z=[.int .i64 g.2.1]:=h2;have r:a3=[.int .i64 g.2.2.1]:=i;have q:y=[.int .i64 g.2.2.2.1.1]:=f;have p:x=[.int .i64 g.2.2.2.1.2]:=e;have o:v=[.int .i64 g.2.2.2.2.1.1]:=d;have l:u=[.int .i64 g.2.2.2.2.1.2]:=c;have k:a=[.int .i64 g.2.2.2.2.2]:=b;subst t s r q p o l k;rfl
noncomputable def KNd (w1:World) (R:Nat->Prop) (tb:Nat) (c:AS (Int×Bool)) (W:World):Prop:=w1.heap.size<=W.heap.size/\(∀b,R b->W.heap[b]?=w1.heap[b]?)/\(tb<w1.heap.size/\∀b,b<ë.n->b<w1.heap.size)/\∃a,a<w1.heap.size/\W.cell? ⟨tb,0,none⟩=some (.map (some a))/\MapAt W a c
def KNd.below {w1 W W':World} {R:Nat->Prop} {tb:Nat} {e:AS (Int×Bool)} (k:∀b,R b->b<w1.heap.size) (h:KNd w1 R tb e W) (i:W.heap.size<=W'.heap.size) (hb:∀b,b<w1.heap.size->W'.heap[b]?=W.heap[b]?):KNd w1 R tb e W':=by
 obtain⟨r,h2,c,d,g,q,a,s,t,p,o,l⟩:=h;exact⟨dc r i,fun b f=>(hb b (k b f)).trans (h2 b f),c,d,g,by rw[World.cell?_of_block (w:=W) (hb tb c.1)]; exact q,ë.keep W W' a (fun b j=>hb b (c.2 b j)),s,t,(hb d g).trans p,o,l⟩
def KNd.grown {w1 W W':World} {R:Nat->Prop} {tb:Nat} {a:AS (Int×Bool)} (d:∀b,R b->b<w1.heap.size) (h:KNd w1 R tb a W) (c:W.grownBy W' none):KNd w1 R tb a W' :=
 h.below d c.size fun b hb=>c.block b (df hb h.1) (by simp)
def lk_all {f:AV->Bool} (h0:f .any=true):∀(l:AS AV),l.all f=true->∀i,f (lk l i)=true
 |[],_,i=>by cases i<;>exact h0
 |x::l,h,0=>by simp only[eQ,cM] at h; exact h.1
 |x::l,h,i+1=>by simp only[eQ,cM] at h; exact lk_all h0 l h.2 i
def lkB_all {f:Blk->Bool} (h0:f .dead=true):∀(l:AS Blk),l.all f=true->∀i,f (lkB l i)=true
 |[],_,i=>by cases i<;>exact h0
 |x::l,h,0=>by simp only[eQ,cM] at h; exact h.1
 |x::l,h,i+1=>by simp only[eQ,cM] at h; exact lkB_all h0 l h.2 i
def ag6 (p:cP) (v:cV):(cS p v).h.all mfB=true:=by kernel_rfl
def cU_mf (p:cP) (v:cV) (x:c9):(cU p v x).h.all mfB=true:=by kernel_rfl
def cU_mft (p:cP) (v:cV) (x:c9):(cU p v x).t.all mfV3=true:=by kernel_rfl
noncomputable def pin0 (m:Nat):AV->Bool
 |.any=>true
 |.box id _=>Nat.blt id m
 |_=>false
noncomputable def pin3 (m:Nat):AV->Bool
 |.fn _ a b=>a.all (pin0 m)&&b.all (pin0 m)
 |a=>pin0 m a
section
variable [Ð] {ν ν':Nat->Value} {h h':AS Blk} {w w':World} {m:Nat}
def VR0.pin (e:Ev m ν h w ν' h' w') {a:AV} {v:Value} (g:pin0 m a=true) (i:VR0 ν h w a v):VR0 ν' h' w' a v:=by
 cases a with
 |any=>trivial
 |box id off =>
  obtain⟨cs,b,j,l,h2⟩:=i;have c:id<m:=eA g;have hb:=e.blk id c;rw[j] at hb;obtain⟨⟨f,d⟩,k⟩:=hb;exact⟨f,b,d,by rw[k]; exact l,h2⟩
 |_=>cases g
def VR.pin (e:Ev m ν h w ν' h' w') {a:AV} {v:Value} (b:pin3 m a=true) (c:VR ν h w a v):VR ν' h' w' a v:=by
 cases a with
 |fn f fa fb =>
  obtain⟨fs,cs,g,h2,d⟩:=c;simp only[pin3,cM,dw] at b;exact⟨fs,cs,g,h2.mem fun a ha _=>VR0.pin e (b.1 a ha),d.mem fun a ha _=>VR0.pin e (b.2 a ha)⟩
 |any=>trivial
 |box id off=>exact VR0.pin (a:=.box id off) e (show pin0 m (.box id off)=true from b) c
 |_=>cases b
end
def ahS (p:cP) (v:cV):(cS p v).t.all (pin3 9)=true:=by kernel_rfl
def cS_len (p:cP) (v:cV):(cS p v).h.length=10:=by kernel_rfl
def cU_len (p:cP) (v:cV) (x:c9):(cU p v x).h.length=11:=by kernel_rfl
def cS_t (p:cP) (v:cV) (z:AS c9):(cS p (Ċ v z)).t=(cS p v).t:=by kernel_rfl
def cS_5 (p:cP) (v:cV):∃a b us lo d c,lkB (cS p v).h 5=.cells [.int .i64 a,.int .i64 b,.slc È (ê v),.slc Â us,.slc Ĵ lo,.slc É d,.slc Â c]:=⟨_,_,_,_,_,_,rfl⟩
def cS_6 (p:cP) (v:cV):lkB (cS p v).h 6=.cells [.omp 7]:=by kernel_rfl
def cS_7 (p:cP) (v:cV):lkB (cS p v).h 7=.map tI .bool (Ń v):=by kernel_rfl
def cS_59 (p:cP) (v:cV):lk (cS p v).t 59=.fn (.func 138) [] [.box 5 0,.box 6 0]:=by kernel_rfl
noncomputable def WE:Blk->Bool
 |.map _ _ _=>true
 |_=>false
def Xi (p:cP) (v:cV):(cS p v).h.map WE=[false,false,false,false,false,false,false,true,true,false]:=by kernel_rfl
def ai0 (p:cP) (v:cV) (x:c9):(cU p v x).h.map WE=[false,false,false,false,false,false,false,true,true,false,false]:=by kernel_rfl
def Ol:∀(l:AS Blk) (i:Nat),WE (lkB l i)=true->(l.map WE)[i]?=some true
 |[],i,h=>by cases i<;>cases h
 |x::l,0,h=>by have:WE x=true:=h; simp[this]
 |x::l,i+1,h=>by simpa using Ol l i h
def Yg {l:AS Blk} {t:AS Bool} (c:l.map WE=[false,false,false,false,false,false,false,true,true]++t) (a:∀b∈t,b=false) {id:Nat} {k u:Ty} {es:AS (Val k×Val u)} (h:lkB l id=.map k u es):id=7\/id=8:=by
 have:=Ol l id (by rw[h]; rfl);rw[c] at this
 rcases id with _|_|_|_|_|_|_|_|_|id<;>simp at this ⊢
 have:=a _ (cQ this);cases this
noncomputable def ahM {ρ:Type}:AS c9->AN ρ->AN ρ
 |[],x=>x
 |_::_,_=>none
def WX {ρ:Type} {l:AS c9} {x:AN ρ} {r:ρ} (h:ahM l x=some r):l=[]/\x=some r:=by
 cases l with
 |nil=>exact⟨rfl,h⟩
 |cons=>cases h
noncomputable def cutK (p:cP) (v:cV):AN (Val Ζ):=ahM (sM v) (Ä (xh (ê v) (Ń v)) fun z=>mh p (Ċ v z) some)
def adm {l:AS c9} {a:AS (Int×Bool)} {z:AS c9} (h:xh l a=some z):Û l.length=true/\z=(Ly (fun j=>F3 a (gz l j).1) l.length).map (gz l):=by
 unfold xh at h;simp only[æ] at h
 split at h
 ·rename_i d;cases h;refine⟨d,?_⟩
  have b:∀(n:Nat),n<=l.length->(l.take n).filter (fun g=>((qT (k:=tI) (v:=.bool) g.1 a:AN Bool)).getD false)=(Ly (fun j=>F3 a (gz l j).1) n).map (gz l):=by
   intro n
   induction n with
   |zero=>intro _; rfl
   |succ n c =>
    intro e
    have f:l[n]?=some (gz l n):=by simp[gz,cI (show n<l.length from e)]
    rw[List.take_succ,gF,c (by omega),AO,f];have:((qT (k:=tI) (v:=.bool) (gz l n).1 a:AN Bool)).getD false=F3 a (gz l n).1:=rfl;simp only[Option.toList_some,dX,d9,this]
    split<;>simp
  have:=b l.length (cJ _)
  rwa [List.take_length] at this
 ·cases h
def afT {n m:Nat} (h:Û n=true) (a:m<=n):Û m=true:=by
 unfold Û at h ⊢;simp only[Bool.and_eq_true,decide_eq_true_eq] at h ⊢
 first|omega|(constructor<;>omega)
def VR_gre {G:Nat->Prop} {D D':AS Deferred} {Q Q':AN Nat} {M M':Nat} {ν:Nat->Value} {h:AS Blk} {w:World} {a:AV} {v:Value} (b:@VR _ ((Gh G).re G D Q M) ν h w a v):@VR _ ((Gh G).re G D' Q' M') ν h w a v:=b
def Lt {G:Nat->Prop} {D D':AS Deferred} {Q Q':AN Nat} {M M':Nat} {ν:Nat->Value} {h:AS Blk} {w:World} (H:@HR _ ((Gh G).re G D Q M) ν h w):@HR _ ((Gh G).re G D' Q' M') ν h w:=HR.re (g:=(Gh G).re G D Q M) H
def w7 [Ð] {c ν':Nat->Value} {g h':AS Blk} {w1 W:World} (A:HR c g w1) (ev:Ev 9 c g w1 ν' h' W) (f:∀id,id=7\/id=8->∃k u es,lkB g id=.map k u es)
 {t:AS Bool} (l:h'.map WE=[false,false,false,false,false,false,false,true,true]++t) (i:∀b∈t,b=false) (a:∀id,mfB (lkB h' id)=true):afb w1.heap.size ν' h':=by
 refine⟨fun id k u es b j d=>?_,fun id t xs e=>(by have:=a id; rw[e] at this; cases this),fun id es e=>(by have:=a id; rw[e] at this; cases this),fun id s q e=>(by have:=a id; rw[e] at this; cases this)⟩
 have y:id<9:=by rcases Yg l i j with rfl|rfl<;>omega
 obtain⟨B,u1,z,p⟩:=f id (Yg l i j);have hb:=ev.blk id y;rw[p] at hb;obtain⟨_,x⟩:=hb;have o:=A.blk id;rw[p] at o;obtain⟨C,_,_,v,r,_⟩:=o;rw[x,v] at d;cases d;exact à r
def ag7 (p:cP) (v:cV):∀id,id=7\/id=8->∃k u es,lkB (cS p v).h id=.map k u es:=by
 rintro id (rfl|rfl)
 ·exact⟨_,_,_,rfl⟩
 ·exact⟨_,_,_,rfl⟩
noncomputable def CI (G:Nat->Prop) (p:cP) (v:cV) (b:Nat->Value) (w1:World) (a:AS Nat) (W:World):Prop :=
 ∃ν',@HR _ (gck G 0) ν' (cS p (Ċ v (a.map (gz (ê v))))).h W/\Ev 9 b (cS p v).h w1 ν' (cS p (Ċ v (a.map (gz (ê v))))).h W
def CI.own {G:Nat->Prop} {p:cP} {v:cV} {a:Nat->Value} {w1:World} (o:@HR _ (gck G 0) a (cS p v).h w1):OwnFrom w1.heap.size (CI G p v a w1):=by
 intro i W W' row l g d
 letI:Ð:=gck G 0
 obtain⟨ν',H,ev⟩:=l;have f:=w7 o ev (ag7 p v) (Xi _ _) (t:=[false]) (by simp) (lkB_all rfl _ (ag6 _ _));refine⟨ν',H.ckeep (KZ g d) (fun id k u es b j c=>?_) (lkB_all rfl _ (ag6 _ _)),ev.own g fun r e=>(d r e).1⟩;have hb:=f.lt id k u es b j c
 exact g.block b (df hb ev.size) fun e=>by have:=(d b e.symm).1; omega
def CI.nd {G:Nat->Prop} {p:cP} {v:cV} {a:Nat->Value} {w1 W:World} {d:AS Nat} {R:Nat->Prop} {tb:Nat} (l:@HR _ (gck G 0) a (cS p v).h w1) (A:∀b,R b->b<w1.heap.size/\¬uM a (cS p v).h b) (g:a 6=.pointer (some ⟨tb,0,none⟩)) (hI:CI G p v a w1 d W):KNd w1 R tb (Ń v) W:=by
 letI:Ð:=gck G 0
 obtain⟨ν',H,ev⟩:=hI;have C:=l.blk 6;rw[cS_6] at C;obtain⟨b6,_,_,s,V,_⟩:=C;rw[g] at s;cases s;have B:=l.blk 7;rw[cS_7] at B;obtain⟨X,_,_,r1,r2,_⟩:=B;have E:=ev.blk 6 (by omega);rw[cS_6] at E;have D:=ev.blk 7 (by omega);rw[cS_7] at D;have z:=H.blk 6;rw[show lkB (cS p (Ċ v (d.map (gz (ê v))))).h 6=.cells [.omp 7] from cS_6 _ _] at z;obtain⟨b,c,e,r,q,U⟩:=z;rw[E.2,g] at r;cases r;obtain⟨t,T,S⟩:=U.one;obtain⟨_,k,u,es,_,Q⟩:=S.1;have y:=H.blk 7;rw[show lkB (cS p (Ċ v (d.map (gz (ê v))))).h 7=.map tI .bool (Ń v) from cS_7 _ _] at y;obtain⟨f,en,cl,j,t2,O,N⟩:=y;have e1:t=.map (some f):=Q.trans j
 have e2:f=X:=by rw[D.2,r1] at j; cases j; rfl
 subst e2;refine⟨ev.size,fun b hb=>(ev.keep b (A b hb).1 (A b hb).2).1,⟨à V,fun b hb=>by obtain⟨o,h1,_⟩:=ë.dat w1 l.glob b hb; exact à h1⟩,f,à r2,?_,H.glob,en,cl,t2,O,fun i x Y=>?_⟩
 ·have Z:c=#[t]:=by rw[<-dK,T]
  rw[Z,e1] at q;simp[World.cell?,q]
 ·obtain⟨m,us,u1,M,L,K⟩:=N i x Y;have J:[m.key]=[.int .i64 x.1]:=M;have I:us=[.bool x.2]:=L;refine⟨m,u1,by simpa using J,?_⟩;rw[K,I];rfl
def aaV:drawn (Am.rfA (Am.rfC 7 ċ))=false:=by kernel_rfl
def aaU:drawn (Am.rfB (Am.rfC 7 ċ))=false:=by kernel_rfl
def aaT:Þ 4 (Am.rfA (Am.rfC 7 ċ))=[]:=by kernel_rfl
def aaS:Þ 4 (Am.rfB (Am.rfC 7 ċ))=[]:=by kernel_rfl
def Zd (ρ:Type):ZF (ē ρ) 10:=oZ (fun {_} _=>J9 Jk (ē ρ) rfl rfl rfl rfl rfl (Λ rfl) (kK rfl) (ū rfl)) (fun L call a=>lO hmix L call a) (CT hmix (tab:=pH ρ) rfl Fy rfl) 10 (cJ _)
def QH [Ð] (ρ:Type):jS (ē ρ) 2 (jm (ē ρ) 10):=Zd ρ (ū rfl)
def ad3 {G:Nat->Prop} {M:Nat} {p:cP} {v:cV} {j:Nat->Value} {a:Act} {w1:World} (H1:@Sim _ (gck G M) j (cS p v) a w1) (l:Nat) (d:AS Nat) (x:Nat) (W:World) (hl:w1.heap.size<=l) (hlo:∃r,W.heap[l]?=some (.loop r)) (hI:CI G p v j w1 d W) (hok:Û (d.length+1)=true) {u:Value} (hu:∀[Ð] (ν:Nat->Value) (h:AS Blk) (w:World),VR ν h w (.agg (flat È (gz (ê v) x))) u) :
 (Am.rfA (Am.rfC 7 ċ)).wpIn (Fence.wide.inRound l) 0 Tryz.prog (Exit.then (fun U g=>KeepsFrom w1.heap.size W g/\∀s,(∃r,g.heap[l]?=some (.loop r)) ->
  (Am.rfB (Am.rfC 7 ċ)).wpIn (Fence.wide.inRound l) 0 Tryz.prog (Exit.then (fun _ X=>KeepsFrom w1.heap.size (g.putObj l (.loop s)) X/\CI G p v j w1 (d++[x]) X) (fun _ _ _=>False)) U (g.putObj l (.loop s))) (fun _ _ _=>False)) {tmps:=a.tmps.setIfInBounds 60 u,defers:=[]} W:=by
 letI:Ð:=(Gh G).re G [] (some l) 0
 have V:HR j (cS p v).h w1:=Lt (@Sim.heap _ (gck G M) _ _ _ _ H1);obtain⟨ν',H0,ev⟩:=hI;have H:HR ν' (cS p (Ċ v (d.map (gz (ê v))))).h W:=Lt H0;obtain⟨f,o⟩:∃f,f=Ċ v (d.map (gz (ê v))):=⟨_,rfl⟩;rw[<-o] at H ev
 have ht:(cS p f).t=(cS p v).t:=by rw[o]; exact cS_t _ _ _
 have hml:=w7 V ev (ag7 p v) (Xi _ _) (t:=[false]) (by simp) (lkB_all rfl _ (ag6 _ _))
 have I:Sim ν' (cS p f) {tmps:=a.tmps,defers:=[]} W:=by
  refine⟨⟨⟨[],rfl,fB,fun _ h=>(by cases h)⟩,fun l' C=>(by cases C; exact hlo),dG _,dG _⟩,?_,fun i=>?_,H⟩
  ·rw[ht]; show _<=a.tmps.size; exact @Sim.len _ (gck G M) _ _ _ _ H1
  ·rw[ht]; exact VR.pin ev (lk_all rfl _ (ahS p v) i) (VR_gre (@Sim.tmps _ (gck G M) _ _ _ _ H1 i))
 have J:=I.put (Ev.refl _ _ _ _) H (some 60) (hu ν' _ W);have S:=QH (cP×Val (tyL w9));have hgo:=rP S (path:=[]) rfl (Am.rfA (Am.rfC 7 ċ)) 4 _ _ ν' _ W (fun h=>by rw[aaV] at h; cases h) (fun z L=>by rw[aaT] at L; cases L) (aan p f (gz (ê v) x) fun p u=>some (p,u)) J (dc (show 9<=10 by decide) (fV (cS_len p f).symm));refine wpIn_mono hgo fun e U g ha=>?_;obtain⟨νa,Sa,sA,evA,lenA,ddA,kA⟩:=ha;obtain⟨rfl,p',u',B,D⟩:=Bj kA;cases D;obtain⟨νb,sB,evB,lB,dB⟩:=sq _ _ _ _ _ _ _ νa U g B sA;have A:Ev 9 ν' (cS p f).h W νb (cU p f (gz (ê v) x)).h g:=evA.trans evB (cJ _);have T:=ev.trans A (cJ _);have Q:=w7 V T (ag7 p v) (ai0 _ _ _) (t:=[false,false]) (by simp) (lkB_all rfl _ (cU_mf _ _ _));refine⟨FQ H hml A,fun s ⟨r,hr⟩=>?_⟩;have hlt:l<g.heap.size:=à hr
 have K:Ο g (g.putObj l (.loop s)):=⟨by simp[World.putObj],fun b c e q hb=>by
  rw[World.putObj_heap_other (fun e'=>by subst e'; rw[hr] at hb; cases hb)]; exact hb⟩
 have hfr:Fr (g.putObj l (.loop s)) U.defers:=by
  obtain⟨⟨ms,m1,m2,m3⟩,_,m5,m6⟩:=sB.defers;exact⟨⟨ms,m1,m2,fun k hk=>⟨(World.putObj_heap_other (fun e'=>by have:=(m3 k hk).1; rw[e',hr] at this; cases this)).trans (m3 k hk).1,(m3 k hk).2⟩⟩,fun l' C=>(by cases C; exact⟨s,by simp[World.putObj,hlt]⟩),m5,by simpa[World.putObj] using m6⟩
 have sC:Sim νb (cU p f (gz (ê v) x)) U (g.putObj l (.loop s)):=sB.ckeep K hfr (fun id k q es b hb hν=>World.putObj_heap_other (by have:=Q.lt id k q es b hb hν; omega)) (lkB_all rfl _ (cU_mf _ _ _)) (lk_all rfl _ (cU_mft _ _ _))
 have evO:Ev 9 j (cS p v).h w1 νb (cU p f (gz (ê v) x)).h (g.putObj l (.loop s)):=T.own (grownBy_putObj' g l _) fun q e=>by cases e; exact hl
 have E:=QH (cP×cV);have law:=aam p f (gz (ê v) x) fun p v=>some (p,v)
 have N:sM f=d.map (gz (ê v)):=by rw[o]; rfl
 rw[N] at law;simp only[dS,cY,dm,dt,hok,æ] at law;have R:=rP E (path:=[]) rfl (Am.rfB (Am.rfC 7 ċ)) 4 _ _ νb _ _ (fun h=>by rw[aaU] at h; cases h) (fun z L=>by rw[aaS] at L; cases L) law sC (dc (show 9<=11 by decide) (fV (cU_len p f (gz (ê v) x)).symm));refine wpIn_mono R fun e a3 X hb=>?_;obtain⟨Z,Sc,sD,evC,lenC,ddC,kC⟩:=hb;obtain⟨rfl,p',u',B,D⟩:=Bj kC;cases D;obtain⟨Y,sE,evD,lD,dD⟩:=sq _ _ _ _ _ _ _ Z a3 X B sD;have y:=evC.trans evD (cJ _);refine⟨FQ sC.heap Q y,Y,?_⟩
 have O:Ċ f (d.map (gz (ê v))++[gz (ê v) x])=Ċ v ((d++[x]).map (gz (ê v))):=by
  rw[o,gD]; rfl
 rw[<-O];exact⟨Lt sE.heap,evO.trans y (cJ _)⟩
noncomputable def Xt (G:Nat->Prop) (y:Val Ζ) (w:World) (e:Ending) (w':World):Prop :=
 ∃u,e=.returned u/\RR w' G [Ζ] y u/\(∀b,b<w.heap.size->w'.heap[b]?=w.heap[b]?)/\w.heap.size<=w'.heap.size/\w'.os=w.os/\w'.tape=w.tape/\w'.output=w.output
noncomputable def QI (u:Val (tyL jZ)):Val Ζ:=((u.1,u.2.1),u.2.2.1,u.2.2.2.1,u.2.2.2.2.1,u.2.2.2.2.2.1,u.2.2.2.2.2.2)
def agI (p:cP) (v:cV):mh p v (fun y=>(fun u=>some (QI u)) (lu y))=mh p v some:=by kernel_rfl
def ad2 (u:Val (tyL jZ)):lu (QI u)=u:=by kernel_rfl
def agE {G:Nat->Prop} {p:cP} {v:cV} {y:Val Ζ} {ν:Nat->Value} {a:Act} {w0 W:World} {D:Nat} (H:@Sim _ (gck G w0.heap.size) ν (cS p v) a W) (hB:mh p v some=some y) (hD:W.heap[D]?=some (.deferred (some []))) (hnl:¬uM ν (cS p v).h D)
 (R:Ev 0 (fun _=>undef) [] w0 ν (cS p v).h W) (U:w0.heap.size<=D) (T:∀ms:AS Nat,a.defers=ms.map mk1->D∉ms) :
 (Am.postC 7 ċ).wpIn Fence.wide 2 Tryz.prog (bodyPostM Fence.wide 2 Tryz.prog Tryz.f37 (Xt G y w0)) {a with defers:=ahE D::a.defers} W:=by
 letI:Ð:=gck G w0.heap.size
 have J:Sim ν (cS p v) {a with defers:=ahE D::a.defers} W:=by
  obtain⟨⟨ms,m1,m2,m3⟩,m4,m5,m6⟩:=H.defers;refine⟨⟨⟨D::ms,by show ahE D::a.defers=_; rw[m1]; rfl,fj.2 ⟨?_,m2⟩,fun k q=>?_⟩,m4,m5,m6⟩,H.len,H.tmps,H.heap⟩
  ·exact T ms (m1.trans (dv _))
  ·rcases cW.1 q with rfl|q
   ·exact⟨hD,U⟩
   ·exact m3 k q
 have d:=QH (Val Ζ);have r:∀L call,jS (ē (Val Ζ)) L call->nh (ē (Val Ζ)) L call:=lO hmix;have law:=TB p v fun u=>some (QI u);rw[agI,hB] at law
 have hL:∀z∈Þ 0 (Am.postC 7 ċ),ng (ē (Val Ζ)) [] 37 z.1 z.2:=fun z hz =>
  CT (E:=ē (Val Ζ)) hmix (tab:=pH _) rfl Fy rfl 10 (cJ _) (Zd _) (ū rfl) [] 37 Tryz.f37 _ rfl Tryz.func37 pI z (YF 7 ċ 0 BZ hz)
 have t:=kE d (r _ _ d) rfl (Am.postC 7 ċ) 0 _ _ ν _ W hL law J (dG _);rw[C4 rfl] at t;refine wpIn_wide.2 (wpIn_wide.1 (wpIn_mono t fun e A W' ha=>?_));obtain⟨C,Sa,sA,X,_,_,kA⟩:=ha;obtain⟨rfl,u,s,q⟩:=acG kA;cases q;obtain⟨νb,f,x,_,_⟩:=sq _ _ _ _ _ _ _ C A W' s sA
 have hu:ą rk [] jZ () u=ą rk [] jZ () (lu (QI u)):=by rw[ad2]
 rw[hu] at f x;have V:=(X.trans x (cJ _));obtain⟨⟨j,n1,n2,N⟩,_,n5,n6⟩:=f.defers;show LeavesInM _ _ _ _ _ _ A.defers _ _;rw[show A.defers=j.map mk1 from n1.trans (dv _)];refine mw j W' n2 (fun k q=>(N k q).1) fun I K q2 q3 q4 q5=>?_
 have O:∀(b:Nat) (o:Obj),W'.heap[b]?=some o->Ie o=true\/b<(gck G w0.heap.size).B->I.heap[b]?=some o:=fun b o hb hd=>by
  have S:b∉j:=fun s=>by
   rw[(N b s).1] at hb; cases hb;rcases hd with hd|hd
   ·cases hd
   ·exact absurd hd (Nat.not_lt_zero _)
  rw[q5 b S]; exact hb
 have KG:jR (gck G w0.heap.size) νb (ą rk [] jZ () (lu (QI u))).h W' (gck G w0.heap.size).G I:=jR.nds q2 q3 q4 (by omega) O
 have Z:Sim νb (ą rk [] jZ () (lu (QI u))) {A with defers:=[]} I:=⟨⟨⟨[],rfl,fB,fun _ h=>(by cases h)⟩,fun l hl=>(by cases hl),dG _,by rw[K]; exact n6⟩,f.len,fun i=>VR.step (g:=gck G w0.heap.size) (D:=[]) (Q:=none) (M:=w0.heap.size) KG (f.tmps i),
  HR.step (g:=gck G w0.heap.size) (D:=[]) (Q:=none) (M:=w0.heap.size) KG (fun b hb=>by rw[K]; exact f.heap.ghL b hb) (fun b hb hg=>by obtain⟨id,h1,h2⟩:=hb; exact f.heap.ghG id b h1 h2 hg) f.heap⟩
 obtain⟨Y,r1,r2⟩:=DX Z (Wf (QI u));have c:=R.trans V (cJ _);exact⟨Y,r1,Y,rfl,Pa Z.heap [Ζ] r2 (show ahx [Ζ] _ (enc Ζ (QI u))=some (QI u) from rfl),fun b hb=>(q5 b fun s=>by have m7:w0.heap.size<=b:=(N b s).2; omega).trans (c.keep b hb fun⟨_,h,_⟩=>by cases h).1,by rw[K]; exact c.size,q2.trans c.os,q3.trans c.tape,q4.trans c.output⟩
def agJ (x:Val (.pair Å (.pair (.slice Â) (.slice Â)))):B0 x.1 x.2.1 x.2.2 cutK=oB.F x:=by kernel_rfl
noncomputable def encG (g:c9):Value:=.agg #[.int .i64 g.1,.int .i64 g.2.1,.int .i64 g.2.2.1,.int .i64 g.2.2.2.1.1,.int .i64 g.2.2.2.1.2,.int .i64 g.2.2.2.2.1.1,.int .i64 g.2.2.2.2.1.2,.int .i64 g.2.2.2.2.2]
noncomputable def aiL [Ð] (g:c9) (ν:Nat->Value) (h:AS Blk) (w:World):VR ν h w (.agg (flat È g)) (encG g) :=
 ⟨_,rfl,⟨rfl,rfl⟩,⟨rfl,rfl⟩,⟨rfl,rfl⟩,⟨rfl,rfl⟩,⟨rfl,rfl⟩,⟨rfl,rfl⟩,⟨rfl,rfl⟩,⟨rfl,rfl⟩,trivial⟩
def agH (G:Nat->Prop) (x:Val (tyL oB.ts)) (y:Val Ζ) (hF:oB.F x=some y) (w:World) (vals:AS Value) (hG:∀b,G b\/ë.E b->b<w.heap.size) (hΦ:ë.Φ w) (hAL:AL w G oB.ts x vals) :
 (∃fn c,Tryz.prog.funcs[37]?=some fn/\fn.body=some c)/\CallsIn Fence.wide 0 Tryz.prog 37 vals.toArray w (Xt G y w):=by
 letI:Ð:=gck G w.heap.size
 have hdraw:∀L call,jS (Ř (Val Ζ)) L call->nh (Ř (Val Ζ)) L call:=lO hmix;have M:E5 (Ř (Val Ζ)):=CT hmix (tab:=Ac _) rfl Wh rfl;have hall:ZF (Ř (Val Ζ)) 10:=oZ (fun {_} _=>J9 Jk _ rfl rfl rfl rfl rfl (Λ rfl) (kK rfl) (ū rfl)) (fun L call hE=>lO hmix L call hE) M 10 (cJ _);have hEnv:jS (Ř (Val Ζ)) 2 (jm (Ř (Val Ζ)) 10):=hall (ū rfl);have H:HR (fun _=>undef) [] w:=⟨fun _=>trivial,fun _ _ _ h=>(by cases h),hG,fun _ _ h=>(by cases h),hΦ,fun _ _ ⟨_,h,_⟩=>(by cases h)⟩;have hav:∀b,Av (fun _=>undef) [] b->G b:=fun b hb=>hb.elim (fun⟨_,h,_⟩=>by cases h) id;have K:ò (VR (fun _=>undef) [] w) (UL oB.ts x) vals:=AL.VR (hAL.mono hav);refine⟨⟨Tryz.f37,_,Tryz.func37,pI⟩,?_⟩;have hlen:vals.length=3:=K.length.symm;refine callsIn_wide.2 (callsIn_wide.1 (callsIn_of_wp_marks (n:=2) Tryz.func37 pI trivial ?_ (R:=Xt G y w)))
 have hS:Sim (fun _=>undef) {t:=UL oB.ts x++List.replicate 127 .any,h:=[]} {tmps:=vals.toArray++Array.replicate (Tryz.f37.ntmps-vals.toArray.size) undef,defers:=[]} w:=by
  refine⟨⟨⟨[],rfl,fB,fun _ h=>(by cases h)⟩,fun l Q=>(by cases Q),dG _,cJ _⟩,?_,fun i=>?_,H⟩
  ·have:Tryz.f37.ntmps=130:=by kernel_rfl
   have hl2:(UL oB.ts x).length=3:=rfl;simp[this,hlen,hl2]
  ·simp only[J6];rcases dC i (UL oB.ts x).length with hi|hi
   ·have:=ò.lk (R:=VR (fun _=>undef) [] w) (fun _=>trivial) i K
    have hv:i<vals.length:=by rw[<-K.length]; exact hi
    have h2:(vals.toArray++Array.replicate (Tryz.f37.ntmps-vals.toArray.size) undef).getD i undef=vals.getD i undef:=by
     simp[dR,eZ,hv]
    rw[h2]; exact this
   ·rw[adg _ _ hi]; trivial
 have law:=(Wg x cutK).trans ((agJ x).trans hF);refine peelN rfl hEnv (hdraw _ _ hEnv) rfl (path:=[]) rfl (fun e S hne h=>hne (Bj h).1) 7 ċ _ _ _ _ BZ (fun z hz=>M 10 (cJ _) hall (ū rfl) [] 37 Tryz.f37 ċ rfl Tryz.func37 pI z hz) law hS (fun ν1 S1 a1 w1 s1 e1 k1=>?_);obtain⟨_,p,v,hm,Z⟩:=Bj k1;obtain⟨hrow,Z⟩:=WX Z
 cases hz:xh (ê v) (Ń v) with
 |none=>rw[hz] at Z; cases Z
 |some z =>
 rw[hz] at Z;have hB:mh p (Ċ v z) some=some y:=Z;obtain⟨hzl,hzs⟩:=adm hz;obtain⟨C,s2,e2,_,_⟩:=sq _ _ _ _ _ _ _ ν1 a1 w1 hm s1;have evw:=e1.trans e2 (cJ _)
 have hv0:Ċ v []=v:=by rw[<-hrow]; rfl
 have d:Sim C (cS p v) a1 w1:=s2
 -- the blocks
 obtain⟨fa,fb,us,lo,co,ko,h5⟩:=cS_5 p v;have hB5:=d.heap.blk 5;rw[h5] at hB5;obtain⟨bb,cb,te,n5,hbb,hc5⟩:=hB5;have hB6:=d.heap.blk 6;rw[cS_6] at hB6;obtain⟨tb,ct,tt,n6,htb,hc6⟩:=hB6;have hl5:=hc5.length
 obtain⟨u1,u2,u3,u4,u5,u6,u7,hcb⟩:∃u1 u2 u3 u4 u5 u6 u7,cb.toList=[u1,u2,u3,u4,u5,u6,u7]:=by
  rcases hcs:cb.toList with _|⟨u1,_|⟨u2,_|⟨u3,_|⟨u4,_|⟨u5,_|⟨u6,_|⟨u7,_|⟨u8,t⟩⟩⟩⟩⟩⟩⟩⟩<;>rw[hcs] at hl5<;>simp at hl5
  exact⟨u1,u2,u3,u4,u5,u6,u7,rfl⟩
 rw[hcb] at hc5;obtain⟨_,_,hc3,_⟩:=hc5;have hg3:CR w1 (Av C (cS p v).h) (.slice È) (ê v) [u3]:=hc3.1;obtain⟨base,cap,X,hcap,hgl⟩:=hg3
 have X:u3=.slice base (ê v).length cap:=by simpa using X
 obtain⟨N,go,V⟩:∃N go,0<(ê v).length->base=some ⟨N,go,none⟩/\¬Av C (cS p v).h N/\N<w1.heap.size/\∀(i:Nat) (g:c9),(ê v)[i]?=some g->∃us,CR w1 (Av C (cS p v).h) È g us/\Ď w1 N (go+i*8) us:=by
  rcases hgl with hgl|⟨N,go,q1,q2,q3,q4⟩
  ·exact⟨0,0,fun h=>by rw[show(ê v)=[] from hgl] at h; simp at h⟩
  ·exact⟨N,go,fun _=>⟨q1,q2,q3,q4⟩⟩
 obtain⟨gl,I⟩:∃gl,gl=ê v:=⟨_,rfl⟩;rw[<-I] at V X
 have hR:∀b,(0<gl.length/\b=N)->b<w1.heap.size/\¬uM C (cS p v).h b:=fun b ⟨h,e⟩=>by subst e; obtain⟨_,q2,q3,_⟩:=V h; exact⟨q3,fun Q=>q2 (.inl Q)⟩
 have hnd:∀s W,CI G p v C w1 s W->KNd w1 (fun b=>0<gl.length/\b=N) tb (Ń v) W:=fun s W hI=>hI.nd (Lt d.heap) hR n6
 have hI0:CI G p v C w1 [] w1:=by
  refine⟨C,?_,?_⟩
  ·rw[show Ċ v (([]:AS Nat).map (gz (ê v)))=v from hv0]; exact Lt d.heap
  ·rw[show Ċ v (([]:AS Nat).map (gz (ê v)))=v from hv0]; exact Ev.refl _ _ _ _
 have Y:=d.tmps 59;rw[cS_59] at Y
 have U:a1.tmps.getD 59 undef=.func (.func 138) #[] #[.pointer (some ⟨bb,0,none⟩),.pointer (some ⟨tb,0,none⟩)]:=by
  obtain⟨fs,cs,h1,h2,h3⟩:=Y
  have e1:fs=#[]:=by rw[<-dK]; exact h2.nil_left
  have Q:=h3.length
  obtain⟨v1,v2,e2⟩:∃v1 v2,cs.toList=[v1,v2]:=by
   rcases hcs:cs.toList with _|⟨v1,_|⟨v2,_|⟨v3,t⟩⟩⟩<;>rw[hcs] at Q<;>simp at Q
   exact⟨v1,v2,rfl⟩
  rw[e2] at h3;have e3:v1=.pointer (some ⟨bb,0,none⟩):=wM (w:=w1) (id:=5) (off:=0) h3.1 n5;have e4:v2=.pointer (some ⟨tb,0,none⟩):=wM (w:=w1) (id:=6) (off:=0) h3.2.1 n6;rw[h1,e1];congr 1;rw[<-dK,e2,e3,e4]
 have hcbe:cb=#[u1,u2,.slice base gl.length cap,u4,u5,u6,u7]:=by rw[<-dK,hcb,X]
 have hseq:SeqStopsK Fence.wide 1 Tryz.prog 138 #[.pointer (some ⟨bb,0,none⟩),.pointer (some ⟨tb,0,none⟩)] (fun j:Nat=>#[encG (gz gl j)]) (fun A B=>KNd w1 (fun b=>0<gl.length/\b=N) tb (Ń v) A->KNd w1 (fun b=>0<gl.length/\b=N) tb (Ń v) B)
  (fun xs=>xs=Ly (fun j=>F3 (Ń v) (gz gl j).1) gl.length) (fun _=>True) (Ly (fun j=>F3 (Ń v) (gz gl j).1) gl.length).length w1:=by
  intro l J Jx W T hJ hJx hY h0
  refine aix te 1 (by omega) l bb tb u1 u2 u4 u5 u6 u7 N go gl.length cap base (fun h=>(V h).1) (fun j=>(gz gl j).1) (fun j=>(gz gl j).2.1) (fun j=>(gz gl j).2.2.1) (fun j=>(gz gl j).2.2.2.1.1) (fun j=>(gz gl j).2.2.2.1.2) (fun j=>(gz gl j).2.2.2.2.1.1) (fun j=>(gz gl j).2.2.2.2.1.2) (fun j=>(gz gl j).2.2.2.2.2)
   (fun j=>F3 (Ń v) (gz gl j).1) ?len (KNd w1 (fun b=>0<gl.length/\b=N) tb (Ń v)) W ((T.block bb (à hbb)).trans (by rw[hbb,hcbe])) ?cells ?maps (fun W1 W2 h U=>h.grown (fun b hb=>(hR b hb).1) U) ((hnd [] w1 hI0).below (fun b hb=>(hR b hb).1) T.size T.block)
   J Jx (fun s W1 W2 hj U=>hJ s W1 W2 none hj U (fun r e=>by cases e)) (fun s W1 W2 hj U=>hJx s W1 W2 none hj U (fun r e=>by cases e)) (fun s j W1 hj Q=>hY s j W1 hj Q) h0
  case len =>
   have:=hzl;rw[<-I] at this;simp only[Û,decide_eq_true_eq] at this;omega
  case cells =>
   intro W' hW j hj;obtain⟨q1,q2,q3,q4⟩:=V (by omega);obtain⟨vs,r1,r2⟩:=q4 j (gz gl j) (by simp[gz,cI hj]);have r2:=r2.keep (w':=W') (hW.2.1 N ⟨by omega,rfl⟩);rw[Kk r1] at r2;refine⟨?_,?_,?_,?_,?_,?_,?_,?_⟩
   ·simpa using r2 0 _ rfl
   ·simpa[fh] using r2 1 _ rfl
   ·simpa[fh] using r2 2 _ rfl
   ·simpa[fh] using r2 3 _ rfl
   ·simpa[fh] using r2 4 _ rfl
   ·simpa[fh] using r2 5 _ rfl
   ·simpa[fh] using r2 6 _ rfl
   ·simpa[fh] using r2 7 _ rfl
  case maps =>
   intro W' hW;obtain⟨_,_,h3,mb,h4,h5,h6⟩:=id hW;refine⟨.map (some mb),fun W'' U=>?_⟩;obtain⟨k1,_,k3,mb',k4,k5,k6⟩:=hW.grown (fun b hb=>(hR b hb).1) U
   have:mb'=mb:=by
    have e:=World.cell?_of_block (a:=⟨tb,0,none⟩) (U.block tb (df h3.1 hW.1) (by simp));rw[e,h5] at k5;cases k5; rfl
   subst this;exact⟨k5,fun j _=>aga k6 _⟩
 rw[aal];refine wpIn_block (Lz (n:=2) rfl (by omega) U trivial (fun args w=>?eg) hseq (fun h k=>fun q=>k (h q)) (fun W l o o' Q ho _ _ hW=>?kb) (Below.refl _ _) (fun _=>rfl) (CI G p v C w1) (CI.own (Lt d.heap)) hI0 (fun l s j W Q hlo hI hlt=>?round) (fun D xs W hD hxs hI hDo=>?done))
 case eg=>simp[callFunc,Sem.run_bind,run_program,Result.andThen_ok,Tryz.func138,plain 138 _ Tryz.func138,show Tryz.f138.body.isNone=false from rfl]; rfl
 case kb=>exact hW.below (fun b hb=>(hR b hb).1) (by simp[World.putObj]) fun b hb=>World.putObj_heap_other (by omega)
 case round =>
  have hf:∀u:Value,((#[60]:Array Tmp).zip #[u]).foldl (fun t (p,v)=>t.setIfInBounds p v) a1.tmps=a1.tmps.setIfInBounds 60 u:=fun u=>by simp
  show Code.wpIn (Fence.wide.inRound l) 0 Tryz.prog _ _ ⟨((#[60]:Array Tmp).zip #[encG (gz gl j)]).foldl (fun t (p,v)=>t.setIfInBounds p v) a1.tmps,[]⟩ W;rw[hf];refine wpIn_mono (ad3 d l s j W Q hlo hI ?_ (u:=encG (gz gl j)) (by rw[I]; exact fun ν h w=>aiL _ ν h w)) fun e a' Wa ha=>?_
  ·refine afT hzl ?_;have:=VG (fun j=>F3 (Ń v) (gz gl j).1) gl.length;rw[<-I];omega
  ·cases e with
   |normal =>
    refine⟨ha.1,fun r' hr=>wpIn_mono (ha.2 r' hr) fun e a3 W3 hb=>?_⟩
    cases e with
    |normal=>exact⟨hb.1,fun _=>hnd _ _ hb.2,hb.2⟩
    |_=>exact hb
   |_=>exact ha
 case done =>
  subst hxs;obtain⟨ν',Hd0,O⟩:=hI;have Hd:=Lt (D':=[]) (Q':=none) (M':=w.heap.size) Hd0
  have hzz:(Ly (fun j=>F3 (Ń v) (gz gl j).1) gl.length).map (gz (ê v))=z:=by rw[hzs,I]
  rw[hzz] at Hd O;have hml:=w7 d.heap O (ag7 p v) (Xi _ _) (t:=[false]) (by simp) (lkB_all rfl _ (ag6 _ _));have ht:(cS p (Ċ v z)).t=(cS p v).t:=cS_t _ _ _
  have simD:Sim ν' (cS p (Ċ v z)) a1 W:=by
   refine⟨d.defers.keep O.size (d.heap.nd O),?_,fun i=>?_,Hd⟩
   ·rw[ht]; exact d.len
   ·rw[ht]; exact VR.pin O (lk_all rfl _ (ahS p v) i) (d.tmps i)
  exact agE simD hB hDo (Om Hd hml hD hDo rfl) (evw.trans (O.mono (dG _)) (cJ _)) (dc evw.size hD) (fun ms hm Z=>by
   obtain⟨⟨ms2,m1,_,m3⟩,_⟩:=d.defers;rw[show a1.defers=ms2.map mk1 from m1.trans (dv _)] at hm
   have hinj:ms2=ms:=List.map_inj_right (f:=mk1) (fun x y e=>by cases e; rfl) |>.1 hm
   subst hinj
   have:=à (m3 D Z).1; omega)
def aet:Ξ Tryz.prog 37 oB:=fun G x y d w vals c a b=>agH G x y d w vals c a b
end Go.Proofs.ZzM
end

noncomputable section
set_option maxRecDepth 100000
namespace Go.Proofs.ZzM
open Go Go.Am
def aa5 [LC] [NwE]:ZP 11 Nk:=zt (S8 _) Ã rfl Ã fun x=>by kernel_rfl
def agT [LC] [NwE]:ZP 4 afQ:=zt (NG _) (À aa5 Ã) rfl (À LD Ã) fun x=>by kernel_rfl
def qf [LC] [NwE]:ZP 12 l8:=zt (LH _) Ã rfl Ã fun x=>by kernel_rfl
def K5 [LC] [NwE]:ZP 45 D6:=zt (acJ _) Ã rfl Ã fun x=>by kernel_rfl
def Hx [LC] [NwE]:ZP 18 A3:=zt (aad _) (À K5 Ã) rfl Ã fun x=>by kernel_rfl
def Zi [LC] [NwE]:ZP 94 Pf:=zt (NX _) Ã rfl (À LY Ã) fun x=>by kernel_rfl
def Zj [LC] [NwE]:ZP 95 Pg:=zt (aai _) Ã rfl Ã fun x=>by kernel_rfl
def abd [LC] [NwE]:ZP 44 Nt:=zt (Ts _) (À Zi (À Zj Ã)) rfl Ã fun x=>by kernel_rfl
def aba [LC] [NwE]:ZP 13 Nq:=zt (Te _) (À qf (À Hx (À abd (À K5 Ã)))) rfl Ã fun x=>by kernel_rfl
def Dx [LC] [NwE]:ZP 47 vd:=zt (I1 _) Ã rfl (À I0 Ã) fun x=>by kernel_rfl
def xJ [LC] [NwE]:ZP 19 qN:=zt (Th _) (À Dx Ã) rfl Ã fun x=>by kernel_rfl
def aeh [LC] [NwE]:ZP 14 Sh:=zt (Iq _) (À Hx (À xJ Ã)) rfl (À Ip Ã) fun x=>by kernel_rfl
def aa8 [LC] [NwE]:ZP 15 No:=zt (pp _) (À qf (À xJ (À K5 Ã))) rfl (À Ga (À F9 (À Gb Ã))) fun x=>by kernel_rfl
def aem [LC] [NwE]:ZP 46 Sn:=zt (IK _) (À K5 Ã) rfl (À IJ Ã) fun x=>by kernel_rfl
def aa7 [LC] [NwE]:ZP 16 Nn:=zt (Tb _) (À qf (À Hx (À K5 (À aem Ã)))) rfl Ã fun x=>by kernel_rfl
def U4 [LC] [NwE]:ZP 48 HW:=zt (IV _) Ã rfl (À IU Ã) fun x=>by kernel_rfl
def agU [LC] [NwE]:ZP 96 XZ:=zt (NS _) Ã rfl (À LU Ã) fun x=>by kernel_rfl
def U5 [LC] [NwE]:ZP 49 HX:=zt (IX _) (À agU Ã) rfl (À IW Ã) fun x=>by kernel_rfl
def QN [LC] [NwE]:ZP 17 A2:=zt (iI _) (À xJ (À Dx (À U4 (À U5 Ã)))) rfl (À zV (À zU (À zT Ã))) fun x=>Ee x some
def QM [LC] [NwE]:ZP 52 G9:=zt (aac _) (À U5 Ã) rfl Ã fun x=>by kernel_rfl
def aej [LC] [NwE]:ZP 50 Sj:=zt (zW _) (À QM Ã) rfl (À Iz (À Iy Ã)) fun x=>by kernel_rfl
def xL [LC] [NwE]:ZP 20 qO:=zt (iJ _) (À aej Ã) rfl (À Gp (À Gn (À Gm (À Gi (À Gj (À Gl Ã)))))) fun x=>by kernel_rfl
def EV [LC] [NwE]:ZP 42 wX:=zt (Fw _) (À xL Ã) rfl (À Gq Ã) fun x=>by kernel_rfl
def aek [LC] [NwE]:ZP 97 Sk:=zt (IB _) Ã rfl (À IA Ã) fun x=>by kernel_rfl
def aen [LC] [NwE]:ZP 51 Sq:=zt (IR _) (À Dx (À U4 (À aek Ã))) rfl (À IQ Ã) fun x=>by kernel_rfl
def K6 [LC] [NwE]:ZP 207 zI:=zt (PN _) (À Zi (À Zj Ã)) rfl Ã fun x=>by kernel_rfl
def agZ [LC] [NwE]:ZP 175 X4:=zt (aah _) (À K6 Ã) rfl Ã fun x=>by kernel_rfl
def agX [LC] [NwE]:ZP 176 X2:=zt (aaf _) Ã rfl Ã fun x=>by kernel_rfl
def agW [LC] [NwE]:ZP 140 X1:=zt (aae _) (À agZ (À agX Ã)) rfl Ã fun x=>by kernel_rfl
def aa9 [LC] [NwE]:ZP 141 Np:=zt (Td _) (À Dx Ã) rfl Ã fun x=>by kernel_rfl
def aep [LC] [NwE]:ZP 177 Ss:=zt (V9 _) Ã rfl Ã fun x=>by kernel_rfl
def agY [LC] [NwE]:ZP 178 X3:=zt (aag _) (À K6 Ã) rfl Ã fun x=>by kernel_rfl
def abe [LC] [NwE]:ZP 142 Nu:=zt (Tt _) (À aep (À agY Ã)) rfl Ã fun x=>by kernel_rfl
def Xa [LC] [NwE]:ZP 98 HY:=zt (PL _) (À QM (À agW (À aa9 (À abe Ã)))) rfl Ã fun x=>by kernel_rfl
def abc [LC] [NwE]:ZP 99 Nr:=zt (Tp _) Ã rfl Ã fun x=>by kernel_rfl
def aeo [LC] [NwE]:ZP 143 Sr:=zt (V8 _) Ã rfl Ã fun x=>by kernel_rfl
def abf [LC] [NwE]:ZP 100 Nv:=zt (Tu _) (À aeo Ã) rfl Ã fun x=>by kernel_rfl
def aiY [LC] [NwE]:ZP 144 acb:=zt (acL _) Ã rfl Ã fun x=>by kernel_rfl
def aeq [LC] [NwE]:ZP 101 Su:=zt (Wc _) (À aiY Ã) rfl Ã fun x=>by kernel_rfl
def ael [LC] [NwE]:ZP 53 Sl:=zt (V7 _) (À Xa (À abc (À abf (À aeq Ã)))) rfl Ã fun x=>by kernel_rfl
def Zh [LC] [NwE]:ZP 21 Pe:=zt (w8 _) (À xL (À EV (À aen (À QM (À ael Ã))))) rfl (À LO (À LP (À LN Ã))) fun x=>by kernel_rfl
def OO [LC] [NwE]:ZP 5 Ns:=zt (jY _) (À qf (À aba (À aeh (À aa8 (À aa7 (À QN (À Hx (À xJ (À xL (À Zh Ã)))))))))) rfl (À Gv (À Gt (À Gu (À Gs Ã)))) fun x=>LW x some
def iV [LC] [NwE]:ZP 129 ŗ:=zt (gY _) Ã rfl (À kj Ã) fun x=>by kernel_rfl
def iW [LC] [NwE]:ZP 75 iF:=zt (WB _) (À Ľ (À Ld (À iV Ã))) rfl Ã fun x=>by kernel_rfl
def jP [LC] [NwE]:ZP 35 iE:=zt (PQ _) (À iW Ã) rfl Ã fun x=>by kernel_rfl
def qg [LC] [NwE]:ZP 91 l9:=zt (ų _) Ã rfl (À Ci (À Ch (À Cf (À Cg (À Ce Ã))))) fun x=>GC x some
def QP [LC] [NwE]:ZP 130 Ha:=zt (aap _) Ã rfl Ã fun x=>by kernel_rfl
def wK [LC] [NwE]:ZP 127 qP:=zt (JK _) (À QP Ã) rfl (À JJ Ã) fun x=>by kernel_rfl
def aex [LC] [NwE]:ZP 135 SB:=zt (JD _) (À qg (À wK (À QP Ã))) rfl (À JC Ã) fun x=>by kernel_rfl
def abi [LC] [NwE]:ZP 136 Ny:=zt (iM _) Ã rfl (À GJ (À GI (À GH (À GF (À GG Ã))))) fun x=>Mo x some
def DB [LC] [NwE]:ZP 80 vg:=zt (Wr _) (À aex (À abi Ã)) rfl Ã fun x=>by kernel_rfl
def Va [LC] [NwE]:ZP 81 H6:=zt (JB _) Ã rfl (À Wp (À Wn (À Wm (À Wo Ã)))) fun x=>by kernel_rfl
def aeA [LC] [NwE]:ZP 36 SF:=zt (sT _) (À DB (À Va Ã)) rfl (À JN (À JL (À JM Ã))) fun x=>by kernel_rfl
def QO [LC] [NwE]:ZP 34 A6:=zt (Jw _) (À jP (À aeA Ã)) rfl Ã fun x=>by kernel_rfl
def FW [LC] [NwE]:ZP 155 vh:=zt (Mx _) (À iV Ã) rfl Ã fun x=>by kernel_rfl
def GW [LC] [NwE]:ZP 214 tY:=zt (Cn _) Ã rfl Ã fun x=>by kernel_rfl
def wL [LC] [NwE]:ZP 217 qQ:=zt (JP _) (À DC Ã) rfl (À JO Ã) fun x=>by kernel_rfl
def Lb [LC] [NwE]:ZP 240 zM:=zt (P5 _) (À Zl (À aeB Ã)) rfl Ã fun x=>by kernel_rfl
def aiZ [LC] [NwE]:ZP 230 acd:=zt (acW _) (À wL (À Lb Ã)) rfl Ã fun x=>by kernel_rfl
def QR [LC] [NwE]:ZP 215 A9:=zt (JU _) (À aiZ Ã) rfl Ã fun x=>by kernel_rfl
def Xe [LC] [NwE]:ZP 246 VT:=zt (acU _) Ã rfl Ã fun x=>by kernel_rfl
def zu [LC] [NwE]:ZP 241 yl:=zt (GO _) (À wL (À Xe Ã)) rfl Ã fun x=>by kernel_rfl
def aeD [LC] [NwE]:ZP 244 ace:=zt (acY _) (À wL (À Lb Ã)) rfl Ã fun x=>by kernel_rfl
def aeC [LC] [NwE]:Ξ Tryz.prog 231 SG:=RU (Ai _) (TX _) (fun {_}=>J9 (À DC (À zu (À aeD (À Xe Ã)))) (Ai _) rfl rfl rfl rfl rfl (Λ rfl) (kK rfl) (ū rfl)) (fun {_}=>libN (À DC (À zu (À aeD (À Xe Ã)))) _) rfl hmix (tab:=sU _) rfl Ã (us:=FL) rfl (À (by kernel_rfl) Ã) (lh fun x=>P7 x some)
def QQ [LC] [NwE]:ZP 216 A8:=zt (JT _) (À aeC Ã) rfl Ã fun x=>by kernel_rfl
def OQ [LC] [NwE]:ZP 190 D9:=zt (T3 _) (À Lc (À DD (À GW (À QR (À QQ Ã))))) rfl Ã fun x=>by kernel_rfl
def Vd [LC] [NwE]:ZP 191 Ia:=zt (Wy _) Ã rfl Ã fun x=>by kernel_rfl
def Vb [LC] [NwE]:ZP 218 H7:=zt (Ws _) Ã rfl Ã fun x=>by kernel_rfl
def Zm [LC] [NwE]:ZP 192 Pk:=zt (aas _) (À wL (À Vb Ã)) rfl Ã fun x=>by kernel_rfl
def Vc [LC] [NwE]:ZP 193 H8:=zt (Wu _) (À wL (À Vb Ã)) rfl Ã fun x=>by kernel_rfl
def Zn [LC] [NwE]:ZP 159 Pl:=zt (aat _) (À OQ (À Vd (À Zm (À Vc Ã)))) rfl Ã fun x=>by kernel_rfl
def ag3 [LC] [NwE]:ZP 201 X8:=zt (Et _) (À lQ Ã) rfl (À MC (À MB Ã)) fun x=>by kernel_rfl
def Zo [LC] [NwE]:ZP 126 Pm:=zt (xe _) (À Ld (À Zp (À DD (À FW (À Zn (À ag3 Ã)))))) rfl (À Mz (À MA (À My Ã))) fun x=>by kernel_rfl
def Ň [LC] [NwE]:ZP 73 ł:=zt (T5 _) (À Ľ (À Zo Ã)) rfl Ã fun x=>by kernel_rfl
def K8 [LC] [NwE]:ZP 38 zK:=zt (Bz _) (À Ň Ã) rfl (À Eg Ã) fun x=>by kernel_rfl
def lY [LC] [NwE]:ZP 55 jq:=zt (Gz _) (À DB Ã) rfl Ã fun x=>by kernel_rfl
def zr [LC] [NwE]:ZP 39 ql:=zt (Gy _) (À jP (À lY Ã)) rfl Ã fun x=>by kernel_rfl
def rY [LC] [NwE]:ZP 40 lm:=zt (zZ _) (À jP (À lY Ã)) rfl Ã fun x=>by kernel_rfl
def nZ [LC] [NwE]:ZP 78 nk:=zt (Og _) (À Ľ Ã) rfl (À MJ Ã) fun x=>by kernel_rfl
def ĸ [LC] [NwE]:ZP 79 ķ:=zt (GK _) (À qg (À wK Ã)) rfl Ã fun x=>by kernel_rfl
def K9 [LC] [NwE]:Ξ Tryz.prog 8 H4:=AR (kz _) (fun {_}=>J9 (À QO (À aet (À K8 (À zr (À rY (À Ľ (À Ň (À iW (À nZ (À ĸ Ã)))))))))) (kz _) rfl rfl rfl rfl rfl (Λ rfl) (kK rfl) (ū rfl)) hmix rfl (À Em (À El Ã)) (lh fun x=>Jv x some)
def U3 [LC] [NwE]:ZP 22 Fk:=zt (LF _) Ã rfl Ã fun x=>by kernel_rfl
def lP [LC] [NwE]:Ξ Tryz.prog 54 i7:=AR (jK _) (fun {_}=>J9 (À zr (À rY Ã)) (jK _) rfl rfl rfl rfl rfl (Λ rfl) (kK rfl) (ū rfl)) hmix rfl Ã (lh fun x=>vN x some)
def U9 [LC] [NwE]:ZP 23 Fp:=zt (yK _) (À lP (À Ľ (À Ň (À iW (À nZ (À ĸ Ã)))))) rfl (À Cb Ã) fun x=>by kernel_rfl
def Xd [LC] [NwE]:ZP 24 H5:=zt (sP _) (À jP (À lY (À Ľ (À Ň (À iW (À nZ (À ĸ Ã))))))) rfl (À En Ã) fun x=>Jy x some
def OS [LC] [NwE]:ZP 107 Ea:=zt (T7 _) (À OP (À DD Ã)) rfl Ã fun x=>by kernel_rfl
def ag0 [LC] [NwE]:ZP 57 X5:=zt (aaj _) (À OS Ã) rfl Ã fun x=>by kernel_rfl
def aes [LC] [NwE]:ZP 58 Sw:=zt (We _) Ã rfl Ã fun x=>by kernel_rfl
def aer [LC] [NwE]:ZP 59 Sv:=zt (Jh _) (À ņ Ã) rfl (À Jg Ã) fun x=>by kernel_rfl
def ag2 [LC] [NwE]:ZP 25 X7:=zt (xb _) (À lP (À Ľ (À ag0 (À aes (À aer (À Ň (À iW (À nZ (À ĸ Ã))))))))) rfl (À Ml (À Mk Ã)) fun x=>TK x some
def Az [LC] [NwE]:ZP 60 zJ:=zt (PP _) Ã rfl Ã fun x=>by kernel_rfl
def aev [LC] [NwE]:ZP 26 Sy:=zt (Af _) (À lP (À Ľ (À Az (À Ň (À iW (À nZ (À ĸ Ã))))))) rfl (À Js Ã) fun x=>P1 x some
def Zq [LC] [NwE]:ZP 109 Pp:=zt (Od _) (À Ľ Ã) rfl (À MI Ã) fun x=>by kernel_rfl
def aeF [LC] [NwE]:ZP 156 SI:=zt (Ww _) (À OQ (À Vd (À Zm (À Vc Ã)))) rfl Ã fun x=>by kernel_rfl
def Xh [LC] [NwE]:ZP 108 Ib:=zt (Qb _) (À DB (À Zq (À Zo (À DD (À FW (À aeF Ã)))))) rfl Ã fun x=>by kernel_rfl
def aeE [LC] [NwE]:ZP 158 SH:=zt (Wv _) (À Ľ Ã) rfl Ã fun x=>by kernel_rfl
def ag5 [LC] [NwE]:ZP 110 Ya:=zt (aau _) (À aeE (À Zn Ã)) rfl Ã fun x=>by kernel_rfl
def U8 [LC] [NwE]:ZP 111 Fo:=zt (Mg _) (À jP Ã) rfl Ã fun x=>by kernel_rfl
def U7 [LC] [NwE]:ZP 112 Fm:=zt (Me _) (À lY Ã) rfl Ã fun x=>by kernel_rfl
def EX [LC] [NwE]:Ξ Tryz.prog 61 D7:=AR (pG _) (fun {_}=>J9 (À jP (À Ň (À OS (À Xh (À Zq (À ag5 (À U8 (À U7 Ã)))))))) (pG _) rfl rfl rfl rfl rfl (Λ rfl) (kK rfl) (ū rfl)) hmix rfl (À GA Ã) (lh fun x=>Md x some)
def tS [LC] [NwE]:ZP 64 sl:=zt (Ji _) Ã rfl Ã fun x=>by kernel_rfl
def abg [LC] [NwE]:ZP 114 Nw:=zt (TA _) Ã rfl Ã fun x=>by kernel_rfl
def qD [LC] [NwE]:ZP 68 qj:=zt (Gw _) (À abg Ã) rfl Ã fun x=>by kernel_rfl
def qE [LC] [NwE]:ZP 70 qk:=zt (mN _) Ã rfl (À xU (À xV Ã)) fun x=>by kernel_rfl
def K7 [LC] [NwE]:ZP 62 vf:=zt (qZ _) (À ņ (À tS (À qD (À qE Ã)))) rfl (À vM Ã) fun x=>by kernel_rfl
def aeu [LC] [NwE]:ZP 27 Sx:=zt (Ae _) (À Ľ (À EX (À K7 (À Ň (À iW (À nZ (À ĸ Ã))))))) rfl (À Jm Ã) fun x=>PZ x some
def Dz [LC] [NwE]:ZP 65 A5:=zt (Jo _) Ã rfl Ã fun x=>by kernel_rfl
def Dy [LC] [NwE]:ZP 66 A4:=zt (Jj _) Ã rfl Ã fun x=>by kernel_rfl
def Xb [LC] [NwE]:Ξ Tryz.prog 28 HZ:=RU (sN _) (þ _) (fun {_}=>J9 (À Ľ (À Az (À EX (À ņ (À tS (À Dz (À Dy (À qD (À qE (À Ň (À iW (À nZ (À ĸ Ã))))))))))))) (sN _) rfl rfl rfl rfl rfl (Λ rfl) (kK rfl) (ū rfl)) (fun {_}=>J9 (À Ľ (À Az (À EX (À ņ (À tS (À Dz (À Dy (À qD (À qE (À Ň (À iW (À nZ (À ĸ Ã))))))))))))) (þ _) rfl rfl rfl rfl rfl (Λ rfl) (kK rfl) (ū rfl)) rfl hmix (tab:=oM _) rfl (À Ej (À Ei Ã)) (us:=qo) rfl (À (by kernel_rfl) Ã) (lh fun x=>Jn x some)
def La [LC] [NwE]:ZP 131 zL:=zt (Cj _) Ã rfl (À Ep Ã) fun x=>by kernel_rfl
def Zk [LC] [NwE]:ZP 132 Ph:=zt (N0 _) Ã rfl (À Mn Ã) fun x=>by kernel_rfl
def MR [LC] [NwE]:ZP 76 yk:=zt (GN _) (À wK (À QP (À La (À Zk Ã)))) rfl Ã fun x=>by kernel_rfl
def DA [LC] [NwE]:ZP 31 sm:=zt (Ju _) (À Ľ (À Ň (À iW (À MR Ã)))) rfl Ã fun x=>by kernel_rfl
def MQ [LC] [NwE]:ZP 116 yj:=zt (GM _) (À wK (À La (À Zk Ã))) rfl Ã fun x=>by kernel_rfl
def MP [LC] [NwE]:ZP 71 yi:=zt (GB _) (À Ľ (À Ň (À MQ Ã))) rfl Ã fun x=>by kernel_rfl
def mU [LC] [NwE]:ZP 195 gW:=zt (Θ _) Ã rfl (À jJ Ã) fun x=>by kernel_rfl
def kX [LC] [NwE]:ZP 163 ź:=zt (ke _) (À mU Ã) rfl Ã fun x=>by kernel_rfl
def qC [LC] [NwE]:ZP 197 jp:=zt (iG _) Ã rfl (À ln Ã) fun x=>by kernel_rfl
def nY [LC] [NwE]:ZP 166 iu:=zt (me _) (À qC Ã) rfl Ã fun x=>by kernel_rfl
def o8 [LC] [NwE]:ZP 199 iD:=zt (gZ _) Ã rfl (À km Ã) fun x=>by kernel_rfl
def mG [LC] [NwE]:ZP 169 Ρ:=zt (kV _) (À o8 Ã) rfl Ã fun x=>by kernel_rfl
def ag1 [LC] [NwE]:ZP 72 X6:=zt (Ŧ _) (À kX (À nY (À mG Ã))) rfl (À Mb (À L8 (À L7 (À L9 (À Ma (À L6 (À L5 (À L4 (À L3 (À L2 Ã)))))))))) fun x=>Tw x some
def abh [LC] [NwE]:ZP 29 Nx:=zt (TJ _) (À DA (À Ľ (À MP (À ag1 Ã)))) rfl Ã fun x=>by kernel_rfl
def aez [LC] [NwE]:ZP 74 SE:=zt (lz _) (À Va (À qg (À wK Ã))) rfl (À JI (À JE (À JF (À JG (À JH Ã))))) fun x=>by kernel_rfl
def aew [LC] [NwE]:ZP 30 Sz:=zt (Wi _) (À aet (À K8 (À Ň (À aez Ã)))) rfl Ã fun x=>by kernel_rfl
def QL [LC] [NwE]:ZP 6 A1:=zt (vn _) (À K9 (À U3 (À U9 (À Xd (À ag2 (À aev (À aeu (À Xb (À abh (À aew (À DA Ã))))))))))) rfl Ã fun x=>Ed x some
noncomputable def EW [LC] [NwE] {a:Int->AN ByteArray} (b:Ξ Tryz.prog 77 ⟨[tI],[.str],fun(x:Int)=>a x⟩):Ξ Tryz.prog 77 ⟨[tI],[.str],fun(x:Int)=>Χ a x some⟩:=AR (p:=⟨[tI],[.str],fun(x:Int)=>Χ a x some⟩) (Ų a _) (fun {_}=>libN (À b Ã) _) hmix (tab:=tZ a _) rfl (À Bw Ã) (lh fun x=>Gr x some)
def uA [LC] [NwE]:∀n:Nat,Ξ Tryz.prog 77 ⟨[tI],[.str],fun(x:Int)=>lZ n x⟩
 |0=>by intro _ _ _ h; cases h
 |n+1=>EW (uA n)
def U6 [LC] [NwE]:Ξ Tryz.prog 77 Fl:=uA 100
def aei [LC] [NwE]:ZP 32 Si:=zt (Ix _) (À U6 Ã) rfl (À Iw Ã) fun x=>by kernel_rfl
def abb [LC] [NwE]:ZP 7 Z0:=zt (jX _) (À aei Ã) rfl (À Gg (À Gf (À Ge (À Gd (À Gc Ã))))) fun x=>by kernel_rfl
def aey [LC] [NwE]:ZP 41 SD:=zt (Wq _) (À DB (À qg Ã)) rfl Ã fun x=>by kernel_rfl
def Xc [LC] [NwE]:ZP 9 VQ:=zt (sO _) (À jP (À aey (À Ľ (À Ň (À iW (À nZ (À ĸ Ã))))))) rfl (À Ek Ã) fun x=>Jt x some
def W9 [LC] [NwE]:ZP 92 HV:=zt (PJ _) (À xL (À Zh Ã)) rfl Ã fun x=>by kernel_rfl
def agV [LC] [NwE]:ZP 93 X0:=zt (NU _) Ã rfl (À LX Ã) fun x=>by kernel_rfl
def aa6 [LC] [NwE]:ZP 43 Nl:=zt (S9 _) (À EV (À W9 (À agV Ã))) rfl Ã fun x=>by kernel_rfl
def MO [LC] [NwE]:ZP 10 LB:=zt (F8 _) (À OO (À EV (À aa6 Ã))) rfl Ã fun x=>by kernel_rfl
end Go.Proofs.ZzM
end
