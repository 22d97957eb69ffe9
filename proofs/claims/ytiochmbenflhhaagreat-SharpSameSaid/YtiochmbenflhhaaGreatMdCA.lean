/- lemmas -/
import Derived.Test.YtiochmbenflhhaaGreatAmD
import Derived.Test.YtiochmbenflhhaaGreatAmE
import Derived.Ground.NamesProg
import Derived.Ground.Names2Prog
import Derived.KernelRfl
import Derived.Test.YtiochmbenflhhaaGreatMdMA
import Derived.Test.YtiochmbenflhhaaGreatMdKD
import Derived.RangeFuncBox
import Derived.Lib.SliceRun
import Derived.RangeFuncLeaves
import Derived.WalkKit
import Derived.OwnWalkIn
import Derived.TacticsInMore
import Derived.LoopNIn
import Derived.LoopIn
import Derived.Test.YtiochmbenflhhaaGreatProg
import Derived.RangeFuncFrom
import Derived.RangeFuncRecord
import Derived.Test.YtiochmbenflhhaaGreatMdKC
import Derived.Test.YtiochmbenflhhaaGreatMdKB
import Derived.Test.YtiochmbenflhhaaGreatMdKA
set_option linter.all false
set_option linter.unusedSectionVars false
set_option linter.unusedVariables false
set_option linter.unusedSimpArgs false
noncomputable section
namespace Go.Proofs
open Go.Shelf
def Tryz.laysSort_ren:Go.Shelf.Ren:=⟨fun|189=>223|125=>253|257=>252|128=>272|129=>273|294=>263|295=>264|296=>265|297=>266|298=>267|299=>268|216=>269|300=>270|301=>271|328=>277|329=>278|330=>279|331=>280|332=>281|215=>282|343=>290|n=>n,fun|28=>39|3=>3|46=>284|0=>0|51=>303|53=>279|4=>4|183=>296|182=>295|131=>61|5=>5|9=>9|218=>311|222=>315|228=>323|229=>324|n=>n,fun|n=>n⟩
def Tryz.laysSort:Go.Proofs.Lays.n189 Tryz.prog Tryz.laysSort_ren:={
 mixed:=by kernel_rfl
 f125:=Tryz.func253.trans (congrArg some (by kernel_rfl))
 f128:=Tryz.func272.trans (congrArg some (by kernel_rfl))
 f129:=Tryz.func273.trans (congrArg some (by kernel_rfl))
 f189:=Tryz.func223.trans (congrArg some (by kernel_rfl))
 f215:=Tryz.func282.trans (congrArg some (by kernel_rfl))
 f216:=Tryz.func269.trans (congrArg some (by kernel_rfl))
 f257:=Tryz.func252.trans (congrArg some (by kernel_rfl))
 f294:=Tryz.func263.trans (congrArg some (by kernel_rfl))
 f295:=Tryz.func264.trans (congrArg some (by kernel_rfl))
 f296:=Tryz.func265.trans (congrArg some (by kernel_rfl))
 f297:=Tryz.func266.trans (congrArg some (by kernel_rfl))
 f298:=Tryz.func267.trans (congrArg some (by kernel_rfl))
 f299:=Tryz.func268.trans (congrArg some (by kernel_rfl))
 f300:=Tryz.func270.trans (congrArg some (by kernel_rfl))
 f301:=Tryz.func271.trans (congrArg some (by kernel_rfl))
 f328:=Tryz.func277.trans (congrArg some (by kernel_rfl))
 f329:=Tryz.func278.trans (congrArg some (by kernel_rfl))
 f330:=Tryz.func279.trans (congrArg some (by kernel_rfl))
 f331:=Tryz.func280.trans (congrArg some (by kernel_rfl))
 f332:=Tryz.func281.trans (congrArg some (by kernel_rfl))
 f343:=Tryz.func290.trans (congrArg some (by kernel_rfl))
 t0:=Tryz.underlying0
 a0:=Tryz.isAgg0
 z0:=Tryz.sizeOf0
 v0:=Tryz.zeroValue0
 t3:=Tryz.underlying3
 a3:=Tryz.isAgg3
 z3:=Tryz.sizeOf3
 v3:=Tryz.zeroValue3
 t4:=Tryz.underlying4
 a4:=Tryz.isAgg4
 z4:=Tryz.sizeOf4
 v4:=Tryz.zeroValue4
 t5:=Tryz.underlying5
 a5:=Tryz.isAgg5
 z5:=Tryz.sizeOf5
 v5:=Tryz.zeroValue5
 t9:=Tryz.underlying9
 a9:=Tryz.isAgg9
 z9:=Tryz.sizeOf9
 v9:=Tryz.zeroValue9
 t28:=Tryz.underlying39
 a28:=Tryz.isAgg39
 z28:=Tryz.sizeOf39
 v28:=Tryz.zeroValue39
 t46:=Tryz.underlying284
 a46:=Tryz.isAgg284
 z46:=Tryz.sizeOf284
 v46:=Tryz.zeroValue284
 t51:=Tryz.underlying303
 a51:=Tryz.isAgg303
 z51:=Tryz.sizeOf303
 v51:=Tryz.zeroValue303
 t53:=Tryz.underlying279
 a53:=Tryz.isAgg279
 z53:=Tryz.sizeOf279
 v53:=Tryz.zeroValue279
 t131:=Tryz.underlying61
 a131:=Tryz.isAgg61
 z131:=Tryz.sizeOf61
 v131:=Tryz.zeroValue61
 t182:=Tryz.underlying295
 a182:=Tryz.isAgg295
 z182:=Tryz.sizeOf295
 v182:=Tryz.zeroValue295
 t183:=Tryz.underlying296
 a183:=Tryz.isAgg296
 z183:=Tryz.sizeOf296
 v183:=Tryz.zeroValue296
 t218:=Tryz.underlying311
 a218:=Tryz.isAgg311
 z218:=Tryz.sizeOf311
 v218:=Tryz.zeroValue311
 t222:=Tryz.underlying315
 a222:=Tryz.isAgg315
 z222:=Tryz.sizeOf315
 v222:=Tryz.zeroValue315
 t228:=Tryz.underlying323
 a228:=Tryz.isAgg323
 z228:=Tryz.sizeOf323
 v228:=Tryz.zeroValue323
 t229:=Tryz.underlying324
 a229:=Tryz.isAgg324
 z229:=Tryz.sizeOf324
 v229:=Tryz.zeroValue324}
def Tryz.laysCompact_ren:Go.Shelf.Ren:=⟨fun|20=>224|n=>n,fun|22=>39|3=>3|4=>4|0=>0|n=>n,fun|n=>n⟩
def Tryz.laysCompact:Go.Proofs.Lays2.n20 Tryz.prog Tryz.laysCompact_ren:={
 mixed:=by kernel_rfl
 f20:=Tryz.func224.trans (congrArg some (by kernel_rfl))
 t0:=Tryz.underlying0
 a0:=Tryz.isAgg0
 z0:=Tryz.sizeOf0
 v0:=Tryz.zeroValue0
 t3:=Tryz.underlying3
 a3:=Tryz.isAgg3
 z3:=Tryz.sizeOf3
 v3:=Tryz.zeroValue3
 t4:=Tryz.underlying4
 a4:=Tryz.isAgg4
 z4:=Tryz.sizeOf4
 v4:=Tryz.zeroValue4
 t22:=Tryz.underlying39
 a22:=Tryz.isAgg39
 z22:=Tryz.sizeOf39
 v22:=Tryz.zeroValue39
 i3:=by kernel_rfl}
end Go.Proofs
namespace Go.Proofs.ZzM
open Go Go.Am
def hmix:Tryz.prog.follows .mixedOrders=true:=by kernel_rfl
def plain_ : (Tryz.prog.funcs.toList.all fun fn => !(fn.name == "runtime.NumGoroutine")) = true := by kernel_rfl
def plain (f : Nat) (fn : Func) (h : Tryz.prog.funcs[f]? = some fn) : (fn.name == "runtime.NumGoroutine") = false := by
 have:=dG.1 plain_ fn (cZ (i:=f) (by simpa using h));simpa using this
def amR:Tryz.laysSort_ren.f 189=223:=by kernel_rfl
def af1:Tryz.laysCompact_ren.f 20=224:=by kernel_rfl
section
variable [ù] {ρ:Type}
def sortOk (f:Nat) (hf:abg f=true) (h:List Blk) (x:AV) (K:AV→List Blk→Option ρ) (q:ρ) (e:Vo h x K=some q) (ν:Nat→Value) (w:World) (u:Value) (H:HR ν h w) (hx:VR ν h w x u):LX Tryz.prog f ν h w [u] K q:=by
 have h1:f=223:=by
  unfold abg at hf
  split at hf
  ·rfl
  ·cases hf
 subst h1;have:=amM Tryz.laysSort e H hx ⟨_,rfl⟩
 rwa [amR] at this
def ajk (f:Nat) (hf:zb f=true) (h:List Blk) (x:AV) (K:AV→List Blk→Option ρ) (q:ρ) (e:oo h x K=some q) (ν:Nat→Value) (w:World) (u:Value) (H:HR ν h w) (hx:VR ν h w x u):LX Tryz.prog f ν h w [u] K q:=by
 have h1:f=224:=by
  unfold zb at hf
  split at hf
  ·rfl
  ·cases hf
 subst h1;have:=agF Tryz.laysCompact e H hx ⟨_,rfl⟩
 rwa [af1] at this
def anq:Kt Tryz.prog QA:=by
 intro g hg fz S nid x v S' e ν w u H hx hn hd;unfold QA at hg
 split at hg
 ·exact Aw Tryz.func154 (T:=39) (by kernel_rfl) (by kernel_rfl) e H hx hn hd
 ·exact Aw Tryz.func227 (T:=24) (by kernel_rfl) (by kernel_rfl) e H hx hn hd
 ·exact Aw Tryz.func228 (T:=25) (by kernel_rfl) (by kernel_rfl) e H hx hn hd
 ·exact Aw Tryz.func229 (T:=26) (by kernel_rfl) (by kernel_rfl) e H hx hn hd
 ·exact Aw Tryz.func230 (T:=28) (by kernel_rfl) (by kernel_rfl) e H hx hn hd
 ·exact Aw Tryz.func231 (T:=27) (by kernel_rfl) (by kernel_rfl) e H hx hn hd
 ·cases hg
def MU {pt:List (Nat×Û)} (h:∀e∈pt,Ñ Tryz.prog e.1 e.2) (E:Env ρ) (hP:E.P=Tryz.prog) (h1:E.pure=agw pt) (h2:E.sort=abg) (h3:E.compact=zb) (h4:E.clone=QA) (hj:afL E):M6 E:=by
 constructor
 ·intro f p hf;rw[h1] at hf;rw[hP];exact h (f,p) (UY hf)
 ·intro f hf;rw[h2] at hf;rw[hP];exact sortOk f hf
 ·intro f hf;rw[h3] at hf;rw[hP];exact ajk f hf
 ·rw[hP]; exact plain
 ·rw[hP,h4]; exact anq
 ·exact hj
def ě {pt:List (Nat×Û)} (h:∀e∈pt,Ñ Tryz.prog e.1 e.2) (tab:List (Ü ρ)):M6 (Ý pt tab):=MU h _ rfl rfl rfl rfl rfl (Λ rfl)
end
end Go.Proofs.ZzM
end

noncomputable section
set_option maxRecDepth 100000
namespace Go.Proofs.ZzM
open Go Go.Am
def AA:Ñ Tryz.prog 109 sJ:=È (Lw _) (fun {_}=>ě Æ _) hmix (tab:=Cp _) rfl Æ (Å fun x=>Tn x some)
def mo:Ñ Tryz.prog 144 kp:=È (Lr _) (fun {_}=>ě Æ _) hmix (tab:=Cj _) rfl Æ (Å fun x=>Ta x some)
def Rp:Ñ Tryz.prog 176 EQ:=È (Qm _) (fun {_}=>ě (Á mo Æ) _) hmix (tab:=Hb _) rfl Æ (Å fun x=>Xz x some)
def aft:Ñ Tryz.prog 249 VE:=È (UA _) (fun {_}=>ě Æ _) hmix (tab:=Ll _) rfl Æ (Å fun x=>aaK x some)
def ajJ:Ñ Tryz.prog 250 acE:=È (P0 _) (fun {_}=>ě Æ _) hmix (tab:=PZ _) rfl (Á Xi Æ) (Å fun x=>adf x some)
def If:Ñ Tryz.prog 218 EM:=È (P3 _) (fun {_}=>ě (Á aft (Á ajJ Æ)) _) hmix (tab:=GP _) rfl Æ (Å fun x=>Xk x some)
def ad1:Ñ Tryz.prog 174 Ob:=È (Ha _) (fun {_}=>ě (Á AA (Á mo (Á Rp (Á If Æ)))) _) hmix (tab:=yU _) rfl Æ (Å fun x=>Ql x some)
def Rq:Ñ Tryz.prog 110 xt:=È (me _) (fun {_}=>ě (Á ad1 Æ) _) hmix (tab:=pC _) rfl (Á yV Æ) (Å fun x=>D2 x some)
def Rn:Ñ Tryz.prog 111 CW:=È (vn _) (fun {_}=>ě Æ _) hmix (tab:=yN _) rfl (Á JF Æ) (Å fun x=>Qe x some)
def Kh:Ñ Tryz.prog 116 sF:=È (j8 _) (fun {_}=>ě Æ _) hmix (tab:=mL _) rfl (Á uI Æ) (Å fun x=>xy x some)
def jI:Ñ Tryz.prog 49 ω:=È (lO _) (fun {_}=>ě (Á Kh Æ) _) hmix (tab:=ks _) rfl Æ (Å fun x=>sN x some)
def afx:Ñ Tryz.prog 181 VI:=È (zU _) (fun {_}=>ě (Á jI Æ) _) hmix (tab:=Ly _) rfl (Á Tr (Á Tq Æ)) (Å fun x=>aa3 x some)
def Ro:Ñ Tryz.prog 113 EP:=È (vr _) (fun {_}=>ě (Á afx Æ) _) hmix (tab:=GX _) rfl (Á Qg (Á Qh Æ)) (Å fun x=>Xs x some)
def sl:Ñ Tryz.prog 177 mr:=È (wS _) (fun {_}=>ě Æ _) hmix (tab:=rk _) rfl Æ (Å fun x=>GV x some)
def ad0:Ñ Tryz.prog 175 acG:=È (GW _) (fun {_}=>ě (Á Rp (Á sl Æ)) _) hmix (tab:=yQ _) rfl Æ (Å fun x=>Qf x some)
def Yl:Ñ Tryz.prog 179 VJ:=È (lf _) (fun {_}=>ě (Á AA (Á mo (Á sl Æ))) _) hmix (tab:=tQ _) rfl (Á D1 (Á D0 Æ)) (Å fun x=>JM x some)
def Ś:Ñ Tryz.prog 100 Ŗ:=È (gS _) (fun {_}=>ě Æ _) hmix (tab:=lP _) rfl (Á sP (Á sO Æ)) (Å fun x=>wZ x some)
def U5:Ñ Tryz.prog 182 IG:=È (yT _) (fun {_}=>ě (Á mo Æ) _) hmix (tab:=Co _) rfl (Á MS Æ) (Å fun x=>Tl x some)
def Ig:Ñ Tryz.prog 183 zJ:=È (zT _) (fun {_}=>ě (Á jI Æ) _) hmix (tab:=Lv _) rfl (Á Tk (Á Tj Æ)) (Å fun x=>aa0 x some)
def alW:Ñ Tryz.prog 222 aeQ:=È (JN _) (fun {_}=>ě (Á mo Æ) _) hmix (tab:=Lz _) rfl (Á Ts Æ) (Å fun x=>aa4 x some)
def MY:Ñ Tryz.prog 180 L4:=È (ř _) (fun {_}=>ě (Á Ś (Á AA (Á mo (Á Rp (Á sl (Á U5 (Á Ig (Á alW Æ)))))))) _) hmix (tab:=nJ _) rfl (Á xa (Á w8 (Á w9 (Á w7 Æ)))) (Å fun x=>A4 x some)
def Po:∀e∈Jh,Ñ Tryz.prog e.1 e.2:=(Á Ś Æ)
def ac4 {ρ:Type}:∀e∈DH ρ,e.Ok (Ų ρ):=(Á WU (Á WV (Á WT (Á WS (Á WR (Á WQ Æ))))))
def K6 {ρ:Type}:∀e∈qR ρ,e.Ok (Ĝ ρ):=(Á SO (Á SN (Á SM Æ)))
end Go.Proofs.ZzM
end

noncomputable section
namespace Go.Proofs
open Go.RowKit
attribute [local go_sem] Oper.semAt_some
def RF (sel:Nat→Bool) (k:Nat):List Nat:=(List.range k).filter sel
def Et (sel:Nat→Bool) (k:Nat):RF sel (k+1)=if sel k then RF sel k++[k] else RF sel k:=by
 unfold RF;rw[List.range_succ,List.filter_append]
 cases h:sel k<;>simp[h]
def act (sel:Nat→Bool) (k:Nat):(RF sel k).length≤k:=by
 unfold RF;exact Nat.le_trans (List.length_filter_le _ _) (by simp)
def ahD (sel:Nat→Bool) {j k:Nat} (h:j≤k):(RF sel j).length≤(RF sel k).length:=by
 obtain⟨d,rfl⟩:∃d,k=j+d:=⟨k-j,by omega⟩;unfold RF;rw[List.range_add,List.filter_append,List.length_append];omega
def amN {sel:Nat→Bool} {k n:Nat} (h:k<n) (hs:sel k=true):(RF sel k).length<(RF sel n).length:=by
 have h1:=ahD sel (j:=k+1) (k:=n) h;rw[Et,hs] at h1;simp at h1;omega
set_option maxRecDepth 100000 in
set_option maxHeartbeats 1000000 in
def am7 (te:TypeId) (n:Nat) (hn:1≤n) (l bb tb:Nat) (flo fhi us lo co ko:Value) (gb go len cap:Nat) (gbase:Option Addr) (hgb:0<len→gbase=some ⟨gb,go,none⟩)
 (c0 c1 c2 c3 c4 c5 c6 c7:Nat→Int) (sel:Nat→Bool) (hlen:(len:Int)<9223372036854775807) (Nd:World→Prop)
 (W:World) (hb0:W.heap[bb]?=some (.cells #[flo,fhi,.slice gbase len cap,us,lo,co,ko] te (0,0)))
 (hNc:∀W',Nd W'→∀j,j<len→W'.cell? ⟨gb,go+j*8,none⟩=some (.int .i64 (c0 j))∧W'.cell? ⟨gb,go+j*8+1,none⟩=some (.int .i64 (c1 j))∧W'.cell? ⟨gb,go+j*8+2,none⟩=some (.int .i64 (c2 j))∧W'.cell? ⟨gb,go+j*8+3,none⟩=some (.int .i64 (c3 j)) ∧
  W'.cell? ⟨gb,go+j*8+4,none⟩=some (.int .i64 (c4 j))∧W'.cell? ⟨gb,go+j*8+5,none⟩=some (.int .i64 (c5 j))∧W'.cell? ⟨gb,go+j*8+6,none⟩=some (.int .i64 (c6 j))∧W'.cell? ⟨gb,go+j*8+7,none⟩=some (.int .i64 (c7 j)))
 (hNm:∀W',Nd W'→∃mv,∀W'',W'.grownBy W'' none→W''.cell? ⟨tb,0,none⟩=some mv∧∀j,j<len→(Instr.lookup 182 mv (.int .i64 (c0 j)) false).run Tryz.prog W''=.ok (.bool (sel j)) W'')
 (hNs:∀W1 W2,Nd W1→W1.grownBy W2 none→Nd W2) (hN:Nd W)
 (J Jx:List Nat→World→Prop) (hJ:∀pre W W',J pre W→W.grownBy W' none→J pre W') (hJx:∀pre W W',Jx pre W→W.grownBy W' none→Jx pre W')
 (hY:∀pre x W,J pre W→pre.length<(RF sel len).length→YieldAt Fence.wide (n-1) Tryz.prog l #[.agg #[.int .i64 (c0 x),.int .i64 (c1 x),.int .i64 (c2 x),.int .i64 (c3 x),.int .i64 (c4 x),.int .i64 (c5 x),.int .i64 (c6 x),.int .i64 (c7 x)]] W fun e W' =>
  (e=.returned (.bool true)∧J (pre++[x]) W'∧(Nd W→Nd W'))∨(e=.returned (.bool false)∧Jx (pre++[x]) W'))
 (h0 : J [] W) :
  CallsIn Fence.wide n Tryz.prog 212 #[.func (.yield l) #[] #[],.pointer (some ⟨bb,0,none⟩),.pointer (some ⟨tb,0,none⟩)] W fun e W'=>(∃v,e=.returned v) ∧
   ((∃xs,xs=RF sel len∧J xs W')∨(∃pre,True∧Jx pre W')):=by
 have hb3:W.cell? ⟨bb,2,none⟩=some (.slice gbase len cap):=by simp[World.cell?,hb0]
 refine callsIn_of_wp Tryz.func212 rfl trivial ?_ rfl;simp only[Tryz.ntmps212,eT,df,du,Nat.reduceAdd,Nat.reduceSub,Array.replicate_succ,Array.replicate_zero,List.push_toArray,gi,fX,eQ]
 gi_wp2
 gi_loopw [9] (fun i wr=>∃k:Nat,k≤len∧i=.int .i64 k∧J (RF sel k) wr∧Nd wr)
  (fun i _=>len-(intOf i).toNat)
 case atStart=>exact⟨0,ej _,rfl,h0,hN⟩
 case round =>
  obtain⟨k,hk,rfl,hJs,hNw⟩:=hrel
  by_cases hlt:k<len
  ·have hg:=hgb (by omega);subst hg;obtain⟨q0,q1,q2,q3,q4,q5,q6,q7⟩:=hNc _ hNw k hlt;obtain⟨mv,hmv⟩:=hNm _ hNw;have hta:∀o,(wr.alloc o).cell? ⟨tb,0,none⟩=some mv:=fun o=>(hmv _ (World.grownBy_alloc _ o none)).1;have hlk:∀o,(Instr.lookup 182 mv (.int .i64 (c0 k)) false).run Tryz.prog (wr.alloc o)=.ok (.bool (sel k)) (wr.alloc o):=fun o=>(hmv _ (World.grownBy_alloc _ o none)).2 k hlt;have hNa:∀o,Nd (wr.alloc o):=fun o=>hNs _ _ hNw (World.grownBy_alloc _ o none);have hJa:∀o,J (RF sel k) (wr.alloc o):=fun o=>hJ _ _ _ hJs (World.grownBy_alloc _ o none);clear hmv hNm hNc
   cases hsel:sel k with
   |false =>
    rw[hsel] at hlk
    iterate 52 (first|go_values|gi_guarded|gi_step|gi_upon)
    refine⟨fun f hf=>by simp[undef,go_sem] at hf,?_⟩
    gi_wp2
    go_roundw
    case rel=>exact⟨k+1,by omega,by simp,by rw[Et,hsel]; exact hJa _,hNa _⟩
    case measure=>simp[intOf]; omega
   |true =>
    rw[hsel] at hlk
    gi_wp2
    obtain⟨fn,tmps,assign,body,hy,hR⟩:=hY (RF sel k) k (wr.alloc (.cells #[.int .i64 (c0 k),.int .i64 (c1 k),.int .i64 (c2 k),.int .i64 (c3 k),.int .i64 (c4 k),.int .i64 (c5 k),.int .i64 (c6 k),.int .i64 (c7 k)] 108)) (hJa _) (amN hlt hsel);rw[hy];refine⟨fun h=>(by cases h),hR.mono ?_⟩;rintro e W3 (⟨rfl,hJ3,hk3⟩|⟨rfl,hJx3⟩)
    ·gi_wp2
     go_roundw
     case rel=>exact⟨k+1,by omega,by simp,by rw[Et,hsel]; exact hJ3,hk3 (hNa _)⟩
     case measure=>simp[intOf]; omega
    ·gi_wp2
     refine bodyPost_ret (results_none rfl _ _ _) rfl ?_;exact⟨⟨_,rfl⟩,.inr ⟨_,trivial,hJx3⟩⟩
  ·obtain rfl:len=k:=by omega
   gi_wp2
   go_end0
   exact⟨⟨_,rfl⟩,.inl ⟨_,rfl,hJs⟩⟩
end Go.Proofs
end

noncomputable section
namespace Go.Proofs
open Go.RowKit
attribute [local go_sem] Oper.semAt_some
def upE (f:Nat→Int) (k:Nat):List Int:=(List.range k).map f
def qf (f:Nat→Int) (k:Nat):upE f (k+1)=upE f k++[f k]:=by simp[upE,List.range_succ]
def zF (f:Nat→Int) (k:Nat):(upE f k).length=k:=by simp[upE]
def M7 (f:Nat→Int) {j k:Nat} (h:j≤k):upE f j <+: upE f k:=by
 have:k=j+(k-j):=by omega
 rw[this,upE,upE,List.range_add,gP];exact eA _ _
set_option maxRecDepth 100000 in
set_option maxHeartbeats 1000000 in
def akW (te:TypeId) (n:Nat) (hn:1≤n) (l n₀ bb tb sb:Nat) (flo fhi ga mv:Value) (hbb:bb<n₀) (htb:tb<n₀) (hsb:sb<n₀)
 (ub uo ul uc kb ko kl kc:Nat) (ubase kbase lbase cbase:Option Addr) (ll lc cl cc:Nat) (hub:0<ul→ubase=some ⟨ub,uo,none⟩∧ub<n₀) (hkb:0<kl→kbase=some ⟨kb,ko,none⟩∧kb<n₀)
 (U K:Nat→Int×Int) (eU eL eC eK:Nat→Int)
 (hul:ul≤1000) (hll:ll≤1000) (hcl:cl≤1000) (hkl:kl≤1000)
 (W:World) (hb0:W.heap[bb]?=some (.cells #[flo,fhi,ga,.slice ubase ul uc,.slice lbase ll lc,.slice cbase cl cc,.slice kbase kl kc] te (0,0)))
 (ht:W.cell? ⟨tb,0,none⟩=some (.func (.func 175) #[] #[.pointer (some ⟨sb,0,none⟩)])) (hs:W.cell? ⟨sb,0,none⟩=some mv)
 (hU:∀j,j<ul→W.cell? ⟨ub,uo+j*2,none⟩=some (.int .i64 (U j).1)∧W.cell? ⟨ub,uo+j*2+1,none⟩=some (.int .i64 (U j).2))
 (hK:∀j,j<kl→W.cell? ⟨kb,ko+j*2,none⟩=some (.int .i64 (K j).1)∧W.cell? ⟨kb,ko+j*2+1,none⟩=some (.int .i64 (K j).2))
 (cU:∀j,j<ul→∀W',Below n₀ W W'→CallsIn Fence.wide (n-1) Tryz.prog 175 #[.int .i64 (U j).1,.int .i64 (U j).2,.pointer (some ⟨sb,0,none⟩)] W' fun e W''=>e=.returned (.int .i64 (eU j))∧W'.grownBy W'' none)
 (cK:∀j,j<kl→∀W',Below n₀ W W'→CallsIn Fence.wide (n-1) Tryz.prog 175 #[.int .i64 (K j).1,.int .i64 (K j).2,.pointer (some ⟨sb,0,none⟩)] W' fun e W''=>e=.returned (.int .i64 (eK j))∧W'.grownBy W'' none)
 (cL:∀j,j<ll→∀W',Below n₀ W W'→CallsIn Fence.wide (n-1) Tryz.prog 179 #[.agg #[flo,fhi,ga,.slice ubase ul uc,.slice lbase ll lc,.slice cbase cl cc,.slice kbase kl kc],mv,.int .i64 j] W' fun e W''=>e=.returned (.int .i64 (eL j))∧W'.grownBy W'' none)
 (cC:∀j,j<cl→∀W',Below n₀ W W'→CallsIn Fence.wide (n-1) Tryz.prog 180 #[.agg #[flo,fhi,ga,.slice ubase ul uc,.slice lbase ll lc,.slice cbase cl cc,.slice kbase kl kc],mv,.int .i64 j] W' fun e W''=>e=.returned (.int .i64 (eC j))∧W'.grownBy W'' none)
 (J Jx:List Int→World→Prop) (hJ:∀pre W W',J pre W→W.grownBy W' none→J pre W') (hJx:∀pre W W',Jx pre W→W.grownBy W' none→Jx pre W')
 (hY:∀pre x W,J pre W→pre.length<ul+(ll+(cl+kl))→YieldAt Fence.wide (n-1) Tryz.prog l #[.int .i64 x] W fun e W' =>
  (e=.returned (.bool true)∧J (pre++[x]) W'∧Below n₀ W W')∨(e=.returned (.bool false)∧Jx (pre++[x]) W'))
 (h0 : J [] W) (hn₀ : n₀ ≤ W.heap.size) :
  CallsIn Fence.wide n Tryz.prog 178 #[.func (.yield l) #[] #[],.pointer (some ⟨bb,0,none⟩),.pointer (some ⟨tb,0,none⟩),.pointer (some ⟨sb,0,none⟩)] W fun e W'=>(∃v,e=.returned v) ∧
   ((∃xs,xs=upE eU ul++(upE eL ll++(upE eC cl++upE eK kl))∧J xs W')∨(∃pre,(pre <+: upE eU ul++(upE eL ll++(upE eC cl++upE eK kl)))∧Jx pre W')):=by
 have grown_alloc:∀(X:World) (o:Obj),X.grownBy (X.alloc o) none:=fun X o=>World.grownBy_alloc X o none
 have bel:∀{X Y:World},Below n₀ W X→X.grownBy Y none→Below n₀ W Y:=fun {X Y} h g =>
  ⟨g.os.trans h.os,g.tape.trans h.tape,g.output.trans h.output,dA h.size g.size,fun k hk=>(g.block k (dv (dv hk hn₀) h.size) (by simp)).trans (h.block k hk)⟩
 have hc:∀{X:World},Below n₀ W X→X.heap[bb]?=some (.cells #[flo,fhi,ga,.slice ubase ul uc,.slice lbase ll lc,.slice cbase cl cc,.slice kbase kl kc] te (0,0)):=fun h=>(h.block bb hbb).trans hb0;refine callsIn_of_wp Tryz.func178 rfl trivial ?_ rfl;simp only[Tryz.ntmps178,eT,df,du,Nat.reduceAdd,Nat.reduceSub,Array.replicate_succ,Array.replicate_zero,List.push_toArray,gi,fX,eQ]
 have hb3:W.cell? ⟨bb,3,none⟩=some (.slice ubase ul uc):=by simp[World.cell?,hb0]
 gi_wp2
 gi_loopw [14] (fun i wr=>∃k:Nat,k≤ul∧i=.int .i64 k∧J (upE eU k) wr∧Below n₀ W wr)
  (fun i _=>ul-(intOf i).toNat)
 case atStart=>exact⟨0,ej _,rfl,h0,Below.refl _ _⟩
 case round =>
  obtain⟨k,hk,rfl,hJs,hnx⟩:=hrel
  by_cases hlt:k<ul
  ·obtain⟨rfl,hlu⟩:=hub (by omega);have hu1:=(hnx.cell (p:=⟨ub,uo+k*2,none⟩) hlu).trans (hU k hlt).1;have hu2:=(hnx.cell (p:=⟨ub,uo+k*2+1,none⟩) hlu).trans (hU k hlt).2;have ht':=(hnx.cell (p:=⟨tb,0,none⟩) htb).trans ht;have hta:∀o,(wr.alloc o).cell? ⟨tb,0,none⟩=some (.func (.func 175) #[] #[.pointer (some ⟨sb,0,none⟩)]):=fun o=>Lib.cell?_alloc_some _ ht'
   gi_wp2
   refine⟨trivial,(cU k hlt _ (bel hnx (grown_alloc _ _))).mono ?_⟩;rintro e W2 ⟨rfl,hg2⟩;obtain⟨fn,tmps,assign,body,hy,hR⟩:=hY _ (eU k) W2 (hJ _ _ _ (hJ _ _ _ hJs (grown_alloc _ _)) hg2) (by rw[zF]; omega);have hb2:=bel (bel hnx (grown_alloc _ _)) hg2
   gi_wp2
   refine hR.mono ?_;rintro e W3 (⟨rfl,hJ3,hk3⟩|⟨rfl,hJx3⟩)
   ·gi_wp2
    go_roundw
    case rel=>exact⟨k+1,by omega,by simp,by rw[qf]; exact hJ3,hb2.trans hk3⟩
    case measure=>simp[intOf]; omega
   ·gi_wp2
    refine bodyPost_ret (results_none rfl _ _ _) rfl ?_;refine⟨⟨_,rfl⟩,.inr ⟨_,?_,hJx3⟩⟩;rw[←qf];exact(M7 eU (by omega)).trans (eA _ _)
  ·obtain rfl:ul=k:=by omega
   have hb4:wr.cell? ⟨bb,4,none⟩=some (.slice lbase ll lc):=by simp[World.cell?,hc hnx]
   gi_wp2
   gi_loopw [31] (fun i wr=>∃k:Nat,k≤ll∧i=.int .i64 k∧J (upE eU ul++upE eL k) wr∧Below n₀ W wr)
    (fun i _=>ll-(intOf i).toNat)
   case atStart=>exact⟨0,ej _,rfl,by simpa[upE] using hJs,hnx⟩
   case round =>
    clear hJs hnx;obtain⟨k,hk,rfl,hJs,hnx⟩:=hrel
    by_cases hlt:k<ll
    ·have q0:wr.cell? ⟨bb,0,none⟩=some flo:=by simp[World.cell?,hc hnx]
     have q1:wr.cell? ⟨bb,1,none⟩=some fhi:=by simp[World.cell?,hc hnx]
     have q2:wr.cell? ⟨bb,2,none⟩=some ga:=by simp[World.cell?,hc hnx]
     have q3:wr.cell? ⟨bb,3,none⟩=some (.slice ubase ul uc):=by simp[World.cell?,hc hnx]
     have q4:wr.cell? ⟨bb,4,none⟩=some (.slice lbase ll lc):=by simp[World.cell?,hc hnx]
     have q5:wr.cell? ⟨bb,5,none⟩=some (.slice cbase cl cc):=by simp[World.cell?,hc hnx]
     have q6:wr.cell? ⟨bb,6,none⟩=some (.slice kbase kl kc):=by simp[World.cell?,hc hnx]
     have hs':=(hnx.cell (p:=⟨sb,0,none⟩) hsb).trans hs
     gi_wp2
     refine⟨trivial,(cL k hlt _ hnx).mono ?_⟩;rintro e W2 ⟨rfl,hg2⟩;obtain⟨fn,tmps,assign,body,hy,hR⟩:=hY _ (eL k) W2 (hJ _ _ _ hJs hg2) (by simp only[cW,zF]; omega);have hb2:=bel hnx hg2
     gi_wp2
     refine hR.mono ?_;rintro e W3 (⟨rfl,hJ3,hk3⟩|⟨rfl,hJx3⟩)
     ·gi_wp2
      go_roundw
      case rel=>exact⟨k+1,by omega,by simp,by rw[qf,←dn]; exact hJ3,hb2.trans hk3⟩
      case measure=>simp[intOf]; omega
     ·gi_wp2
      refine bodyPost_ret (results_none rfl _ _ _) rfl ?_;refine⟨⟨_,rfl⟩,.inr ⟨_,?_,hJx3⟩⟩;rw[dn,←qf];exact(eP _).2 ((M7 eL (by omega)).trans (eA _ _))
    ·obtain rfl:ll=k:=by omega
     have hb5:wr.cell? ⟨bb,5,none⟩=some (.slice cbase cl cc):=by simp[World.cell?,hc hnx]
     gi_wp2
     gi_loopw [45] (fun i wr=>∃k:Nat,k≤cl∧i=.int .i64 k∧J (upE eU ul++upE eL ll++upE eC k) wr∧Below n₀ W wr)
      (fun i _=>cl-(intOf i).toNat)
     case atStart=>exact⟨0,ej _,rfl,by simpa[upE] using hJs,hnx⟩
     case round =>
      clear hJs hnx;obtain⟨k,hk,rfl,hJs,hnx⟩:=hrel
      by_cases hlt:k<cl
      ·have q0:wr.cell? ⟨bb,0,none⟩=some flo:=by simp[World.cell?,hc hnx]
       have q1:wr.cell? ⟨bb,1,none⟩=some fhi:=by simp[World.cell?,hc hnx]
       have q2:wr.cell? ⟨bb,2,none⟩=some ga:=by simp[World.cell?,hc hnx]
       have q3:wr.cell? ⟨bb,3,none⟩=some (.slice ubase ul uc):=by simp[World.cell?,hc hnx]
       have q4:wr.cell? ⟨bb,4,none⟩=some (.slice lbase ll lc):=by simp[World.cell?,hc hnx]
       have q5:wr.cell? ⟨bb,5,none⟩=some (.slice cbase cl cc):=by simp[World.cell?,hc hnx]
       have q6:wr.cell? ⟨bb,6,none⟩=some (.slice kbase kl kc):=by simp[World.cell?,hc hnx]
       have hs':=(hnx.cell (p:=⟨sb,0,none⟩) hsb).trans hs
       gi_wp2
       refine⟨trivial,(cC k hlt _ hnx).mono ?_⟩;rintro e W2 ⟨rfl,hg2⟩;obtain⟨fn,tmps,assign,body,hy,hR⟩:=hY _ (eC k) W2 (hJ _ _ _ hJs hg2) (by simp only[cW,zF]; omega);have hb2:=bel hnx hg2
       gi_wp2
       refine hR.mono ?_;rintro e W3 (⟨rfl,hJ3,hk3⟩|⟨rfl,hJx3⟩)
       ·gi_wp2
        go_roundw
        case rel=>exact⟨k+1,by omega,by simp,by rw[qf,←dn]; exact hJ3,hb2.trans hk3⟩
        case measure=>simp[intOf]; omega
       ·gi_wp2
        refine bodyPost_ret (results_none rfl _ _ _) rfl ?_;refine⟨⟨_,rfl⟩,.inr ⟨_,?_,hJx3⟩⟩;rw[dn,←qf]
        exact by rw[dn]; exact(eP _).2 ((eP _).2 ((M7 eC (by omega)).trans (eA _ _)))
      ·obtain rfl:cl=k:=by omega
       have hb6:wr.cell? ⟨bb,6,none⟩=some (.slice kbase kl kc):=by simp[World.cell?,hc hnx]
       gi_wp2
       gi_loopw [59] (fun i wr=>∃k:Nat,k≤kl∧i=.int .i64 k∧J ((upE eU ul++upE eL ll++upE eC cl)++upE eK k) wr∧Below n₀ W wr)
        (fun i _=>kl-(intOf i).toNat)
       case atStart=>exact⟨0,ej _,rfl,by simpa[upE] using hJs,hnx⟩
       case round =>
        clear hJs hnx;obtain⟨k,hk,rfl,hJs,hnx⟩:=hrel
        by_cases hlt:k<kl
        ·obtain⟨rfl,hlk⟩:=hkb (by omega);have hu1:=(hnx.cell (p:=⟨kb,ko+k*2,none⟩) hlk).trans (hK k hlt).1;have hu2:=(hnx.cell (p:=⟨kb,ko+k*2+1,none⟩) hlk).trans (hK k hlt).2;have ht':=(hnx.cell (p:=⟨tb,0,none⟩) htb).trans ht;have hta:∀o,(wr.alloc o).cell? ⟨tb,0,none⟩=some (.func (.func 175) #[] #[.pointer (some ⟨sb,0,none⟩)]):=fun o=>Lib.cell?_alloc_some _ ht'
         gi_wp2
         refine⟨trivial,(cK k hlt _ (bel hnx (grown_alloc _ _))).mono ?_⟩;rintro e W2 ⟨rfl,hg2⟩;obtain⟨fn,tmps,assign,body,hy,hR⟩:=hY _ (eK k) W2 (hJ _ _ _ (hJ _ _ _ hJs (grown_alloc _ _)) hg2) (by simp only[cW,zF]; omega);have hb2:=bel (bel hnx (grown_alloc _ _)) hg2
         gi_wp2
         refine hR.mono ?_;rintro e W3 (⟨rfl,hJ3,hk3⟩|⟨rfl,hJx3⟩)
         ·gi_wp2
          go_roundw
          case rel=>exact⟨k+1,by omega,by simp,by rw[qf,←dn]; exact hJ3,hb2.trans hk3⟩
          case measure=>simp[intOf]; omega
         ·gi_wp2
          refine bodyPost_ret (results_none rfl _ _ _) rfl ?_;refine⟨⟨_,rfl⟩,.inr ⟨_,?_,hJx3⟩⟩;rw[dn,←qf,dn,dn];exact(eP _).2 ((eP _).2 ((eP _).2 (M7 eK (by omega))))
        ·obtain rfl:kl=k:=by omega
         gi_wp2
         go_end0
         exact⟨⟨_,rfl⟩,.inl ⟨_,rfl,by simpa[dn] using hJs⟩⟩
end Go.Proofs
end

noncomputable section
set_option maxRecDepth 100000
namespace Go.Proofs.ZzM
open Go Go.Am Go.RowKit
def aeD (p:String):Code:=.region 10 #[{dst:=some 5,op:=.assign (.tmp 49),type:=35,pos:=p,after:=#[],guard:=none}] false
def ami (q r:String):Code:=.block 1 (.seq (.region 11 #[{dst:=some 50,op:=.move (.tmp 5),type:=35,pos:=q,after:=#[],guard:=none},{dst:=some 51,op:=.binOp .neq 35 (.tmp 50) (.const (.int .i64 0)) 35,type:=4,pos:=q,after:=#[{on:=0,ground:=.data}],guard:=none}] false)
 (.cond (.tmp 51) (.seq (.region 12 #[{dst:=some 52,op:=.move (.tmp 5),type:=35,pos:=r,after:=#[],guard:=none},{dst:=none,op:=.store 35 (.tmp 2) (.tmp 52),type:=0,pos:=r,after:=#[{on:=0,ground:=.data},{on:=0,ground:=.phase}],guard:=none}] false) .ret) .skip))
section
variable {P:Program} {F:Fence} {n:Nat}
def ER {ops:Array Oper} {i d:Nat} {o:Oper} {u:Value} {w w':World} {a:Act} {next:Act→World→Prop} {Q:Exit→Act→World→Prop} (hF:∀f,F.fn f) (ho:ops[i]?=some o) (hg:o.guard=none) (hd:o.dst=some d) (hdf:∀c,o.op≠.defer c)
 (hrun:(execOp a.eval o).run P w=.ok (.value u) w') (k:next (a.put (some d) u) w'):wpOpIn F n P ops Q i next a w:=by
 unfold wpOpIn;rw[ho]
 have hw:Region.wanted o (yielded ops a.tmps)=true:=by simp[Region.wanted,hg]
 simp only[hw,if_true];refine⟨fun _ _=>hF _,?_⟩;rw[Oper.semAt_eq _ _ _ hdf,hrun];rw[←hd] at k;exact k
def af6 {ops:Array Oper} {i:Nat} {o:Oper} {w w':World} {a:Act} {next:Act→World→Prop} {Q:Exit→Act→World→Prop} (hF:∀f,F.fn f) (ho:ops[i]?=some o) (hg:o.guard=none) (hd:o.dst=none) (hdf:∀c,o.op≠.defer c)
 (hrun:(execOp a.eval o).run P w=.ok .skip w') (k:next a w'):wpOpIn F n P ops Q i next a w:=by
 unfold wpOpIn;rw[ho]
 have hw:Region.wanted o (yielded ops a.tmps)=true:=by simp[Region.wanted,hg]
 simp only[hw,if_true];refine⟨fun _ _=>hF _,?_⟩;rw[Oper.semAt_eq _ _ _ hdf,hrun];show next (a.put o.dst undef) w';rw[hd];exact k
end
def jA (T:Array Value) (i j:Nat) (v:Value):(T.setIfInBounds i v).getD j undef=if i=j∧i<T.size then v else T.getD j undef:=by
 simp only[dP,fh]
 by_cases h:i=j
 ·subst h
  by_cases h2:i<T.size
  ·simp[h2]
  ·simp[h2]
 ·simp[h]
def aeX (D:Nat):Deferred:={target:=.collected D,args:=#[]}
structure Put1 (n₀ rb:Nat) (x:Int) (w W:World):Prop where
 os:W.os=w.os
 tape:W.tape=w.tape
 output:W.output=w.output
 size:w.heap.size≤W.heap.size
 block:∀k,k<n₀→k≠rb→W.heap[k]?=w.heap[k]?
 cell:∃e,W.heap[rb]?=some (.cells #[.int .i64 x] e (0,0))
set_option maxHeartbeats 4000000 in
def amP {a:Act} {w:World} {Q:Exit→Act→World→Prop} {lb:Array Value} {L:List Int} {rb:Nat} {e0:TypeId} {v0:Value} {p q r:String}
 (hseq:SeqStopsK Fence.wide 1 Tryz.prog 178 lb (fun x:Int=>#[.int .i64 x]) (Below w.heap.size) (fun xs=>xs=L) (fun pre=>pre <+: L) L.length w)
 (hg:a.tmps.getD 48 undef=.func (.func 178) #[] lb) (h2:a.tmps.getD 2 undef=.pointer (some ⟨rb,0,none⟩)) (hsz:78≤a.tmps.size)
 (hrb:w.heap[rb]?=some (.cells #[v0] e0 (0,0)))
 (hdone:∀D W,(∀x∈L,x=0)→Below w.heap.size w W→w.heap.size≤D→W.heap[D]?=some (.deferred (some []))→Q .normal {a with defers:=aeX D::a.defers} W)
 (hstop:∀D W x,L.find? (fun e=>e != 0)=some x→Put1 w.heap.size rb x w W→w.heap.size≤D→W.heap[D]?=some (.deferred (some []))→Q .ret {a with defers:=aeX D::a.defers} W) :
 (Code.rangeFunc (.tmp 48) #[49] (aeD p) (ami q r)).wpIn Fence.wide 2 Tryz.prog Q a w:=by
 have hT:∀f,Fence.wide.fn f:=fun _=>trivial;have hrl:=Ė hrb
 refine wpIn_rangeFunc_ownF (α:=Int) (encs:=fun x=>#[.int .i64 x]) (Kp:=Below w.heap.size) (S:=fun xs=>xs=L) (Sp:=fun pre=>pre <+: L) (N:=L.length) (w0:=w) rfl (by omega) hg trivial (fun args w=>?eg) hseq
  (fun h k=>h.trans k) (fun W l o o' hl ho hc hw=>belowK_b (cQ _) W l o o' hl ho hc hw) (Below.refl _ _) (fun _=>rfl)
  (fun pre W=>(∀x∈pre,x=0)∧Below w.heap.size w W)
  (fun c pre W=>c=.ret∧∃pre' x,pre=pre'++[x]∧(∀x∈pre',x=0)∧x≠0∧Put1 w.heap.size rb x w W)
  ?hI ?hIx ⟨by simp,Below.refl _ _⟩ (fun x=>{tmps:=(a.tmps.setIfInBounds 49 (.int .i64 x)).setIfInBounds 5 (.int .i64 x),defers:=[]}) ?hassign ?hbody ?hdone ?hstop
 case eg=>simp[callFunc,Sem.run_bind,run_program,Result.andThen_ok,Tryz.func178,plain 178 _ Tryz.func178,show Tryz.f178.body.isNone=false from rfl]; rfl
 case hI =>
  intro s W W' row ⟨h1,h2⟩ hgr hr;exact⟨h1,hgr.os.trans h2.os,hgr.tape.trans h2.tape,hgr.output.trans h2.output,dA h2.size hgr.size,fun k hk=>(hgr.block k (dv hk h2.size) (fun e=>by have:=(hr k e.symm).1; omega)).trans (h2.block k hk)⟩
 case hIx =>
  intro c s W W' row ⟨h1,pre',x,h3,h4,h5,h6⟩ hgr hr;have hb:∀k,k<w.heap.size→W'.heap[k]?=W.heap[k]?:=fun k hk=>hgr.block k (dv hk h6.size) (fun e=>by have:=(hr k e.symm).1; omega)
  exact⟨h1,pre',x,h3,h4,h5,hgr.os.trans h6.os,hgr.tape.trans h6.tape,hgr.output.trans h6.output,dA h6.size hgr.size,fun k hk hne=>(hb k hk).trans (h6.block k hk hne),by
   obtain⟨e,he⟩:=h6.cell
   exact⟨e,(hb rb hrl).trans he⟩⟩
 case hassign =>
  intro l x W K hK
  have hf:((#[49]:Array Tmp).zip #[Value.int .i64 x]).foldl (fun t (p,v)=>t.setIfInBounds p v) a.tmps=a.tmps.setIfInBounds 49 (.int .i64 x):=by simp
  rw[hf];refine wpIn_region ?_;rw[show ∀o:Oper,List.range (#[o]:Array Oper).size=[0] from fun _=>rfl,wpOpsIn_cons];refine ER (d:=5) (u:=.int .i64 x) (w':=W) hT rfl rfl rfl (by simp) ?_ hK;show Result.ok (Next.value ((a.tmps.setIfInBounds 49 (.int .i64 x)).getD 49 undef)) W=_;rw[jA,if_pos ⟨rfl,by omega⟩]
 case hbody =>
  intro l pre x W ⟨h1,hbel⟩ hpre;refine wpIn_block (wpIn_seq (wpIn_region ?_));rw[show ∀o p:Oper,List.range (#[o,p]:Array Oper).size=[0,1] from fun _ _=>rfl,wpOpsIn_cons]
  refine ER (d:=50) (u:=.int .i64 x) (w':=W) hT rfl rfl rfl (by simp) (by
   show Result.ok (Next.value (((a.tmps.setIfInBounds 49 (.int .i64 x)).setIfInBounds 5 (.int .i64 x)).getD 5 undef)) W=_
   rw[jA,if_pos ⟨rfl,by simp; omega⟩]) ?_
  rw[wpOpsIn_cons]
  refine ER (d:=51) (u:=.bool (x != 0)) (w':=W) hT rfl rfl rfl (by simp) (by
   show((do let u ←(do eqGuard .neq 35 (.tmp 50) (.const (.int .i64 0)) ((((a.tmps.setIfInBounds 49 (.int .i64 x)).setIfInBounds 5 (.int .i64 x)).setIfInBounds 50 (.int .i64 x)).getD 50 undef) (.int .i64 0); binOp .neq 35 ((((a.tmps.setIfInBounds 49 (.int .i64 x)).setIfInBounds 5 (.int .i64 x)).setIfInBounds 50 (.int .i64 x)).getD 50 undef) (.int .i64 0)); pure (.value u)):Sem Next).run Tryz.prog W=_;rw[jA,if_pos ⟨rfl,by simp; omega⟩]
   simp[eqGuard,binOp,Op.intCmp]) ?_
  show Code.wpIn (Fence.wide.inRound l) (2-1-1) Tryz.prog (Code.cond (.tmp 51) _ .skip) _ {tmps:=((((a.tmps.setIfInBounds 49 (.int .i64 x)).setIfInBounds 5 (.int .i64 x)).setIfInBounds 50 (.int .i64 x)).setIfInBounds 51 (.bool (x != 0))),defers:=[]} W;obtain⟨T,hTd⟩:∃T,T=((((a.tmps.setIfInBounds 49 (.int .i64 x)).setIfInBounds 5 (.int .i64 x)).setIfInBounds 50 (.int .i64 x)).setIfInBounds 51 (.bool (x != 0))):=⟨_,rfl⟩;rw[←hTd]
  have t51:T.getD 51 undef=.bool (x != 0):=by rw[hTd,jA,if_pos ⟨rfl,by simp; omega⟩]
  have t5:T.getD 5 undef=.int .i64 x:=by rw[hTd,jA,if_neg (by simp),jA,if_neg (by simp),jA,if_pos ⟨rfl,by simp; omega⟩]
  have t2:T.getD 2 undef=.pointer (some ⟨rb,0,none⟩):=by rw[hTd,jA,if_neg (by simp),jA,if_neg (by simp),jA,if_neg (by simp),jA,if_neg (by simp),h2]
  have tsz:78≤T.size:=by rw[hTd]; simpa using hsz
  clear hTd
  by_cases hx:x=0
  ·have e51:Act.eval {tmps:=T,defers:=[]} (.tmp 51)=.bool false:=t51.trans (by simp[hx]);refine wpIn_cond_false e51 (wpIn_skip ?_);simp only[Exit.inBlock,ownPostK];exact⟨KeepsOthers.refl _,Below.refl _ _,fun y hy=>(cY.1 hy).elim (h1 y) (fun h=>by rw[dg] at h; rw[h,hx]),hbel⟩
  ·have e51:Act.eval {tmps:=T,defers:=[]} (.tmp 51)=.bool true:=t51.trans (by simp[hx]);refine wpIn_cond_true e51 (wpIn_seq (wpIn_region ?_));rw[show ∀o p:Oper,List.range (#[o,p]:Array Oper).size=[0,1] from fun _ _=>rfl,wpOpsIn_cons]
   have e5:(execOp (Act.eval {tmps:=T,defers:=[]}) {dst:=some 52,op:=.move (.tmp 5),type:=35,pos:=r,after:=#[],guard:=none}).run Tryz.prog W=.ok (.value (.int .i64 x)) W:=by
    show Result.ok (Next.value (T.getD 5 undef)) W=_;rw[t5]
   refine ER (d:=52) (u:=.int .i64 x) (w':=W) hT rfl rfl rfl (by simp) e5 ?_;rw[wpOpsIn_cons];have hW:W.heap[rb]?=some (.cells #[v0] e0 (0,0)):=(hbel.block rb hrl).trans hrb
   letI:ù:=⟨fun _=>False,[],none⟩
   have hst:=qj (P:=Tryz.prog) (w:=W) (t:=35) (u:=.int .i64 x) (n:=1) (b:=rb) (o:=0) (by kernel_rfl) rfl hW (by simp) (by simp[Value.cells,Value.oneCell'])
   have hst':(storeVar 35 ⟨rb,0,none⟩ (.int .i64 x)).run Tryz.prog W=.ok () (W.setRow rb #[.int .i64 x]):=by simpa[Value.cells] using hst
   have t52:(T.setIfInBounds 52 (.int .i64 x)).getD 52 undef=.int .i64 x:=by rw[jA,if_pos ⟨rfl,by omega⟩]
   have t2':(T.setIfInBounds 52 (.int .i64 x)).getD 2 undef=.pointer (some ⟨rb,0,none⟩):=by rw[jA,if_neg (by simp),t2]
   have e6:(execOp (Act.eval {tmps:=T.setIfInBounds 52 (.int .i64 x),defers:=[]}) {dst:=none,op:=.store 35 (.tmp 2) (.tmp 52),type:=0,pos:=r,after:=#[{on:=0,ground:=.data},{on:=0,ground:=.phase}],guard:=none}).run Tryz.prog W=.ok .skip (W.setRow rb #[.int .i64 x]):=by
    show((do Instr.storeAt 35 ((T.setIfInBounds 52 (.int .i64 x)).getD 2 undef) ((T.setIfInBounds 52 (.int .i64 x)).getD 52 undef); pure .skip):Sem Next).run Tryz.prog W=_;rw[t52,t2'];simp[Instr.storeAt,Instr.sureAddr,hst']
   refine af6 (w':=W.setRow rb #[.int .i64 x]) hT rfl rfl rfl (by simp) e6 ?_;refine wpIn_ret ?_;simp only[Exit.inBlock,ownPostK];refine⟨⟨by simp,fun k o hk ho=>?_⟩,trivial,pre,x,rfl,h1,hx,hbel.os,hbel.tape,hbel.output,by simpa using hbel.size,fun k hk hne=>(setRow_other _ _ _ _ hne).trans (hbel.block k hk),⟨_,setRow_heap _ _ _ _ _ _ hW⟩⟩
   by_cases hk2:k=rb
   ·subst hk2; rw[hW] at hk; cases hk; simp[Obj.isCells] at ho
   ·rw[setRow_other _ _ _ _ hk2]; exact hk
 case hdone =>
  intro D xs W hD hS ⟨h1,hbel⟩ hDo;subst hS;exact hdone D W h1 hbel hD hDo
 case hstop =>
  intro D c pre W hD hS ⟨hc,pre',x,h3,h4,h5,h6⟩ hDo;subst hc;refine wpIn_ret (hstop D W x ?_ h6 hD hDo);obtain⟨t,rfl⟩:=hS;rw[h3,dn,List.find?_append]
  have:List.find? (fun e=>e != 0) pre'=none:=eD.2 fun y hy=>by simp[h4 y hy]
  rw[this];simp[h5]
end Go.Proofs.ZzM
end

noncomputable section
set_option maxRecDepth 100000
namespace Go.Proofs.ZzM
open Go Go.Am Go.RowKit
def fstC:Code→Code
 |.seq a _=>a
 |c=>c
def sndC:Code→Code
 |.seq _ b=>b
 |c=>c
def aia:Nat→Code→Code
 |0,c=>fstC c
 |n+1,c=>aia n (sndC c)
def alv:Nat→Code→Code
 |0,c=>c
 |n+1,c=>alv n (sndC c)
def ckB:Code:=Tryz.f43.body.getD .skip
def ckA5:Code:=fstC (alv 5 ckB |> fstC)
def ckRF:Code:=sndC (alv 5 ckB |> fstC)
def U4:Code:=sndC (alv 5 ckB)
def ckPre:Code:=.seq (aia 0 ckB) (.seq (aia 1 ckB) (.seq (aia 2 ckB) (.seq (aia 3 ckB) (.seq (aia 4 ckB) ckA5))))
def amA:Tryz.f43.body=some (.seq (aia 0 ckB) (.seq (aia 1 ckB) (.seq (aia 2 ckB) (.seq (aia 3 ckB) (.seq (aia 4 ckB) (.seq (.seq ckA5 ckRF) U4)))))):=by kernel_rfl
def ck_pt:List (Nat×Û):=[(113,EP),(111,CW),(109,sJ),(110,xt)]
def ckE (ρ:Type):Env ρ:=Ý ck_pt []
abbrev ckR:Type:=Int ⊕ (List AV×List Blk)
def ajp (S:St):Option Int:=match oP Tryz.prog Tryz.f43 S with
 |some v=>Đ [tI] S.h v
 |none=>none
def ckK (e:Exit) (S:St):Option ckR:=match e with
 |.ret=>match ajp S with
  |some n=>some (.inl n)
  |none=>none
 |.normal=>match decide (78≤S.t.length) with
  |true=>some (.inr ([lk S.t 1,lk S.t 2,lk S.t 48],S.h))
  |false=>none
 |_=>none
def ckH (x:Val Ä) (s:Val (.map tI Ð)) (n:Int):List Blk :=
 [.cells (flat Ä x),.cells [.int .i64 n],.cells (flat Ä x),.cells [.mp tI Ð s],.cells [.fn (.func 175) [] [.box 3 0]]]
def ckM (x:Val Ä):Option ckR :=
 Â (Μ x.1 (0:Int) (1000000:Int)) fun r1=>ifb (!r1) (some (.inl 1)) (ifb (igt (Õ x.2.1) (12:Int)) (some (.inl 2)) (ifb (igt (Õ x.2.2.1) (40:Int)) (some (.inl 2)) (ifb (igt (Õ x.2.2.2.1) (12:Int)) (some (.inl 2)) (ifb (igt (Õ x.2.2.2.2.1) (40:Int)) (some (.inl 2)) (ifb (igt (Õ x.2.2.2.2.2) (10:Int)) (some (.inl 2))
  (Â (ŵ x) fun r2=>ifb (ine r2 (0:Int)) (some (.inl r2)) (Â (θ x) fun r3=>some (.inr ([.box 0 0,.box 1 0,.fn (.func 178) [] [.box 2 0,.box 4 0,.box 3 0]],ckH x r3 0)))))))))
def ck_pre (x:Val Ä):goC (ckE ckR) (jW (ckE ckR) 10) 43 [] 0 0 ckPre {t:=ĉ [Ä] x++List.replicate 77 .any,h:=[]} ckK=ckM x:=by kernel_rfl
def alJ (ρ:Type):Env ρ:={ckE ρ with inl:=fun _=>false}
def ckS (x:Val Ä):Option Int :=
 Â (pS x) fun r5=>ifb (igt (Õ r5) (59:Int)) (some (2:Int)) (ck ((2:Int)*(Õ x.2.1)) fun n6=>ck ((Õ r5)-(Õ x.2.1)) fun n7=>ck ((2:Int)*n7) fun n8=>ck (n6+n8) fun n9=>ck ((2:Int)*(Õ x.2.2.2.2.1)) fun n10=>ck (n9+n10) fun n11=>ifb (igt n11 (300:Int)) (some (2:Int)) (some (0:Int)))
def ckK2 (e:Exit) (S:St):Option Int:=match e with
 |.ret=>match lk S.t 2 with
  |.box 1 0=>match lkB S.h 1 with
   |.cells [.int .i64 n]=>some n
   |_=>none
  |_=>none
 |_=>none
def ck_suf (x:Val Ä) (s:Val (.map tI Ð)):goC (alJ Int) (jW (alJ Int) 10) 43 [] 0 0 U4 {t:=[.any,.box 0 0,.box 1 0]++List.replicate 75 .any,h:=ckH x s 0} ckK2=ckS x:=by kernel_rfl
def alI (x:Val Ä):ó x=match ckM x with
 |none=>none
 |some (.inl n)=>some n
 |some (.inr _)=>Â (θ x) fun s=>Za (nc x s) some (ckS x):=by
 unfold ó Qt ckM ckS
 cases Μ x.1 (0:Int) (1000000:Int) with
 |none=>rfl
 |some r1 =>
 cases r1 with
 |false=>rfl
 |true =>
 simp only[Â,ifb,dN]
 cases igt (Õ x.2.1) (12:Int) with
 |true=>rfl
 |false =>
 cases igt (Õ x.2.2.1) (40:Int) with
 |true=>rfl
 |false =>
 cases igt (Õ x.2.2.2.1) (12:Int) with
 |true=>rfl
 |false =>
 cases igt (Õ x.2.2.2.2.1) (40:Int) with
 |true=>rfl
 |false =>
 cases igt (Õ x.2.2.2.2.2) (10:Int) with
 |true=>rfl
 |false =>
 cases ŵ x with
 |none=>rfl
 |some r2 =>
 simp only
 cases ine r2 (0:Int) with
 |true=>rfl
 |false =>
 cases θ x with
 |none=>rfl
 |some r3=>rfl
def ant {x:Val Ä} {q:List AV×List Blk} (h:ckM x=some (.inr q)):((x.2.2.1:List (Val Ã)).length≤1000∧(x.2.2.2.1:List (Val Ń)).length≤1000∧(x.2.2.2.2.1:List (Val Ì)).length≤1000∧(x.2.2.2.2.2:List (Val Ã)).length≤1000) ∧
 ∃s,θ x=some s∧q=([.box 0 0,.box 1 0,.fn (.func 178) [] [.box 2 0,.box 4 0,.box 3 0]],ckH x s 0):=by
 unfold ckM at h
 cases h0:Μ x.1 (0:Int) (1000000:Int) with
 |none=>rw[h0] at h; cases h
 |some r1 =>
 rw[h0] at h
 cases r1 with
 |false=>cases h
 |true =>
 simp only[Â,ifb,dN] at h
 cases h1:igt (Õ x.2.1) (12:Int) with
 |true=>rw[h1] at h; cases h
 |false =>
 rw[h1] at h
 cases h2:igt (Õ x.2.2.1) (40:Int) with
 |true=>rw[h2] at h; cases h
 |false =>
 rw[h2] at h
 cases h3:igt (Õ x.2.2.2.1) (12:Int) with
 |true=>rw[h3] at h; cases h
 |false =>
 rw[h3] at h
 cases h4:igt (Õ x.2.2.2.2.1) (40:Int) with
 |true=>rw[h4] at h; cases h
 |false =>
 rw[h4] at h
 cases h5:igt (Õ x.2.2.2.2.2) (10:Int) with
 |true=>rw[h5] at h; cases h
 |false =>
 rw[h5] at h
 cases h6:ŵ x with
 |none=>rw[h6] at h; cases h
 |some r2 =>
 rw[h6] at h;simp only at h
 cases h7:ine r2 (0:Int) with
 |true=>rw[h7] at h; cases h
 |false =>
 rw[h7] at h
 cases h8:θ x with
 |none=>rw[h8] at h; cases h
 |some r3 =>
 rw[h8] at h
 have lt:∀{α:Type} (l:List α) (n:Nat),igt (Õ l) (n:Int)=false→l.length≤n:=by
  intro α l n h;unfold Õ at h;rw[Oh] at h;simp only[igt,gt_iff_lt,decide_eq_false_iff_not] at h;omega
 simp only[Option.some.injEq,Sum.inr.injEq] at h;exact⟨⟨by have:=lt x.2.2.1 40 h2; omega,by have:=lt x.2.2.2.1 12 h3; omega,by have:=lt x.2.2.2.2.1 40 h4; omega,by have:=lt x.2.2.2.2.2 10 h5; omega⟩,r3,rfl,h.symm⟩
def EX {α β:Type} {f:α→Option β}:∀{l:List α} {m:List β},Oo f l=some m→m.length=l.length∧∀(i:Nat) (a:α),l[i]?=some a→∃b,m[i]?=some b∧f a=some b
 |[],m,h=>by cases h; exact⟨rfl,fun i a ha=>by simp at ha⟩
 |a::l,m,h=>by
  unfold Oo at h
  cases ha:f a with
  |none=>rw[ha] at h; cases h
  |some b =>
   rw[ha] at h
   cases hl:Oo f l with
   |none=>rw[hl] at h; cases h
   |some m' =>
    rw[hl] at h;cases h;obtain⟨h1,h2⟩:=EX hl;refine⟨by simp[h1],fun i c hc=>?_⟩
    cases i with
    |zero=>simp at hc; subst hc; exact⟨b,by simp,ha⟩
    |succ i=>simpa using h2 i c (by simpa using hc)
def M8 (l:List Int):upE (fun j=>l[j]?.getD 0) l.length=l:=by
 unfold upE;refine List.ext_getElem (by simp) fun i h1 h2=>?_;simp at h1;simp[h1]
def CR.below {n₀:Nat} {w W:World} {av:Nat→Prop} (hb:Below n₀ w W) (hn:w.heap.size≤n₀) {t:Ty} {x:Val t} {vs:List Value} (h:CR w av t x vs):CR W av t x vs :=
 h.keep fun b hlt ha=>⟨hb.block b (dv hlt hn),ha⟩
def NP {w:World} {av:Nat→Prop} {xs:List (Int×Int)} {v:Value} (h:CR w av (.slice Ã) xs [v]):∃base cap b off,v=.slice base xs.length cap∧(0<xs.length→base=some ⟨b,off,none⟩∧b<w.heap.size) ∧
 ∀j,j<xs.length→w.cell? ⟨b,off+j*2,none⟩=some (.int .i64 (xs[j]?.getD (0,0)).1)∧w.cell? ⟨b,off+j*2+1,none⟩=some (.int .i64 (xs[j]?.getD (0,0)).2):=by
 obtain⟨base,cap,e,hc,hx⟩:=h;cases e;rcases hx with hx|⟨b,off,hb,hav,hlt,hx⟩
 ·refine⟨base,cap,0,0,rfl,fun h=>?_,fun j hj=>?_⟩
  ·rw[show xs=[] from hx] at h; simp at h
  ·rw[show xs=[] from hx] at hj; simp at hj
 ·refine⟨base,cap,b,off,rfl,fun _=>⟨hb,hlt⟩,fun j hj=>?_⟩;obtain⟨us,h1,h2⟩:=hx j xs[j] (cO hj);obtain⟨u1,u2,e1,h3,h4⟩:=h1;have e3:u1=[.int .i64 xs[j].1]:=h3;have e4:u2=[.int .i64 xs[j].2]:=h4;subst e3 e4 e1;have s:(Ã).size=2:=rfl;rw[s] at h2;have c1:=h2 0 _ rfl;have c2:=h2 1 _ rfl;rw[cO hj];exact⟨by simpa using c1,by simpa[fg] using c2⟩
end Go.Proofs.ZzM
end

noncomputable section
set_option maxRecDepth 100000
namespace Go.Proofs.ZzM
open Go Go.Am Go.RowKit
section
variable {w W W':World}
abbrev noG:Nat→Prop:=fun _=>False
def XS (w:World) (n:Int):kI w noG tI n (.int .i64 n):=⟨[.int .i64 n],rfl,rfl⟩
def am5 {sb:Nat} {mv:Value} {e:TypeId} {s:Val (.map tI Ð)} (h:w.heap[sb]?=some (.cells #[mv] e (0,0))) (hm:CR w noG (.map tI Ð) s [mv]):kI w noG (.ptr (.map tI Ð)) s (.pointer (some ⟨sb,0,none⟩)):=by
 letI:ù:=⟨fun _=>False,[],none⟩
 exact⟨[.pointer (some ⟨sb,0,none⟩)],⟨sb,0,[mv],rfl,id,Ė h,hm,Ľ.of_cells h⟩,rfl⟩
def amQ {y:Int} {u:Value} (h:RR w noG [tI] y u):u=.int .i64 y:=by
 obtain⟨us,h1,rfl⟩:=h;have:us=[.int .i64 y]:=h1;rw[this]; rfl
def alk (h1:∀b,b<W.heap.size→W'.heap[b]?=W.heap[b]?) (h2:W.heap.size≤W'.heap.size) (h3:W'.os=W.os) (h4:W'.tape=W.tape) (h5:W'.output=W.output):W.grownBy W' none :=
 ⟨h3,h4,h5,h2,fun b hb _=>h1 b hb⟩
def Yc {f:Nat} {p:Û} (hp:Ñ Tryz.prog f p) (hrs:p.rs=[tI]) {x:Val (tyL p.ts)} {y:Int} (hF:p.F x=some (hrs▸(show Val (tyL [tI]) from y))) {vals:List Value} (ha:AL W noG p.ts x vals) :
 CallsIn Fence.wide 0 Tryz.prog f vals.toArray W fun e W''=>e=.returned (.int .i64 y)∧W.grownBy W'' none:=by
 obtain⟨ts,rs,F⟩:=p;dsimp only at hrs hF ha x;subst hrs;refine(hp noG x y hF W vals (fun _ h=>h.elim) ha).2.mono fun e w' ⟨u,h0,h1,h2,h3,h4,h5,h6⟩=>⟨?_,alk h2 h3 h4 h5 h6⟩;rw[h0,amQ h1]
def YG {s:Val (.map tI Ð)} {a b y:Int} (hF:ĺ a b s=some y) {sb:Nat} {mv:Value} {e:TypeId} (h:W.heap[sb]?=some (.cells #[mv] e (0,0))) (hm:CR W noG (.map tI Ð) s [mv]) :
 CallsIn Fence.wide 0 Tryz.prog 175 #[.int .i64 a,.int .i64 b,.pointer (some ⟨sb,0,none⟩)] W fun e W''=>e=.returned (.int .i64 y)∧W.grownBy W'' none :=
 Yc ad0 rfl (x:=(a,b,s)) (y:=y) hF (vals:=[.int .i64 a,.int .i64 b,.pointer (some ⟨sb,0,none⟩)]) ⟨_,_,rfl,XS _ _,_,_,rfl,XS _ _,_,rfl,am5 h hm⟩
def aip {mv:Value} {s:Val (.map tI Ð)} (hm:CR W noG (.map tI Ð) s [mv]):kI W noG (.map tI Ð) s mv:=⟨[mv],hm,rfl⟩
def afA {x:Val Ä} {cs:Array Value} (hb:CR W noG Ä x cs.toList):kI W noG Ä x (.agg cs):=⟨cs.toList,hb,by show Value.agg cs=Value.agg cs.toList.toArray; rw[Array.toArray_toList]⟩
def aiC {x:Val Ä} {s:Val (.map tI Ð)} {i y:Int} (hF:Υ x s i=some y) {mv:Value} {cs:Array Value} (hb:CR W noG Ä x cs.toList) (hm:CR W noG (.map tI Ð) s [mv]) :
 CallsIn Fence.wide 0 Tryz.prog 179 #[.agg cs,mv,.int .i64 i] W fun e W''=>e=.returned (.int .i64 y)∧W.grownBy W'' none :=
 Yc Yl rfl (x:=(x,s,i)) (y:=y) hF (vals:=[.agg cs,mv,.int .i64 i]) ⟨_,_,rfl,afA hb,_,_,rfl,aip hm,_,rfl,XS _ _⟩
def abJ {x:Val Ä} {s:Val (.map tI Ð)} {i y:Int} (hF:ľ x s i=some y) {mv:Value} {cs:Array Value} (hb:CR W noG Ä x cs.toList) (hm:CR W noG (.map tI Ð) s [mv]) :
 CallsIn Fence.wide 0 Tryz.prog 180 #[.agg cs,mv,.int .i64 i] W fun e W''=>e=.returned (.int .i64 y)∧W.grownBy W'' none :=
 Yc MY rfl (x:=(x,s,i)) (y:=y) hF (vals:=[.agg cs,mv,.int .i64 i]) ⟨_,_,rfl,afA hb,_,_,rfl,aip hm,_,rfl,XS _ _⟩
end
def oN {w:World} {av:Nat→Prop} {t:Ty} {xs:List (Val t)} {vs:List Value} (h:CR w av (.slice t) xs vs):∃base cap,vs=[.slice base xs.length cap]:=by
 obtain⟨base,cap,e,_⟩:=h;exact⟨base,cap,e⟩
def akK {x:Val Ä} {s:Val (.map tI Ð)} {l1 l2 l3 l4:List Int} (h1:Oo (fun u=>ĺ u.1 u.2 s) (x.2.2.1:List (Int×Int))=some l1) (h2:Oo (fun i=>Υ x s i) (xd (x.2.2.2.1:List (Val Ń)).length)=some l2)
 (h3:Oo (fun i=>ľ x s i) (xd (x.2.2.2.2.1:List (Val Ì)).length)=some l3) (h4:Oo (fun u=>ĺ u.1 u.2 s) (x.2.2.2.2.2:List (Int×Int))=some l4)
 (hlen:(x.2.2.1:List (Val Ã)).length≤1000∧(x.2.2.2.1:List (Val Ń)).length≤1000∧(x.2.2.2.2.1:List (Val Ì)).length≤1000∧(x.2.2.2.2.2:List (Val Ã)).length≤1000)
 {w:World} {bb tb sb:Nat} {te te2 te3:TypeId} {cb:Array Value} {mv:Value} (hbb:w.heap[bb]?=some (.cells cb te (0,0))) (hbk:CR w noG Ä x cb.toList) (htb:w.heap[tb]?=some (.cells #[.func (.func 175) #[] #[.pointer (some ⟨sb,0,none⟩)]] te2 (0,0)))
 (hsb:w.heap[sb]?=some (.cells #[mv] te3 (0,0))) (hmv:CR w noG (.map tI Ð) s [mv]) :
 SeqStopsK Fence.wide 1 Tryz.prog 178 #[.pointer (some ⟨bb,0,none⟩),.pointer (some ⟨tb,0,none⟩),.pointer (some ⟨sb,0,none⟩)] (fun x:Int=>#[.int .i64 x]) (Below w.heap.size) (fun xs=>xs=l1++(l2++(l3++l4))) (fun pre=>pre <+: (l1++(l2++(l3++l4)))) (l1++(l2++(l3++l4))).length w:=by
 intro l J Jx W hbel hJ hJx hY h0;obtain⟨fl,r0,e0,hfl,hr0⟩:=id hbk;obtain⟨ga,r1,e1,hga,hr1⟩:=hr0;obtain⟨us,r2,e2,hus,hr2⟩:=hr1;obtain⟨lo,r3,e3,hlo,hr3⟩:=hr2;obtain⟨co,ko,e4,hco,hko⟩:=hr3;obtain⟨f1,f2,e5,hf1,hf2⟩:=hfl;have e6:f1=[.int .i64 x.1.1]:=hf1;have e7:f2=[.int .i64 x.1.2]:=hf2;obtain⟨gab,gac,e8⟩:=oN hga;obtain⟨lob,loc,e9⟩:=oN hlo;obtain⟨cob,coc,e10⟩:=oN hco;obtain⟨usb0,usc0,e11⟩:=oN hus;obtain⟨kob0,koc0,e12⟩:=oN hko;rw[e11] at hus;rw[e12] at hko;obtain⟨usb,usc,ub,uo,e13,hub,hU⟩:=NP hus;obtain⟨kob,koc,kb,kof,e14,hkb,hK⟩:=NP hko;rw[e13] at e11;rw[e14] at e12
 have hcb:cb=#[.int .i64 x.1.1,.int .i64 x.1.2,.slice gab (x.2.1:List (Val Ð)).length gac,.slice usb (x.2.2.1:List (Val Ã)).length usc,.slice lob (x.2.2.2.1:List (Val Ń)).length loc,.slice cob (x.2.2.2.2.1:List (Val Ì)).length coc,.slice kob (x.2.2.2.2.2:List (Val Ã)).length koc]:=by
  rw[←dQ,e0,e1,e2,e3,e4,e5,e6,e7,e8,e9,e10,e11,e12];rfl
 obtain⟨g1,q1⟩:=EX h1;obtain⟨g2,q2⟩:=EX h2;obtain⟨g3,q3⟩:=EX h3;obtain⟨g4,q4⟩:=EX h4
 have gl2:l2.length=(x.2.2.2.1:List (Val Ń)).length:=by rw[g2]; simp[xd]
 have gl3:l3.length=(x.2.2.2.2.1:List (Val Ì)).length:=by rw[g3]; simp[xd]
 have up1:upE (fun j=>l1[j]?.getD 0) (x.2.2.1:List (Val Ã)).length=l1:=by rw[←g1]; exact M8 l1
 have up2:upE (fun j=>l2[j]?.getD 0) (x.2.2.2.1:List (Val Ń)).length=l2:=by rw[←gl2]; exact M8 l2
 have up3:upE (fun j=>l3[j]?.getD 0) (x.2.2.2.2.1:List (Val Ì)).length=l3:=by rw[←gl3]; exact M8 l3
 have up4:upE (fun j=>l4[j]?.getD 0) (x.2.2.2.2.2:List (Val Ã)).length=l4:=by rw[←g4]; exact M8 l4
 have at1:∀{xs:List (Int×Int)} {ls:List Int},(∀(i:Nat) (a:Int×Int),xs[i]?=some a→∃b,ls[i]?=some b∧ĺ a.1 a.2 s=some b)→∀j,j<xs.length→ĺ (xs[j]?.getD (0,0)).1 (xs[j]?.getD (0,0)).2 s=some (ls[j]?.getD 0):=by
  intro xs ls hq j hj;obtain⟨b,hb,hf⟩:=hq j xs[j] (cO hj);rw[cO hj,hb];exact hf
 have at2:∀{n:Nat} {ls:List Int} {f:Int→Option Int},(∀(i:Nat) (a:Int),(xd n)[i]?=some a→∃b,ls[i]?=some b∧f a=some b)→∀j,j<n→f (j:Int)=some (ls[j]?.getD 0):=by
  intro n ls f hq j hj;obtain⟨b,hb,hf⟩:=hq j j (by simp[xd,hj]);rw[hb]; exact hf
 have hbel':∀{W':World},Below w.heap.size W W'→Below w.heap.size w W':=fun h=>hbel.trans h;have hcell:∀{W':World} {p:Addr} {v:Value},Below w.heap.size w W'→w.cell? p=some v→p.block<w.heap.size→W'.cell? p=some v:=fun {W'} {p} {v} h hc hp=>(h.cell (p:=p) hp).trans hc;have lb:=Ė hbb;have lt:=Ė htb;have ls:=Ė hsb
 have:=akW te 1 (by omega) l w.heap.size bb tb sb (.int .i64 x.1.1) (.int .i64 x.1.2) (.slice gab (x.2.1:List (Val Ð)).length gac) mv lb lt ls
  ub uo (x.2.2.1:List (Val Ã)).length usc kb kof (x.2.2.2.2.2:List (Val Ã)).length koc usb kob lob cob (x.2.2.2.1:List (Val Ń)).length loc (x.2.2.2.2.1:List (Val Ì)).length coc hub hkb
  (fun j=>(x.2.2.1:List (Int×Int))[j]?.getD (0,0)) (fun j=>(x.2.2.2.2.2:List (Int×Int))[j]?.getD (0,0)) (fun j=>l1[j]?.getD 0) (fun j=>l2[j]?.getD 0) (fun j=>l3[j]?.getD 0) (fun j=>l4[j]?.getD 0)
  hlen.1 hlen.2.1 hlen.2.2.1 hlen.2.2.2 W ((hbel.block bb lb).trans (by rw[hbb,hcb])) (hcell hbel (by simp[World.cell?,htb]) lt) (hcell hbel (by simp[World.cell?,hsb]) ls)
  (fun j hj=>⟨hcell hbel (hU j hj).1 (hub (by omega)).2,hcell hbel (hU j hj).2 (hub (by omega)).2⟩) (fun j hj=>⟨hcell hbel (hK j hj).1 (hkb (by omega)).2,hcell hbel (hK j hj).2 (hkb (by omega)).2⟩)
  (fun j hj W' hW=>YG (at1 q1 j hj) (((hbel' hW).block sb ls).trans hsb) (CR.below (hbel' hW) (cQ _) hmv))
  (fun j hj W' hW=>YG (at1 q4 j hj) (((hbel' hW).block sb ls).trans hsb) (CR.below (hbel' hW) (cQ _) hmv))
  (fun j hj W' hW=>aiC (at2 q2 j hj) (by have:=CR.below (hbel' hW) (cQ _) hbk; rwa [hcb] at this) (CR.below (hbel' hW) (cQ _) hmv))
  (fun j hj W' hW=>abJ (at2 q3 j hj) (by have:=CR.below (hbel' hW) (cQ _) hbk; rwa [hcb] at this) (CR.below (hbel' hW) (cQ _) hmv))
  J Jx (fun pre W1 W2 hj hg=>hJ pre W1 W2 none hj hg (fun r e=>by cases e)) (fun pre W1 W2 hj hg=>hJx pre W1 W2 none hj hg (fun r e=>by cases e))
  (fun pre y W1 hj hl=>hY pre y W1 hj (by simp only[cW]; omega)) h0 hbel.size
 rw[up1,up2,up3,up4] at this;exact this
end Go.Proofs.ZzM
end

noncomputable section
set_option maxRecDepth 100000
namespace Go.Proofs.ZzM
open Go Go.Am Go.RowKit
section
variable [ù] {ρ:Type} {ν:Nat→Value} {w:World}
def peel (hq:ù.Q=none) {E:Env ρ} {call:List Nat→Bool→Nat→List AV→List Blk→(AV→List Blk→Option ρ)→Option ρ} {L:Nat} (hE:lF E L call) (hD:lQ E L call) (hj:E.joins=fun _ _ _ _=>none) {fid:Nat} {path:List Nat} (hp:path.length+2=L) {x y c:Code} {bid n:Nat} {S:St} {K:Exit→St→Option ρ} {r:ρ} {a:Act} {Q:Exit→Act→World→Prop}
 (hL:∀z∈ð bid x,pX E path fid z.1 z.2) (e:goC E call fid path 0 bid (.seq x y) S K=some r) (H:Sim ν S a w)
 (hn:∀ν' S' a' w',Sim ν' S' a' w'→Ev 0 ν S.h w ν' S'.h w'→goC E call fid path 0 bid y S' K=some r→c.wpIn Fence.wide n E.P Q a' w')
 (hx:∀ν' S' a' w' e,e≠.normal→Sim ν' S' a' w'→Ev 0 ν S.h w ν' S'.h w'→K e S'=some r→Q e a' w'):(Code.seq x c).wpIn Fence.wide n E.P Q a w:=by
 simp only[goC,hj] at e;have hgo:=lh hE hD hp x bid S _ ν a w hL e H (ej _);rw[HJ hq] at hgo;refine wpIn_seq (wpIn_wide.2 (wpIn_wide.1 (wpIn_mono hgo fun e' a' w' ha=>?_)));obtain⟨ν',S',h1,h2,h3,h4,h5⟩:=ha
 cases e' with
 |normal=>exact hn ν' S' a' w' h1 h2 h5
 |exit id=>exact hx ν' S' a' w' _ (by simp) h1 h2 h5
 |goto l=>exact hx ν' S' a' w' _ (by simp) h1 h2 h5
 |ret=>exact hx ν' S' a' w' _ (by simp) h1 h2 h5
 |panic ch=>exact hx ν' S' a' w' _ (by simp) h1 h2 h5
 |outgrown=>exact hx ν' S' a' w' _ (by simp) h1 h2 h5
end
def ahN {T:Array Value} {rb:Nat} {n:Int} {e:TypeId} {W:World} (h2:T.getD 2 undef=.pointer (some ⟨rb,0,none⟩)) (hc:W.heap[rb]?=some (.cells #[.int .i64 n] e (0,0))):(results Tryz.f43 T).run Tryz.prog W=.ok (.int .i64 n) W:=by
 letI:ù:=⟨fun _=>False,[],none⟩
 have hl:(loadVar 35 ⟨rb,0,none⟩).run Tryz.prog W=.ok (.int .i64 n) W:=by
  have:=uA (P:=Tryz.prog) (w:=W) (t:=35) (agg:=false) (n:=1) (by kernel_rfl) (us:=[.int .i64 n]) rfl (fun _=>rfl) (a:=⟨rb,0,none⟩) (fun j v hj=>by
   have:=Ľ.of_cells hc j v (by simpa using hj)
   cases j with
   |zero=>simpa[Addr.add] using this
   |succ j=>simp at hj)
  exact this
 have hr:Tryz.f43.results=#[.cell 2 35]:=by kernel_rfl
 unfold results;rw[hr,Array.mapM_eq_mapM_toList];simp only[Sem.run_bind,Sem.run_map,List.mapM_cons,List.mapM_nil,h2,asAddr,Sem.run_pure,Result.andThen_ok,hl];rfl
def HR_ghost {G:Nat→Prop} {D D':List Deferred} {Q Q':Option Nat} {ν:Nat→Value} {h:List Blk} {w:World} (H:@HR ⟨G,D,Q⟩ ν h w):@HR ⟨G,D',Q'⟩ ν h w :=
 @HR.mk ⟨G,D',Q'⟩ ν h w (@HR.blk ⟨G,D,Q⟩ ν h w H) (@HR.inj ⟨G,D,Q⟩ ν h w H) (@HR.ghlt ⟨G,D,Q⟩ ν h w H) (@HR.ghne ⟨G,D,Q⟩ ν h w H)
def anB [ù] {ν:Nat→Value} {h:List Blk} {w:World} {x:Val Ä} {us:List Value} (hv:Ċ (VRc ν h w) (flat Ä x) us):CR w noG Ä x us:=by
 have h1:ç Ä (flat Ä x)=some x:=rfl;have h2:Ċ (VRs w (Av ν h)) (flat Ä x) us:=hv.mono fun c u hu=>hu.1.data;exact CR.mono (fun _ hf=>hf.elim) (ŧ h1 h2)
def CA (G:Nat→Prop) (y:Int) (w:World) (e:Ending) (w':World):Prop :=
 ∃u,e=.returned u∧RR w' G [tI] y u∧(∀b,b<w.heap.size→w'.heap[b]?=w.heap[b]?)∧w.heap.size≤w'.heap.size∧w'.os=w.os∧w'.tape=w.tape∧w'.output=w.output
def afn {G:Nat→Prop} {y:Int} {w0 w:World} {a:Act} {D rb:Nat} {e:TypeId} (hd:a.defers=[aeX D]) (hD:w.heap[D]?=some (.deferred (some []))) (h2:a.tmps.getD 2 undef=.pointer (some ⟨rb,0,none⟩)) (hc:w.heap[rb]?=some (.cells #[.int .i64 y] e (0,0)))
 (hb:∀b,b<w0.heap.size→w.heap[b]?=w0.heap[b]?) (hDl:w0.heap.size≤D) (hsz:w0.heap.size≤w.heap.size) (h3:w.os=w0.os) (h4:w.tape=w0.tape) (h5:w.output=w0.output):LeavesInM Fence.wide 2 Tryz.prog Tryz.f43 a.tmps (CA G y w0) a.defers .returning w:=by
 rw[hd]
 have hne:rb≠D:=fun h=>by rw[h,hD] at hc; cases hc
 have ho:∀b,b≠D→(w.putObj D (.deferred none)).heap[b]?=w.heap[b]?:=fun b hb=>by
  simp only[World.putObj,fh];rw[if_neg (fun h=>hb h.symm)]
 refine⟨by simp,.inl ⟨D,_,rfl,run_takeDeferred hD,?_⟩⟩;refine⟨.int .i64 y,ahN h2 ((ho rb hne).trans hc),.int .i64 y,rfl,⟨[.int .i64 y],rfl,rfl⟩,fun b hlt=>(ho b (by omega)).trans (hb b hlt),by simpa[World.putObj] using hsz,h3,h4,h5⟩
def anu (S:St):ckK .ret S=(ajp S).map .inl:=by
 unfold ckK
 cases ajp S<;>rfl
def agJ (S:St):ckK .normal S=if decide (78≤S.t.length)=true then some (.inr ([lk S.t 1,lk S.t 2,lk S.t 48],S.h)) else none:=by
 unfold ckK
 cases decide (78≤S.t.length)<;>rfl
def ju [ù] {ρ:Type} {E:Env ρ} (h0:E.loops=rr []) {path:List Nat} {fid bid:Nat} {b:Code}:pX E path fid bid b:=fun m S K r ν a w e=>by
 rw[h0] at e;cases e
def amU:Code→String
 | .region _ ops _ => ((ops[0]?).map fun o => o.pos).getD ""
 | _ => ""
def rfA:Code→Code
 |.block _ (.rangeFunc _ _ a _)=>a
 |_=>.skip
def rfB:Code→Code
 |.block _ (.rangeFunc _ _ _ (.block _ (.seq a _)))=>a
 |_=>.skip
def rfC:Code→Code
 |.block _ (.rangeFunc _ _ _ (.block _ (.seq _ (.cond _ (.seq a _) _))))=>a
 |_=>.skip
def ans:ckRF=Code.block 0 (Code.rangeFunc (.tmp 48) #[49] (aeD (amU (rfA ckRF))) (ami (amU (rfB ckRF)) (amU (rfC ckRF)))):=by kernel_rfl
def amz:∀e∈ck_pt,Ñ Tryz.prog e.1 e.2:=Á Ro (Á Rn (Á AA (Á Rq Æ)))
def ajq {e:Exit} {S:St} {n:Int} (h:ckK2 e S=some n):e=.ret∧lk S.t 2=.box 1 0∧lkB S.h 1=.cells [.int .i64 n]:=by
 unfold ckK2 at h
 split at h
 ·split at h
  ·rename_i h2
   split at h
   ·rename_i h3;cases h;exact⟨rfl,h2,h3⟩
   ·cases h
  ·cases h
 ·cases h
def abi [ù] {ν:Nat→Value} {h:List Blk} {w:World} {n:Int} {id:Nat} (H:HR ν h w) (hl:lkB h id=.cells [.int .i64 n]):∃b e,ν id=.pointer (some ⟨b,0,none⟩)∧w.heap[b]?=some (.cells #[.int .i64 n] e (0,0)):=by
 have hB:=H.blk id;rw[hl] at hB;obtain⟨b,c,e,h1,h2,h3⟩:=hB;obtain⟨u,h4,h5⟩:=h3.one;have h6:u=.int .i64 n:=h5.1;refine⟨b,e,h1,?_⟩;rw[h2]
 have:c=#[.int .i64 n]:=by rw[←dQ,h4,h6]
 rw[this]
def zx [ù] {ν:Nat→Value} {h:List Blk} {w:World} {id off:Nat} {v:Value} {b:Nat} (hv:VR ν h w (.box id off) v) (hb:ν id=.pointer (some ⟨b,0,none⟩)):v=.pointer (some ⟨b,off,none⟩):=by
 obtain⟨cs,b',h1,h2,h3⟩:=hv;rw[hb] at h2;cases h2;exact h3
def anr {G:Nat→Prop} {x:Val Ä} {s:Val (.map tI Ð)} {y:Int} (hS:ckS x=some y) {ν:Nat→Value} {w0 w6 W:World} {a:Act} {D:Nat} (H:@HR ⟨G,[],none⟩ ν (ckH x s 0) w6) (hb:Below w6.heap.size w6 W) (hD:w6.heap.size≤D) (hDo:W.heap[D]?=some (.deferred (some []))) (hd:a.defers=[aeX D]) (hlen:78≤a.tmps.size)
 (t1:@VR ⟨G,[],none⟩ ν (ckH x s 0) w6 (.box 0 0) (a.tmps.getD 1 undef)) (t2:@VR ⟨G,[],none⟩ ν (ckH x s 0) w6 (.box 1 0) (a.tmps.getD 2 undef))
 (h0:∀b,b<w0.heap.size→w6.heap[b]?=w0.heap[b]?∧¬aed ν (ckH x s 0) b) (hsz:w0.heap.size≤w6.heap.size) (h3:w6.os=w0.os) (h4:w6.tape=w0.tape) (h5:w6.output=w0.output) :
 U4.wpIn Fence.wide 2 Tryz.prog (bodyPostM Fence.wide 2 Tryz.prog Tryz.f43 (CA G y w0)) a W:=by
 have hlive:∀b,aed ν (ckH x s 0) b→b<w6.heap.size:=fun b hl=>@HR.ltA ⟨G,[],none⟩ _ _ _ H b (.inl hl)
 have t1':∃b,ν 0=.pointer (some ⟨b,0,none⟩)∧a.tmps.getD 1 undef=.pointer (some ⟨b,0,none⟩):=by
  obtain⟨cs,b,_,h2,h3⟩:=t1;exact⟨b,h2,h3⟩
 have t2':∃b,ν 1=.pointer (some ⟨b,0,none⟩)∧a.tmps.getD 2 undef=.pointer (some ⟨b,0,none⟩):=by
  obtain⟨cs,b,_,h2,h3⟩:=t2;exact⟨b,h2,h3⟩
 letI:ù:=⟨G,[aeX D],none⟩
 have H1:HR ν (ckH x s 0) w6:=HR_ghost H;have H2:HR ν (ckH x s 0) W:=(H1.grow (fun b hlt=>hb.block b hlt) hb.size hb.os hb.tape hb.output 0).2;have hlib:M6 (alJ Int):=MU amz (alJ Int) rfl rfl rfl rfl rfl (Λ rfl);have hdraw:∀L call,lF (alJ Int) L call→lQ (alJ Int) L call:=Ef hmix;have hl0:(alJ Int).loops=rr []:=rfl;have hcall:=mm (.inr fun _=>rfl) hlib hdraw (fun n hn hE path f fn c _ _ _ z _=>ju hl0) 10 (cQ _);have hEnv:lF (alJ Int) 2 (jW (alJ Int) 10):=⟨.inr (pU 9),hcall,hlib.plain,hlib.clone,hlib.joins⟩;have law:=ck_suf x s;rw[hS] at law
 have sim:Sim ν {t:=[.any,.box 0 0,.box 1 0]++List.replicate 75 .any,h:=ckH x s 0} a W:=by
  refine⟨hd,by simpa using hlen,fun i=>?_,H2⟩;simp only[Qv];rcases i with _|_|_|i
  ·trivial
  ·obtain⟨b,g1,g2⟩:=t1';exact⟨_,b,rfl,g1,g2⟩
  ·obtain⟨b,g1,g2⟩:=t2';exact⟨_,b,rfl,g1,g2⟩
  ·trivial
 refine wpIn_wide.2 (wpIn_wide.1 (wpIn_mono (lh hEnv (hdraw _ _ hEnv) rfl U4 0 _ _ ν a W (fun z _=>ju hl0) law sim (ej _)) fun e a' w' ha=>?_));obtain⟨ν',S',g1,g2,_,_,g5⟩:=ha;obtain⟨rfl,k2,k3⟩:=ajq g5;obtain⟨rb,te,r1,r2⟩:=abi g1.heap k3;have r3:=g1.tmps 2;rw[k2] at r3;have r4:=zx r3 r1;have hDlt:=Ė hDo;refine afn (w:=w') (a:=a') (G:=G) (y:=y) (w0:=w0) (D:=D) (rb:=rb) g1.defers ((g2.keep D hDlt fun hl=>by have:=hlive D hl; omega).1.trans hDo) r4 r2 (fun b hlt=>?_) (by omega) (by have:=g2.size; have:=hb.size; omega) (g2.os.trans (hb.os.trans h3)) (g2.tape.trans (hb.tape.trans h4)) (g2.output.trans (hb.output.trans h5));have h01:=h0 b hlt
 have hlt6:b<w6.heap.size:=by omega
 have hltW:b<W.heap.size:=by have:=hb.size; omega
 exact(g2.keep b hltW h01.2).1.trans ((hb.block b hlt6).trans h01.1)
set_option maxHeartbeats 2000000 in
def agK (G:Nat→Prop) (x:Val Ä) (y:Int) (hF':ó x=some y) (w:World) (vals:List Value) (hG:∀b,G b→b<w.heap.size) (hAL:AL w G [Ä] x vals) :
 (∃fn c,Tryz.prog.funcs[43]?=some fn∧fn.body=some c)∧CallsIn Fence.wide 0 Tryz.prog 43 vals.toArray w (CA G y w):=by
 rw[alI] at hF'
 letI:ù:=⟨G,[],none⟩
 have hpt:=amz;have hlib:M6 (ckE ckR):=MU hpt (ckE ckR) rfl rfl rfl rfl rfl (Λ rfl);have hdraw:∀L call,lF (ckE ckR) L call→lQ (ckE ckR) L call:=Ef hmix;have h0:(ckE ckR).loops=rr []:=rfl;have hcall:=mm (.inl ⟨rfl,rfl⟩) hlib hdraw (fun n hn hE path f fn c _ _ _ z _=>ju h0) 10 (cQ _);have hEnv:lF (ckE ckR) 2 (jW (ckE ckR) 10):=⟨.inr (pU 9),hcall,hlib.plain,hlib.clone,hlib.joins⟩;have hD:=hdraw _ _ hEnv;have H:HR (fun _=>undef) [] w:=⟨fun _=>trivial,fun _ _ _ h=>(by cases h),hG,fun _ _ h=>(by cases h)⟩;have hav:∀b,Av (fun _=>undef) [] b→G b:=fun b hb=>hb.elim (fun⟨_,h,_⟩=>by cases h) id;have hargs:Ċ (VR (fun _=>undef) [] w) (ĉ [Ä] x) vals:=AL.VR (hAL.mono hav);refine⟨⟨Tryz.f43,_,Tryz.func43,amA⟩,?_⟩
 have hlen:vals.length=1:=by
  have:=hargs.length;simpa[ĉ,ai7] using this.symm
 cases hM:ckM x with
 |none=>rw[hM] at hF'; cases hF'
 |some r0 =>
 rw[hM] at hF';have law:=ck_pre x;rw[hM] at law;refine callsIn_wide.2 (callsIn_wide.1 (callsIn_of_wp_marks (n:=2) Tryz.func43 amA trivial ?_ (R:=CA G y w)))
 have hS:Sim (fun _=>undef) {t:=ĉ [Ä] x++List.replicate 77 .any,h:=[]} {tmps:=vals.toArray++Array.replicate (Tryz.f43.ntmps-vals.toArray.size) undef,defers:=[]} w:=by
  refine⟨rfl,?_,fun i=>?_,H⟩
  ·have:Tryz.f43.ntmps=78:=by kernel_rfl
   have hl2:(ĉ [Ä] x).length=1:=rfl;simp[this,hlen,hl2]
  ·simp only[Qv];rcases dE i (ĉ [Ä] x).length with hi|hi
   ·have:=Ċ.lk (R:=VR (fun _=>undef) [] w) (fun _=>trivial) i hargs
    have hv:i<vals.length:=by rw[←hargs.length]; exact hi
    have h2:(vals.toArray++Array.replicate (Tryz.f43.ntmps-vals.toArray.size) undef).getD i undef=vals.getD i undef:=by
     simp[dP,fc,hv]
    rw[h2]; exact this
   ·rw[aiG _ _ hi]; trivial
 -- the ways out ahead of the loop
 have out:∀ν' S' a' w' e,e≠.normal→Sim ν' S' a' w'→Ev 0 (fun _=>undef) [] w ν' S'.h w'→ckK e S'=some r0→bodyPostM Fence.wide 2 Tryz.prog Tryz.f43 (CA G y w) e a' w':=by
  intro ν' S' a' w' e hne hS' hE' hk
  cases e with
  |normal=>exact(hne rfl).elim
  |ret =>
   rw[anu] at hk
   cases hr:ajp S' with
   |none=>rw[hr] at hk; cases hk
   |some n =>
    rw[hr,dS] at hk;cases hk
    have hyn:n=y:=by simpa using hF'
    subst hyn;unfold ajp at hr
    split at hr
    ·rename_i v hv;obtain⟨u,q1,q2⟩:=Ix hS' hv;show LeavesInM _ _ _ _ _ _ a'.defers _ _;rw[show a'.defers=[] from hS'.defers];exact⟨u,q1,u,rfl,Vt hS'.heap [tI] q2 hr,fun b hb=>(hE'.keep b hb fun⟨_,h,_⟩=>by cases h).1,hE'.size,hE'.os,hE'.tape,hE'.output⟩
    ·cases hr
  |exit id=>cases hk
  |goto l=>cases hk
  |panic ch=>cases hk
  |outgrown=>cases hk
 have outT:∀{ν₁:Nat→Value} {h₁:List Blk} {w₁:World},Ev 0 (fun _=>undef) [] w ν₁ h₁ w₁→∀ν' S' a' w' e,e≠.normal→Sim ν' S' a' w'→Ev 0 ν₁ h₁ w₁ ν' S'.h w'→ckK e S'=some r0→bodyPostM Fence.wide 2 Tryz.prog Tryz.f43 (CA G y w) e a' w' :=
  fun hE ν' S' a' w' e hne hS' hE' hk=>out ν' S' a' w' e hne hS' (hE.trans hE' (cQ _)) hk
 refine peel rfl hEnv hD rfl rfl (fun z _=>ju h0) law hS (fun ν1 S1 a1 w1 s1 e1 k1=>?_) out;refine peel rfl hEnv hD rfl rfl (fun z _=>ju h0) k1 s1 (fun ν2 S2 a2 w2 s2 e2 k2=>?_) (outT e1);have t2:=e1.trans e2 (cQ _);refine peel rfl hEnv hD rfl rfl (fun z _=>ju h0) k2 s2 (fun ν3 S3 a3 w3 s3 e3 k3=>?_) (outT t2);have t3:=t2.trans e3 (cQ _);refine peel rfl hEnv hD rfl rfl (fun z _=>ju h0) k3 s3 (fun ν4 S4 a4 w4 s4 e4 k4=>?_) (outT t3);have t4:=t3.trans e4 (cQ _);refine peel rfl hEnv hD rfl rfl (fun z _=>ju h0) k4 s4 (fun ν5 S5 a5 w5 s5 e5 k5=>?_) (outT t4);have t5:=t4.trans e5 (cQ _);refine wpIn_seq (wpIn_seq (wpIn_wide.2 (wpIn_wide.1 (wpIn_mono (lh hEnv hD rfl ckA5 0 S5 _ ν5 a5 w5 (fun z _=>ju h0) k5 s5 (ej _)) fun e' a6 w6 ha=>?_))));obtain⟨ν,S,s6,e6,_,_,k6⟩:=ha;have t6:=t5.trans e6 (cQ _)
 have other:∀e,e≠.normal→ckK e S=some r0→Exit.then (Code.wpIn Fence.wide 2 Tryz.prog U4 (bodyPostM Fence.wide 2 Tryz.prog Tryz.f43 (CA G y w))) (bodyPostM Fence.wide 2 Tryz.prog Tryz.f43 (CA G y w)) e a6 w6:=by
  intro e hne hk;have:=out ν S a6 w6 e hne s6 t6 hk
  cases e<;>first|exact(hne rfl).elim|exact this
 cases e' with
 |exit id=>exact other _ (by simp) k6
 |goto l=>exact other _ (by simp) k6
 |ret=>exact other _ (by simp) k6
 |panic ch=>exact other _ (by simp) k6
 |outgrown=>exact other _ (by simp) k6
 |normal =>
 clear other;rw[agJ] at k6
 split at k6<;>try (cases k6; done)
 rename_i h78
 have h78':78≤S.t.length:=by simpa using h78
 cases k6;obtain⟨hlens,s,hs,hq⟩:=ant hM;simp only[Prod.mk.injEq,List.cons.injEq,and_true] at hq;obtain⟨⟨q1,q2,q48⟩,qh⟩:=hq
 have hF2:Za (nc x s) some (ckS x)=some y:=by
  simp only at hF';rw[hs] at hF';exact hF'
 -- what the errors are
 obtain⟨L,hL,hLy⟩:∃L,nc x s=some L∧(match L.find? (fun e=>e != 0) with|some e=>some e|none=>ckS x)=some y:=by
  unfold Za at hF2
  cases hl:nc x s with
  |none=>rw[hl] at hF2; cases hF2
  |some L=>rw[hl] at hF2; exact⟨L,rfl,hF2⟩
 obtain⟨l1,l2,l3,l4,m1,m2,m3,m4,rfl⟩:∃l1 l2 l3 l4,Oo (fun u=>ĺ u.1 u.2 s) (x.2.2.1:List (Int×Int))=some l1∧Oo (fun i=>Υ x s i) (xd (x.2.2.2.1:List (Val Ń)).length)=some l2 ∧
  Oo (fun i=>ľ x s i) (xd (x.2.2.2.2.1:List (Val Ì)).length)=some l3∧Oo (fun u=>ĺ u.1 u.2 s) (x.2.2.2.2.2:List (Int×Int))=some l4∧L=l1++(l2++(l3++l4)):=by
  unfold nc at hL
  cases m1:Oo (fun u=>ĺ u.1 u.2 s) (x.2.2.1:List (Int×Int)) with
  |none=>rw[m1] at hL; cases hL
  |some l1 =>
  rw[m1] at hL
  cases m2:Oo (fun i=>Υ x s i) (xd (x.2.2.2.1:List (Val Ń)).length) with
  |none=>simp only[Â,m2] at hL; cases hL
  |some l2 =>
  cases m3:Oo (fun i=>ľ x s i) (xd (x.2.2.2.2.1:List (Val Ì)).length) with
  |none=>simp only[Â,m2,m3] at hL; cases hL
  |some l3 =>
  cases m4:Oo (fun u=>ĺ u.1 u.2 s) (x.2.2.2.2.2:List (Int×Int)) with
  |none=>simp only[Â,m2,m3,m4] at hL; cases hL
  |some l4 =>
  simp only[Â,m2,m3,m4] at hL;cases hL;exact⟨l1,l2,l3,l4,rfl,rfl,rfl,rfl,rfl⟩
 -- the blocks
 obtain⟨T,Hh⟩:=S;dsimp only at q1 q2 q48 qh h78';subst qh;have p1:=s6.tmps 1;have p2:=s6.tmps 2;have p48:=s6.tmps 48;dsimp only at p1 p2 p48;rw[q1] at p1;rw[q2] at p2;rw[q48] at p48;obtain⟨rb,te1,n1,hrb⟩:=abi (id:=1) (n:=0) s6.heap rfl;have hB2:BR ν (ckH x s 0) w6 2 (.cells (flat Ä x)):=s6.heap.blk 2;have hB3:BR ν (ckH x s 0) w6 3 (.cells [.mp tI Ð s]):=s6.heap.blk 3;have hB4:BR ν (ckH x s 0) w6 4 (.cells [.fn (.func 175) [] [.box 3 0]]):=s6.heap.blk 4;obtain⟨bb,cb,te,n2,hbb,hb2⟩:=hB2;obtain⟨sb,cs3,te3,n3,hsb,hb3⟩:=hB3;obtain⟨tb,cs4,te2,n4,htb,hb4⟩:=hB4;obtain⟨mv,z3,hm3⟩:=hb3.one;obtain⟨fv,z4,hm4⟩:=hb4.one;have hmv:CR w6 noG (.map tI Ð) s [mv]:=CR.mono (fun _ hf=>hf.elim) (show CR w6 (Av ν (ckH x s 0)) (.map tI Ð) s [mv] from hm3.1)
 have hc3:cs3=#[mv]:=by rw[←dQ,z3]
 have hfv:fv=.func (.func 175) #[] #[.pointer (some ⟨sb,0,none⟩)]:=by
  obtain⟨fs,cs,h1,h2,h3⟩:=hm4.1
  have e1:fs=#[]:=by rw[←dQ]; exact h2.nil_left
  obtain⟨u,e2,h4⟩:=h3.one;have e3:u=.pointer (some ⟨sb,0,none⟩):=zx (w:=w6) (id:=3) (off:=0) h4 n3
  have e4:cs=#[.pointer (some ⟨sb,0,none⟩)]:=by rw[←dQ,e2,e3]
  rw[h1,e1,e4]
 have hc4:cs4=#[fv]:=by rw[←dQ,z4]
 rw[hc3] at hsb;rw[hc4,hfv] at htb
 have hg:a6.tmps.getD 48 undef=.func (.func 178) #[] #[.pointer (some ⟨bb,0,none⟩),.pointer (some ⟨tb,0,none⟩),.pointer (some ⟨sb,0,none⟩)]:=by
  obtain⟨fs,cs,h1,h2,h3⟩:=p48
  have e1:fs=#[]:=by rw[←dQ]; exact h2.nil_left
  have hl:=h3.length
  obtain⟨u1,u2,u3,e2⟩:∃u1 u2 u3,cs.toList=[u1,u2,u3]:=by
   rcases hcs:cs.toList with _|⟨u1,_|⟨u2,_|⟨u3,_|⟨u4,t⟩⟩⟩⟩<;>rw[hcs] at hl<;>simp at hl
   exact⟨u1,u2,u3,rfl⟩
  rw[e2] at h3;have e3:u1=.pointer (some ⟨bb,0,none⟩):=zx (w:=w6) (id:=2) (off:=0) h3.1 n2;have e4:u2=.pointer (some ⟨tb,0,none⟩):=zx (w:=w6) (id:=4) (off:=0) h3.2.1 n4;have e5:u3=.pointer (some ⟨sb,0,none⟩):=zx (w:=w6) (id:=3) (off:=0) h3.2.2.1 n3;rw[h1,e1];congr 1;rw[←dQ,e2,e3,e4,e5]
 have hseq:=akK m1 m2 m3 m4 hlens hbb (anB hb2) htb hsb hmv;have h2:=zx p2 n1;have hsz:78≤a6.tmps.size:=dA h78' s6.len
 have hkeep:∀b,b<w.heap.size→w6.heap[b]?=w.heap[b]?∧¬aed ν (ckH x s 0) b:=fun b hb=>t6.keep b hb fun⟨_,h,_⟩=>by cases h
 have hdef:a6.defers=[]:=s6.defers;show ckRF.wpIn Fence.wide 2 Tryz.prog (Exit.then (U4.wpIn Fence.wide 2 Tryz.prog (bodyPostM Fence.wide 2 Tryz.prog Tryz.f43 (CA G y w))) (bodyPostM Fence.wide 2 Tryz.prog Tryz.f43 (CA G y w))) a6 w6;rw[ans];refine wpIn_block (amP hseq hg h2 hsz hrb (fun D W hall hbel hDl hDo=>?_) (fun D W z hz hput hDl hDo=>?_))
 ·have hck:ckS x=some y:=by
   have:(l1++(l2++(l3++l4))).find? (fun e=>e != 0)=none:=eD.2 fun z hz=>by rw[hall z hz]; simp
   rw[this] at hLy;exact hLy
  exact anr (s:=s) hck s6.heap hbel hDl hDo (by show aeX D::a6.defers=_; rw[hdef]) hsz p1 p2 hkeep t6.size t6.os t6.tape t6.output
 ·have hzy:z=y:=by
   rw[hz] at hLy;simpa using hLy
  subst hzy;obtain⟨te5,hcell⟩:=hput.cell;have hlb:=Ė hrb;have hlive:aed ν (ckH x s 0) rb:=⟨1,rfl,by rw[n1]; rfl⟩
  exact afn (a:={a6 with defers:=aeX D::a6.defers}) (w:=W) (by show aeX D::a6.defers=_; rw[hdef]) hDo h2 hcell
   (fun b hb=>(hput.block b (by have:=t6.size; omega) (fun e=>(hkeep b hb).2 (e▸hlive))).trans (hkeep b hb).1) (by have:=t6.size; omega) (by have:=t6.size; have:=hput.size; omega) (hput.os.trans t6.os) (hput.tape.trans t6.tape) (hput.output.trans t6.output)
def Ļ:Ñ Tryz.prog 43 ń:=fun G x y hF w vals hG hAL=>agK G x y hF w vals hG hAL
end Go.Proofs.ZzM
end

noncomputable section
set_option maxRecDepth 100000
namespace Go.Proofs.ZzM
open Go Go.Am Go.RowKit
abbrev cP:Type:=Val (tyL iX)
abbrev cV:Type:=Val (tyL md)
abbrev cS (p:cP) (v:cV):St:=je tf iX md p v
abbrev cU (p:cP) (v:cV) (x:Val Ð):St:=je Pp iX zN p (DI v x)
def alC (im:List (Int×Bool)) (n:Int):nz Tryz.prog [.map tI .bool im] 182 (.omp 0) (.int .i64 n) false some=(match (sL (k:=tI) (v:=.bool) n im:Option Bool) with|some y=>some (.bool y)|none=>some (.bool false)):=by kernel_rfl
noncomputable def MapAt (W:World) (mb:Nat) (im:List (Int×Bool)):Prop:=∃(entries:Array MapEntry) (clock:Nat),W.heap[mb]?=some (.map entries clock)∧entries.size=im.length∧∀(i:Nat) (e:Int×Bool),im[i]?=some e→∃m,entries[i]?=some m∧m.key=.int .i64 e.1∧m.val=.bool e.2
noncomputable def L1 (im:List (Int×Bool)) (n:Int):Bool:=((sL (k:=tI) (v:=.bool) n im:Option Bool)).getD false
def alb {W:World} {mb:Nat} {im:List (Int×Bool)} (h:MapAt W mb im) (n:Int):(Instr.lookup 182 (.map (some mb)) (.int .i64 n) false).run Tryz.prog W=.ok (.bool (L1 im n)) W:=by
 letI:ù:=⟨fun _=>False,[],none⟩
 obtain⟨entries,clock,h1,h2,h3⟩:=h
 have H:HR (fun _=>.map (some mb)) [.map tI .bool im] W:=by
  refine⟨fun id=>?_,fun i j b hi hj _ _=>?_,fun b hb=>hb.elim,fun id b _ _ hb=>hb.elim⟩
  ·rcases id with _|id
   ·refine⟨mb,entries,clock,rfl,h1,h2,fun i e he=>?_⟩;obtain⟨m,q1,q2,q3⟩:=h3 i e he;exact⟨m,[.bool e.2],q1,by rw[q2]; rfl,rfl,by rw[q3]; rfl⟩
   ·rw[UG _ _ (by simp)]; trivial
  ·have one:∀i,(lkB [Blk.map tI .bool im] i).live=true→i=0:=fun i hi=>by
    rcases i with _|i
    ·rfl
    ·rw[UG _ _ (by simp)] at hi; cases hi
   rw[one i hi,one j hj]
 have hom:VR (fun _=>.map (some mb)) [.map tI .bool im] W (.omp 0) (.map (some mb)):=⟨rfl,_,_,_,rfl,rfl⟩
 have hk:nz Tryz.prog [.map tI .bool im] 182 (.omp 0) (.int .i64 n) false some=some (.bool (L1 im n)):=by
  rw[alC];unfold L1
  cases(sL (k:=tI) (v:=.bool) n im:Option Bool)<;>rfl
 obtain⟨u,q1,q2⟩:=aba H hk hom (ui:=.int .i64 n) rfl;rw[q1];have:u=.bool (L1 im n):=q2;rw[this]
noncomputable def gz (l:List (Val Ð)) (j:Nat):Val Ð:=l[j]?.getD (0,0,0,(0,0),(0,0),0)
def adE {w:World} {av:Nat→Prop} {g:Val Ð} {us:List Value} (h:CR w av Ð g us) :
 us=[.int .i64 g.1,.int .i64 g.2.1,.int .i64 g.2.2.1,.int .i64 g.2.2.2.1.1,.int .i64 g.2.2.2.1.2,.int .i64 g.2.2.2.2.1.1,.int .i64 g.2.2.2.2.1.2,.int .i64 g.2.2.2.2.2]:=by
 obtain⟨a1,r1,rfl,h1,a2,r2,rfl,h2,a3,r3,rfl,h3,a4,r4,rfl,⟨b1,b2,rfl,h4,h5⟩,⟨b3,r5,rfl,⟨b5,b6,rfl,h6,h7⟩,h8⟩⟩:=h;have e1:a1=[.int .i64 g.1]:=h1;have e2:a2=[.int .i64 g.2.1]:=h2;have e3:a3=[.int .i64 g.2.2.1]:=h3;have e4:b1=[.int .i64 g.2.2.2.1.1]:=h4;have e5:b2=[.int .i64 g.2.2.2.1.2]:=h5;have e6:b5=[.int .i64 g.2.2.2.2.1.1]:=h6;have e7:b6=[.int .i64 g.2.2.2.2.1.2]:=h7;have e8:r5=[.int .i64 g.2.2.2.2.2]:=h8;subst e1 e2 e3 e4 e5 e6 e7 e8;rfl
noncomputable def KNd (w1:World) (R:Nat→Prop) (tb:Nat) (im:List (Int×Bool)) (W:World):Prop:=w1.heap.size≤W.heap.size∧(∀b,R b→W.heap[b]?=w1.heap[b]?)∧tb<w1.heap.size∧∃mb,mb<w1.heap.size∧W.cell? ⟨tb,0,none⟩=some (.map (some mb))∧MapAt W mb im
def KNd.below {w1 W W':World} {R:Nat→Prop} {tb:Nat} {im:List (Int×Bool)} (hR:∀b,R b→b<w1.heap.size) (h:KNd w1 R tb im W) (hz:W.heap.size≤W'.heap.size) (hb:∀b,b<w1.heap.size→W'.heap[b]?=W.heap[b]?):KNd w1 R tb im W':=by
 obtain⟨h1,h2,h3,mb,h4,h5,en,cl,h6,h7,h8⟩:=h;exact⟨dA h1 hz,fun b hr=>(hb b (hR b hr)).trans (h2 b hr),h3,mb,h4,by rw[World.cell?_of_block (w:=W) (hb tb h3)]; exact h5,en,cl,(hb mb h4).trans h6,h7,h8⟩
def KNd.grown {w1 W W':World} {R:Nat→Prop} {tb:Nat} {im:List (Int×Bool)} (hR:∀b,R b→b<w1.heap.size) (h:KNd w1 R tb im W) (hg:W.grownBy W' none):KNd w1 R tb im W' :=
 h.below hR hg.size fun b hb=>hg.block b (dv hb h.1) (by simp)
def abc {f:AV→Bool} (h0:f .any=true):∀(l:List AV),l.all f=true→∀i,f (lk l i)=true
 |[],_,i=>by cases i<;>exact h0
 |x::l,h,0=>by simp only[fM,cR] at h; exact h.1
 |x::l,h,i+1=>by simp only[fM,cR] at h; exact abc h0 l h.2 i
def XN {f:Blk→Bool} (h0:f .dead=true):∀(l:List Blk),l.all f=true→∀i,f (lkB l i)=true
 |[],_,i=>by cases i<;>exact h0
 |x::l,h,0=>by simp only[fM,cR] at h; exact h.1
 |x::l,h,i+1=>by simp only[fM,cR] at h; exact XN h0 l h.2 i
def cS_mf (p:cP) (v:cV):(cS p v).h.all mfB=true:=by kernel_rfl
def cU_mf (p:cP) (v:cV) (x:Val Ð):(cU p v x).h.all mfB=true:=by kernel_rfl
def cU_mft (p:cP) (v:cV) (x:Val Ð):(cU p v x).t.all mfV3=true:=by kernel_rfl
def cR_mf (y:Val Ä):(je pw [] jy () (kv y)).h.all mfB=true:=by kernel_rfl
def cR_mft (y:Val Ä):(je pw [] jy () (kv y)).t.all mfV3=true:=by kernel_rfl
noncomputable def pin0 (m:Nat):AV→Bool
 |.any=>true
 |.box id _=>Nat.blt id m
 |_=>false
noncomputable def pin3 (m:Nat):AV→Bool
 |.fn _ a b=>a.all (pin0 m)&&b.all (pin0 m)
 |a=>pin0 m a
section
variable [ù] {ν ν':Nat→Value} {h h':List Blk} {w w':World} {m:Nat}
def VR0.pin (e:Ev m ν h w ν' h' w') {a:AV} {v:Value} (hp:pin0 m a=true) (hv:VR0 ν h w a v):VR0 ν' h' w' a v:=by
 cases a with
 |any=>trivial
 |box id off =>
  obtain⟨cs,b,hl,h1,h2⟩:=hv;have hlt:id<m:=fL hp;have hb:=e.blk id hlt;rw[hl] at hb;obtain⟨⟨cs',hl'⟩,he⟩:=hb;exact⟨cs',b,hl',by rw[he]; exact h1,h2⟩
 |_=>cases hp
def VR.pin (e:Ev m ν h w ν' h' w') {a:AV} {v:Value} (hp:pin3 m a=true) (hv:VR ν h w a v):VR ν' h' w' a v:=by
 cases a with
 |fn f fa fb =>
  obtain⟨fs,cs,h1,h2,h3⟩:=hv;simp only[pin3,cR,dG] at hp;exact⟨fs,cs,h1,h2.mem fun a ha _=>VR0.pin e (hp.1 a ha),h3.mem fun a ha _=>VR0.pin e (hp.2 a ha)⟩
 |any=>trivial
 |box id off=>exact VR0.pin (a:=.box id off) e (show pin0 m (.box id off)=true from hp) hv
 |_=>cases hp
end
def amB (p:cP) (v:cV):(cS p v).t.all (pin3 9)=true:=by kernel_rfl
def cS_len (p:cP) (v:cV):(cS p v).h.length=10:=by kernel_rfl
def cU_len (p:cP) (v:cV) (x:Val Ð):(cU p v x).h.length=11:=by kernel_rfl
def cS_t (p:cP) (v:cV) (z:List (Val Ð)):(cS p (ğ v z)).t=(cS p v).t:=by kernel_rfl
def cS_5 (p:cP) (v:cV):∃a b us lo co ko,lkB (cS p v).h 5=.cells [.int .i64 a,.int .i64 b,.slc Ð (ô v),.slc Ã us,.slc Ń lo,.slc Ì co,.slc Ã ko]:=⟨_,_,_,_,_,_,rfl⟩
def cS_6 (p:cP) (v:cV):lkB (cS p v).h 6=.cells [.omp 7]:=by kernel_rfl
def cS_7 (p:cP) (v:cV):lkB (cS p v).h 7=.map tI .bool (Ř v):=by kernel_rfl
def cS_59 (p:cP) (v:cV):lk (cS p v).t 59=.fn (.func 212) [] [.box 5 0,.box 6 0]:=by kernel_rfl
noncomputable def abh:Blk→Bool
 |.map _ _ _=>true
 |_=>false
def ad3 (p:cP) (v:cV):(cS p v).h.map abh=[false,false,false,false,false,false,false,true,true,false]:=by kernel_rfl
def anx (p:cP) (v:cV) (x:Val Ð):(cU p v x).h.map abh=[false,false,false,false,false,false,false,true,true,false,false]:=by kernel_rfl
def JT:∀(l:List Blk) (i:Nat),abh (lkB l i)=true→(l.map abh)[i]?=some true
 |[],i,h=>by cases i<;>cases h
 |x::l,0,h=>by have:abh x=true:=h; simp[this]
 |x::l,i+1,h=>by simpa using JT l i h
def aeY {l:List Blk} {t:List Bool} (hl:l.map abh=[false,false,false,false,false,false,false,true,true]++t) (ht:∀b∈t,b=false) {id:Nat} {k u:Ty} {es:List (Val k×Val u)} (h:lkB l id=.map k u es):id=7∨id=8:=by
 have:=JT l id (by rw[h]; rfl);rw[hl] at this
 rcases id with _|_|_|_|_|_|_|_|_|id<;>simp at this ⊢
 have:=ht _ (cZ this);cases this
noncomputable def amv {ρ:Type}:List (Val Ð)→Option ρ→Option ρ
 |[],x=>x
 |_::_,_=>none
def adP {ρ:Type} {l:List (Val Ð)} {x:Option ρ} {r:ρ} (h:amv l x=some r):l=[]∧x=some r:=by
 cases l with
 |nil=>exact⟨rfl,h⟩
 |cons=>cases h
noncomputable def cutK (p:cP) (v:cV):Option (Val Ä):=amv (uW v) (Â (zW (ô v) (Ř v)) fun z=>mT p (ğ v z) some)
def aiN {l:List (Val Ð)} {im:List (Int×Bool)} {z:List (Val Ð)} (h:zW l im=some z):ì l.length=true∧z=(RF (fun j=>L1 im (gz l j).1) l.length).map (gz l):=by
 unfold zW at h;simp only[ë] at h
 split at h
 ·rename_i ho;cases h;refine⟨ho,?_⟩
  have key:∀(n:Nat),n≤l.length→(l.take n).filter (fun g=>((sL (k:=tI) (v:=.bool) g.1 im:Option Bool)).getD false)=(RF (fun j=>L1 im (gz l j).1) n).map (gz l):=by
   intro n
   induction n with
   |zero=>intro _; rfl
   |succ n ih =>
    intro hn
    have hg:l[n]?=some (gz l n):=by simp[gz,cO (show n<l.length from hn)]
    rw[List.take_succ,gx,ih (by omega),Et,hg];have:((sL (k:=tI) (v:=.bool) (gz l n).1 im:Option Bool)).getD false=L1 im (gz l n).1:=rfl;simp only[Option.toList_some,dT,dW,this]
    split<;>simp
  have:=key l.length (cQ _)
  rwa [List.take_length] at this
 ·cases h
def akY {n m:Nat} (h:ì n=true) (hm:m≤n):ì m=true:=by
 unfold ì at h ⊢;simp only[Bool.and_eq_true,decide_eq_true_eq] at h ⊢
 first|omega|(constructor<;>omega)
def afH {G:Nat→Prop} {D D':List Deferred} {Q Q':Option Nat} {ν:Nat→Value} {h:List Blk} {w:World} {a:AV} {v:Value} (hv:@VR ⟨G,D,Q⟩ ν h w a v):@VR ⟨G,D',Q'⟩ ν h w a v:=hv
def zM [ù] {ν2 ν':Nat→Value} {h1 h':List Blk} {w1 W:World} (H1:HR ν2 h1 w1) (ev:Ev 9 ν2 h1 w1 ν' h' W) (hl1:∀id,id=7∨id=8→∃k u es,lkB h1 id=.map k u es)
 {t:List Bool} (hl:h'.map abh=[false,false,false,false,false,false,false,true,true]++t) (ht:∀b∈t,b=false):akl w1.heap.size ν' h':=by
 intro id k u es b hm hν
 have h9:id<9:=by rcases aeY hl ht hm with rfl|rfl<;>omega
 obtain⟨k1,u1,es1,h7⟩:=hl1 id (aeY hl ht hm);have hb:=ev.blk id h9;rw[h7] at hb;obtain⟨_,he⟩:=hb;have hB:=H1.blk id;rw[h7] at hB;obtain⟨b0,_,_,q1,q2,_⟩:=hB;rw[he,q1] at hν;cases hν;exact Ė q2
def alY (p:cP) (v:cV):∀id,id=7∨id=8→∃k u es,lkB (cS p v).h id=.map k u es:=by
 rintro id (rfl|rfl)
 ·exact⟨_,_,_,rfl⟩
 ·exact⟨_,_,_,rfl⟩
noncomputable def CI (G:Nat→Prop) (p:cP) (v:cV) (ν2:Nat→Value) (w1:World) (pre:List Nat) (W:World):Prop :=
 ∃ν',@HR ⟨G,[],none⟩ ν' (cS p (ğ v (pre.map (gz (ô v))))).h W∧Ev 9 ν2 (cS p v).h w1 ν' (cS p (ğ v (pre.map (gz (ô v))))).h W
def CI.own {G:Nat→Prop} {p:cP} {v:cV} {ν2:Nat→Value} {w1:World} (H1:@HR ⟨G,[],none⟩ ν2 (cS p v).h w1):OwnFrom w1.heap.size (CI G p v ν2 w1):=by
 intro pre W W' row hI hg hr
 letI:ù:=⟨G,[],none⟩
 obtain⟨ν',H,ev⟩:=hI;have hml:=zM H1 ev (alY p v) (ad3 _ _) (t:=[false]) (by simp);refine⟨ν',H.ckeep (Ra hg hr) (fun id k u es b hl hν=>?_) (XN rfl _ (cS_mf _ _)),ev.own hg fun r e=>(hr r e).1⟩;have hb:=hml id k u es b hl hν
 exact hg.block b (dv hb ev.size) fun e=>by have:=(hr b e.symm).1; omega
def CI.nd {G:Nat→Prop} {p:cP} {v:cV} {ν2:Nat→Value} {w1 W:World} {pre:List Nat} {R:Nat→Prop} {tb:Nat} (H1:@HR ⟨G,[],none⟩ ν2 (cS p v).h w1) (hR:∀b,R b→b<w1.heap.size∧¬aed ν2 (cS p v).h b) (htb:ν2 6=.pointer (some ⟨tb,0,none⟩)) (hI:CI G p v ν2 w1 pre W):KNd w1 R tb (Ř v) W:=by
 letI:ù:=⟨G,[],none⟩
 obtain⟨ν',H,ev⟩:=hI;have h6:=H1.blk 6;rw[cS_6] at h6;obtain⟨b6,_,_,q1,q2,_⟩:=h6;rw[htb] at q1;cases q1;have h7:=H1.blk 7;rw[cS_7] at h7;obtain⟨mb,_,_,r1,r2,_⟩:=h7;have e6:=ev.blk 6 (by omega);rw[cS_6] at e6;have e7:=ev.blk 7 (by omega);rw[cS_7] at e7;have k6:=H.blk 6;rw[show lkB (cS p (ğ v (pre.map (gz (ô v))))).h 6=.cells [.omp 7] from cS_6 _ _] at k6;obtain⟨b,c,e,s1,s2,s3⟩:=k6;rw[e6.2,htb] at s1;cases s1;obtain⟨mv,s4,s5⟩:=s3.one;obtain⟨_,k,u,es,_,s6⟩:=s5.1;have k7:=H.blk 7;rw[show lkB (cS p (ğ v (pre.map (gz (ô v))))).h 7=.map tI .bool (Ř v) from cS_7 _ _] at k7;obtain⟨mb',en,cl,t1,t2,t3,t4⟩:=k7;have e1:mv=.map (some mb'):=s6.trans t1
 have e2:mb'=mb:=by rw[e7.2,r1] at t1; cases t1; rfl
 subst e2;refine⟨ev.size,fun b hb=>(ev.keep b (hR b hb).1 (hR b hb).2).1,Ė q2,mb',Ė r2,?_,en,cl,t2,t3,fun i x hx=>?_⟩
 ·have hc:c=#[mv]:=by rw[←dQ,s4]
  rw[hc,e1] at s2;simp[World.cell?,s2]
 ·obtain⟨m,us,u1,u2,u3,u4⟩:=t4 i x hx;have v1:[m.key]=[.int .i64 x.1]:=u2;have v2:us=[.bool x.2]:=u3;refine⟨m,u1,by simpa using v1,?_⟩;rw[u4,v2];rfl
def agE:drawn (Am.rfA (Am.rfC 7 Ġ))=false:=by kernel_rfl
def agD:drawn (Am.rfB (Am.rfC 7 Ġ))=false:=by kernel_rfl
def agC:ð 4 (Am.rfA (Am.rfC 7 Ġ))=[]:=by kernel_rfl
def agB:ð 4 (Am.rfB (Am.rfC 7 Ġ))=[]:=by kernel_rfl
def X9 [ù] (ρ:Type):lF (Ĝ ρ) 2 (jW (Ĝ ρ) 10):=by
 have hlib:M6 (Ĝ ρ):=MU Po (Ĝ ρ) rfl rfl rfl rfl rfl (Λ rfl);have hdraw:∀L call,lF (Ĝ ρ) L call→lQ (Ĝ ρ) L call:=Ef hmix;have hcall:=mm (.inr fun _=>rfl) hlib hdraw (fun n hn hE path f fn c hp hf hc=>Hu (tab:=qR ρ) rfl K6 hn hE (hdraw _ _ hE) hp hf hc) 10 (cQ _);exact⟨.inr (pU 9),hcall,hlib.plain,hlib.clone,hlib.joins⟩
def ajj {G:Nat→Prop} {p:cP} {v:cV} {ν2:Nat→Value} {a:Act} {w1:World} (H1:@Sim ⟨G,[],none⟩ ν2 (cS p v) a w1) (l:Nat) (pre:List Nat) (x:Nat) (W:World) (hl:w1.heap.size≤l) (hI:CI G p v ν2 w1 pre W) (hok:ì (pre.length+1)=true) {u:Value} (hu:∀[ù] (ν:Nat→Value) (h:List Blk) (w:World),VR ν h w (.agg (flat Ð (gz (ô v) x))) u) :
 (Am.rfA (Am.rfC 7 Ġ)).wpIn (Fence.wide.inRound l) 0 Tryz.prog (Exit.then (fun a' Wa=>KeepsFrom w1.heap.size W Wa∧∀r',(∃r,Wa.heap[l]?=some (.loop r)) →
  (Am.rfB (Am.rfC 7 Ġ)).wpIn (Fence.wide.inRound l) 0 Tryz.prog (Exit.then (fun _ W3=>KeepsFrom w1.heap.size (Wa.putObj l (.loop r')) W3∧CI G p v ν2 w1 (pre++[x]) W3) (fun _ _ _=>False)) a' (Wa.putObj l (.loop r'))) (fun _ _ _=>False)) {tmps:=a.tmps.setIfInBounds 60 u,defers:=[]} W:=by
 letI:ù:=⟨G,[],some l⟩
 have H1h:HR ν2 (cS p v).h w1:=HR_ghost (@Sim.heap ⟨G,[],none⟩ _ _ _ _ H1);obtain⟨ν',H0,ev⟩:=hI;have H:HR ν' (cS p (ğ v (pre.map (gz (ô v))))).h W:=HR_ghost H0;obtain⟨v',hv'⟩:∃v',v'=ğ v (pre.map (gz (ô v))):=⟨_,rfl⟩;rw[←hv'] at H ev
 have ht:(cS p v').t=(cS p v).t:=by rw[hv']; exact cS_t _ _ _
 have hml:=zM H1h ev (alY p v) (ad3 _ _) (t:=[false]) (by simp)
 have simA:Sim ν' (cS p v') {tmps:=a.tmps,defers:=[]} W:=by
  refine⟨rfl,?_,fun i=>?_,H⟩
  ·rw[ht]; show _≤a.tmps.size; exact @Sim.len ⟨G,[],none⟩ _ _ _ _ H1
  ·rw[ht]; exact VR.pin ev (abc rfl _ (amB p v) i) (afH (@Sim.tmps ⟨G,[],none⟩ _ _ _ _ H1 i))
 have sim0:=simA.put (Ev.refl _ _ _ _) H (some 60) (hu ν' _ W);have hEnv:=X9 (cP×Val (tyL zN));have hgo:=J0 hEnv (path:=[]) rfl (Am.rfA (Am.rfC 7 Ġ)) 4 _ _ ν' _ W (fun h=>by rw[agE] at h; cases h) (fun z hz=>by rw[agC] at hz; cases hz) (agf p v' (gz (ô v) x) fun p u=>some (p,u)) sim0 (dA (show 9≤10 by decide) (Nat.le_of_eq (cS_len p v').symm));refine wpIn_mono hgo fun e a' Wa ha=>?_;obtain⟨νa,Sa,sA,evA,lenA,ddA,kA⟩:=ha;obtain⟨rfl,p',u',hm',hk'⟩:=EV kA;cases hk';obtain⟨νb,sB,evB,lB,dB⟩:=match_ok _ _ _ _ _ _ _ νa a' Wa hm' sA;have evAB:Ev 9 ν' (cS p v').h W νb (cU p v' (gz (ô v) x)).h Wa:=evA.trans evB (cQ _);have evT:=ev.trans evAB (cQ _);have hmu:=zM H1h evT (alY p v) (anx _ _ _) (t:=[false,false]) (by simp);refine⟨LH H hml evAB,fun r' ⟨r,hr⟩=>?_⟩;have hlt:l<Wa.heap.size:=Ė hr
 have K:Χ Wa (Wa.putObj l (.loop r')):=⟨by simp[World.putObj],fun b c e q hb=>by
  rw[World.putObj_heap_other (fun e'=>by subst e'; rw[hr] at hb; cases hb)]; exact hb⟩
 have sC:Sim νb (cU p v' (gz (ô v) x)) a' (Wa.putObj l (.loop r')):=sB.ckeep K (fun id k q es b hb hν=>World.putObj_heap_other (by have:=hmu id k q es b hb hν; omega)) (XN rfl _ (cU_mf _ _ _)) (abc rfl _ (cU_mft _ _ _))
 have evO:Ev 9 ν2 (cS p v).h w1 νb (cU p v' (gz (ô v) x)).h (Wa.putObj l (.loop r')):=evT.own (grownBy_putObj' Wa l _) fun q e=>by cases e; exact hl
 have hEnv2:=X9 (cP×cV);have law:=age p v' (gz (ô v) x) fun p v=>some (p,v)
 have hrow:uW v'=pre.map (gz (ô v)):=by rw[hv']; rfl
 rw[hrow] at law;simp only[dX,df,du,dm,hok,ë] at law;have hgo2:=J0 hEnv2 (path:=[]) rfl (Am.rfB (Am.rfC 7 Ġ)) 4 _ _ νb _ _ (fun h=>by rw[agD] at h; cases h) (fun z hz=>by rw[agB] at hz; cases hz) law sC (dA (show 9≤11 by decide) (Nat.le_of_eq (cU_len p v' (gz (ô v) x)).symm));refine wpIn_mono hgo2 fun e a3 W3 hb=>?_;obtain⟨νc,Sc,sD,evC,lenC,ddC,kC⟩:=hb;obtain⟨rfl,p',u',hm',hk'⟩:=EV kC;cases hk';obtain⟨νd,sE,evD,lD,dD⟩:=match_ok _ _ _ _ _ _ _ νc a3 W3 hm' sD;have evCD:=evC.trans evD (cQ _);refine⟨LH sC.heap hmu evCD,νd,?_⟩
 have hput:ğ v' (pre.map (gz (ô v))++[gz (ô v) x])=ğ v ((pre++[x]).map (gz (ô v))):=by
  rw[hv',gP]; rfl
 rw[←hput];exact⟨HR_ghost sE.heap,evO.trans evCD (cQ _)⟩
noncomputable def aee (G:Nat→Prop) (y:Val Ä) (w:World) (e:Ending) (w':World):Prop :=
 ∃u,e=.returned u∧RR w' G [Ä] y u∧(∀b,b<w.heap.size→w'.heap[b]?=w.heap[b]?)∧w.heap.size≤w'.heap.size∧w'.os=w.os∧w'.tape=w.tape∧w'.output=w.output
noncomputable def adQ (u:Val (tyL jy)):Val Ä:=((u.1,u.2.1),u.2.2.1,u.2.2.2.1,u.2.2.2.2.1,u.2.2.2.2.2.1,u.2.2.2.2.2.2)
def alE (p:cP) (v:cV):mT p v (fun y=>(fun u=>some (adQ u)) (kv y))=mT p v some:=by kernel_rfl
def aji (u:Val (tyL jy)):kv (adQ u)=u:=by kernel_rfl
def anz (y:Val Ä):(je pw [] jy () (kv y)).h.map abh=[false]:=by kernel_rfl
def alB {G:Nat→Prop} {p:cP} {v:cV} {y:Val Ä} {ν:Nat→Value} {a:Act} {w0 W:World} {D:Nat} (H:@Sim ⟨G,[],none⟩ ν (cS p v) a W) (hB:mT p v some=some y) (hD:W.heap[D]?=some (.deferred (some []))) (hnl:¬aed ν (cS p v).h D)
 (hev:Ev 0 (fun _=>undef) [] w0 ν (cS p v).h W) (hDl:w0.heap.size≤D) :
 (Am.postC 7 Ġ).wpIn Fence.wide 2 Tryz.prog (bodyPostM Fence.wide 2 Tryz.prog Tryz.f79 (aee G y w0)) {a with defers:=aeX D::a.defers} W:=by
 have hdf:a.defers=[]:=@Sim.defers ⟨G,[],none⟩ _ _ _ _ H
 letI:ù:=⟨G,[aeX D],none⟩
 have sim:Sim ν (cS p v) {a with defers:=aeX D::a.defers} W:=⟨by show aeX D::a.defers=[aeX D]; rw[hdf],(show _≤a.tmps.size from @Sim.len ⟨G,[],none⟩ _ _ _ _ H),fun i=>afH (@Sim.tmps ⟨G,[],none⟩ _ _ _ _ H i),HR_ghost (@Sim.heap ⟨G,[],none⟩ _ _ _ _ H)⟩;have hEnv:=X9 (Val Ä);have hdraw:∀L call,lF (Ĝ (Val Ä)) L call→lQ (Ĝ (Val Ä)) L call:=Ef hmix;have law:=aap p v fun u=>some (adQ u);rw[alE,hB] at law
 have hL:∀z∈ð 0 (Am.postC 7 Ġ),pX (Ĝ (Val Ä)) [] 79 z.1 z.2:=fun z hz =>
  Hu (E:=Ĝ (Val Ä)) (tab:=qR _) rfl K6 (n:=10) (cQ _) hEnv (hdraw _ _ hEnv) rfl Tryz.func79 qS z (ae0 7 Ġ 0 Gd hz)
 have hgo:=lh hEnv (hdraw _ _ hEnv) rfl (Am.postC 7 Ġ) 0 _ _ ν _ W hL law sim (ej _);rw[HJ rfl] at hgo;refine wpIn_wide.2 (wpIn_wide.1 (wpIn_mono hgo fun e a' W' ha=>?_));obtain⟨νa,Sa,sA,evA,_,_,kA⟩:=ha;obtain⟨rfl,u,hm,hk⟩:=ain kA;cases hk;obtain⟨νb,sB,evB,_,_⟩:=match_ok _ _ _ _ _ _ _ νa a' W' hm sA
 have hu:je pw [] jy () u=je pw [] jy () (kv (adQ u)):=by rw[aji]
 rw[hu] at sB evB;have evT:=(evA.trans evB (cQ _));have hD':W'.heap[D]?=some (.deferred (some [])):=(evT.keep D (Ė hD) hnl).1.trans hD;have hd':a'.defers=[aeX D]:=sB.defers;show LeavesInM _ _ _ _ _ _ a'.defers _ _;rw[hd'];refine⟨by simp,.inl ⟨D,_,rfl,run_takeDeferred hD',?_⟩⟩;have hlt:=Ė hD'
 have K:Χ W' (W'.putObj D (.deferred none)):=⟨by simp[World.putObj],fun b c e q hb=>by
  rw[World.putObj_heap_other (fun e'=>by subst e'; rw[hD'] at hb; cases hb)]; exact hb⟩
 have sC:=sB.ckeep K (fun id k q es b hb hν=>by
  have:=JT _ id (by rw[hb]; rfl);rw[anz] at this
  rcases id with _|id<;>simp at this) (XN rfl _ (cR_mf _)) (abc rfl _ (cR_mft _))
 obtain⟨uu,q1,q2⟩:=Ix sC (ac2 (adQ u));have hall:=hev.trans evT (cQ _);refine⟨uu,q1,uu,rfl,Vt sC.heap [Ä] q2 (show Đ [Ä] _ (enc Ä (adQ u))=some (adQ u) from rfl),fun b hb=>?_,?_,hall.os,hall.tape,hall.output⟩
 ·rw[World.putObj_heap_other (by omega)];exact(hall.keep b hb fun⟨_,h,_⟩=>by cases h).1
 ·have:=hall.size;simpa[World.putObj] using this
def alF (x:Val (.pair Ä (.pair (.slice Ã) (.slice Ã)))):Ge x.1 x.2.1 x.2.2 cutK=oR.F x:=by kernel_rfl
noncomputable def encG (g:Val Ð):Value:=.agg #[.int .i64 g.1,.int .i64 g.2.1,.int .i64 g.2.2.1,.int .i64 g.2.2.2.1.1,.int .i64 g.2.2.2.1.2,.int .i64 g.2.2.2.2.1.1,.int .i64 g.2.2.2.2.1.2,.int .i64 g.2.2.2.2.2]
def anh [ù] (g:Val Ð) (ν:Nat→Value) (h:List Blk) (w:World):VR ν h w (.agg (flat Ð g)) (encG g) :=
 ⟨_,rfl,⟨rfl,rfl⟩,⟨rfl,rfl⟩,⟨rfl,rfl⟩,⟨rfl,rfl⟩,⟨rfl,rfl⟩,⟨rfl,rfl⟩,⟨rfl,rfl⟩,⟨rfl,rfl⟩,trivial⟩
def alD (G:Nat→Prop) (x:Val (tyL oR.ts)) (y:Val Ä) (hF:oR.F x=some y) (w:World) (vals:List Value) (hG:∀b,G b→b<w.heap.size) (hAL:AL w G oR.ts x vals) :
 (∃fn c,Tryz.prog.funcs[79]?=some fn∧fn.body=some c)∧CallsIn Fence.wide 0 Tryz.prog 79 vals.toArray w (aee G y w):=by
 letI:ù:=⟨G,[],none⟩
 have hlib:M6 (Ų (Val Ä)):=MU Po _ rfl rfl rfl rfl rfl (Λ rfl);have hdraw:∀L call,lF (Ų (Val Ä)) L call→lQ (Ų (Val Ä)) L call:=Ef hmix;have hloops:aeb (Ų (Val Ä)):=fun n hn hE hD path f fn c hp hf hc=>Hu (tab:=DH _) rfl ac4 hn hE hD hp hf hc;have hcall:=mm (.inl ⟨rfl,rfl⟩) hlib hdraw (fun n hn hE=>hloops n hn hE (hdraw _ _ hE)) 10 (cQ _);have hEnv:lF (Ų (Val Ä)) 2 (jW (Ų (Val Ä)) 10):=⟨.inr (pU 9),hcall,hlib.plain,hlib.clone,hlib.joins⟩;have H:HR (fun _=>undef) [] w:=⟨fun _=>trivial,fun _ _ _ h=>(by cases h),hG,fun _ _ h=>(by cases h)⟩;have hav:∀b,Av (fun _=>undef) [] b→G b:=fun b hb=>hb.elim (fun⟨_,h,_⟩=>by cases h) id;have hargs:Ċ (VR (fun _=>undef) [] w) (ĉ oR.ts x) vals:=AL.VR (hAL.mono hav);refine⟨⟨Tryz.f79,_,Tryz.func79,qS⟩,?_⟩;have hlen:vals.length=3:=hargs.length.symm;refine callsIn_wide.2 (callsIn_wide.1 (callsIn_of_wp_marks (n:=2) Tryz.func79 qS trivial ?_ (R:=aee G y w)))
 have hS:Sim (fun _=>undef) {t:=ĉ oR.ts x++List.replicate 127 .any,h:=[]} {tmps:=vals.toArray++Array.replicate (Tryz.f79.ntmps-vals.toArray.size) undef,defers:=[]} w:=by
  refine⟨rfl,?_,fun i=>?_,H⟩
  ·have:Tryz.f79.ntmps=130:=by kernel_rfl
   have hl2:(ĉ oR.ts x).length=3:=rfl;simp[this,hlen,hl2]
  ·simp only[Qv];rcases dE i (ĉ oR.ts x).length with hi|hi
   ·have:=Ċ.lk (R:=VR (fun _=>undef) [] w) (fun _=>trivial) i hargs
    have hv:i<vals.length:=by rw[←hargs.length]; exact hi
    have h2:(vals.toArray++Array.replicate (Tryz.f79.ntmps-vals.toArray.size) undef).getD i undef=vals.getD i undef:=by
     simp[dP,fc,hv]
    rw[h2]; exact this
   ·rw[aiG _ _ hi]; trivial
 have law:=(ac3 x cutK).trans ((alF x).trans hF);refine peelN rfl hEnv (hdraw _ _ hEnv) rfl (path:=[]) rfl (fun e S hne h=>hne (EV h).1) 7 Ġ _ _ _ _ Gd (fun z hz=>hloops 10 (cQ _) hEnv (hdraw _ _ hEnv) [] 79 Tryz.f79 Ġ rfl Tryz.func79 qS z hz) law hS (fun ν1 S1 a1 w1 s1 e1 k1=>?_);obtain⟨_,p,v,hm,hk⟩:=EV k1;obtain⟨hrow,hk⟩:=adP hk
 cases hz:zW (ô v) (Ř v) with
 |none=>rw[hz] at hk; cases hk
 |some z =>
 rw[hz] at hk;have hB:mT p (ğ v z) some=some y:=hk;obtain⟨hzl,hzs⟩:=aiN hz;obtain⟨ν2,s2,e2,_,_⟩:=match_ok _ _ _ _ _ _ _ ν1 a1 w1 hm s1;have evw:=e1.trans e2 (cQ _)
 have hv0:ğ v []=v:=by rw[←hrow]; rfl
 have s2':Sim ν2 (cS p v) a1 w1:=s2
 -- the blocks
 obtain⟨fa,fb,us,lo,co,ko,h5⟩:=cS_5 p v;have hB5:=s2'.heap.blk 5;rw[h5] at hB5;obtain⟨bb,cb,te,n5,hbb,hc5⟩:=hB5;have hB6:=s2'.heap.blk 6;rw[cS_6] at hB6;obtain⟨tb,ct,tt,n6,htb,hc6⟩:=hB6;have hl5:=hc5.length
 obtain⟨u1,u2,u3,u4,u5,u6,u7,hcb⟩:∃u1 u2 u3 u4 u5 u6 u7,cb.toList=[u1,u2,u3,u4,u5,u6,u7]:=by
  rcases hcs:cb.toList with _|⟨u1,_|⟨u2,_|⟨u3,_|⟨u4,_|⟨u5,_|⟨u6,_|⟨u7,_|⟨u8,t⟩⟩⟩⟩⟩⟩⟩⟩<;>rw[hcs] at hl5<;>simp at hl5
  exact⟨u1,u2,u3,u4,u5,u6,u7,rfl⟩
 rw[hcb] at hc5;obtain⟨_,_,hc3,_⟩:=hc5;have hg3:CR w1 (Av ν2 (cS p v).h) (.slice Ð) (ô v) [u3]:=hc3.1;obtain⟨base,cap,eu3,hcap,hgl⟩:=hg3
 have eu3:u3=.slice base (ô v).length cap:=by simpa using eu3
 obtain⟨gb,go,hgb⟩:∃gb go,0<(ô v).length→base=some ⟨gb,go,none⟩∧¬Av ν2 (cS p v).h gb∧gb<w1.heap.size∧∀(i:Nat) (g:Val Ð),(ô v)[i]?=some g→∃us,CR w1 (Av ν2 (cS p v).h) Ð g us∧Ľ w1 gb (go+i*8) us:=by
  rcases hgl with hgl|⟨gb,go,q1,q2,q3,q4⟩
  ·exact⟨0,0,fun h=>by rw[show(ô v)=[] from hgl] at h; simp at h⟩
  ·exact⟨gb,go,fun _=>⟨q1,q2,q3,q4⟩⟩
 obtain⟨gl,hgle⟩:∃gl,gl=ô v:=⟨_,rfl⟩;rw[←hgle] at hgb eu3
 have hR:∀b,(0<gl.length∧b=gb)→b<w1.heap.size∧¬aed ν2 (cS p v).h b:=fun b ⟨h,e⟩=>by subst e; obtain⟨_,q2,q3,_⟩:=hgb h; exact⟨q3,fun hl=>q2 (.inl hl)⟩
 have hnd:∀pre W,CI G p v ν2 w1 pre W→KNd w1 (fun b=>0<gl.length∧b=gb) tb (Ř v) W:=fun pre W hI=>hI.nd s2'.heap hR n6
 have hI0:CI G p v ν2 w1 [] w1:=by
  refine⟨ν2,?_,?_⟩
  ·rw[show ğ v (([]:List Nat).map (gz (ô v)))=v from hv0]; exact s2'.heap
  ·rw[show ğ v (([]:List Nat).map (gz (ô v)))=v from hv0]; exact Ev.refl _ _ _ _
 have hp59:=s2'.tmps 59;rw[cS_59] at hp59
 have hg:a1.tmps.getD 59 undef=.func (.func 212) #[] #[.pointer (some ⟨bb,0,none⟩),.pointer (some ⟨tb,0,none⟩)]:=by
  obtain⟨fs,cs,h1,h2,h3⟩:=hp59
  have e1:fs=#[]:=by rw[←dQ]; exact h2.nil_left
  have hl:=h3.length
  obtain⟨v1,v2,e2⟩:∃v1 v2,cs.toList=[v1,v2]:=by
   rcases hcs:cs.toList with _|⟨v1,_|⟨v2,_|⟨v3,t⟩⟩⟩<;>rw[hcs] at hl<;>simp at hl
   exact⟨v1,v2,rfl⟩
  rw[e2] at h3;have e3:v1=.pointer (some ⟨bb,0,none⟩):=zx (w:=w1) (id:=5) (off:=0) h3.1 n5;have e4:v2=.pointer (some ⟨tb,0,none⟩):=zx (w:=w1) (id:=6) (off:=0) h3.2.1 n6;rw[h1,e1];congr 1;rw[←dQ,e2,e3,e4]
 have hcbe:cb=#[u1,u2,.slice base gl.length cap,u4,u5,u6,u7]:=by rw[←dQ,hcb,eu3]
 have hseq:SeqStopsK Fence.wide 1 Tryz.prog 212 #[.pointer (some ⟨bb,0,none⟩),.pointer (some ⟨tb,0,none⟩)] (fun j:Nat=>#[encG (gz gl j)]) (fun A B=>KNd w1 (fun b=>0<gl.length∧b=gb) tb (Ř v) A→KNd w1 (fun b=>0<gl.length∧b=gb) tb (Ř v) B)
  (fun xs=>xs=RF (fun j=>L1 (Ř v) (gz gl j).1) gl.length) (fun _=>True) (RF (fun j=>L1 (Ř v) (gz gl j).1) gl.length).length w1:=by
  intro l J Jx W hbel hJ hJx hY h0
  refine am7 te 1 (by omega) l bb tb u1 u2 u4 u5 u6 u7 gb go gl.length cap base (fun h=>(hgb h).1) (fun j=>(gz gl j).1) (fun j=>(gz gl j).2.1) (fun j=>(gz gl j).2.2.1) (fun j=>(gz gl j).2.2.2.1.1) (fun j=>(gz gl j).2.2.2.1.2) (fun j=>(gz gl j).2.2.2.2.1.1) (fun j=>(gz gl j).2.2.2.2.1.2) (fun j=>(gz gl j).2.2.2.2.2)
   (fun j=>L1 (Ř v) (gz gl j).1) ?len (KNd w1 (fun b=>0<gl.length∧b=gb) tb (Ř v)) W ((hbel.block bb (Ė hbb)).trans (by rw[hbb,hcbe])) ?cells ?maps (fun W1 W2 h hg=>h.grown (fun b hb=>(hR b hb).1) hg) ((hnd [] w1 hI0).below (fun b hb=>(hR b hb).1) hbel.size hbel.block)
   J Jx (fun pre W1 W2 hj hg=>hJ pre W1 W2 none hj hg (fun r e=>by cases e)) (fun pre W1 W2 hj hg=>hJx pre W1 W2 none hj hg (fun r e=>by cases e)) (fun pre j W1 hj hl=>hY pre j W1 hj hl) h0
  case len =>
   have:=hzl;rw[←hgle] at this;simp only[ì,decide_eq_true_eq] at this;omega
  case cells =>
   intro W' hW j hj;obtain⟨q1,q2,q3,q4⟩:=hgb (by omega);obtain⟨vs,r1,r2⟩:=q4 j (gz gl j) (by simp[gz,cO hj]);have r2:=r2.keep (w':=W') (hW.2.1 gb ⟨by omega,rfl⟩);rw[adE r1] at r2;refine⟨?_,?_,?_,?_,?_,?_,?_,?_⟩
   ·simpa using r2 0 _ rfl
   ·simpa[fg] using r2 1 _ rfl
   ·simpa[fg] using r2 2 _ rfl
   ·simpa[fg] using r2 3 _ rfl
   ·simpa[fg] using r2 4 _ rfl
   ·simpa[fg] using r2 5 _ rfl
   ·simpa[fg] using r2 6 _ rfl
   ·simpa[fg] using r2 7 _ rfl
  case maps =>
   intro W' hW;obtain⟨_,_,h3,mb,h4,h5,h6⟩:=id hW;refine⟨.map (some mb),fun W'' hg=>?_⟩;obtain⟨k1,_,k3,mb',k4,k5,k6⟩:=hW.grown (fun b hb=>(hR b hb).1) hg
   have:mb'=mb:=by
    have e:=World.cell?_of_block (a:=⟨tb,0,none⟩) (hg.block tb (dv h3 hW.1) (by simp));rw[e,h5] at k5;cases k5; rfl
   subst this;exact⟨k5,fun j _=>alb k6 _⟩
 rw[agd];refine wpIn_block (RI (n:=2) rfl (by omega) hg trivial (fun args w=>?eg) hseq (fun h k=>fun q=>k (h q)) (fun W l o o' hl ho _ _ hW=>?kb) (Below.refl _ _) (fun _=>rfl) (CI G p v ν2 w1) (CI.own s2'.heap) hI0 (fun l pre j W hl _ hI hlt=>?round) (fun D xs W hD hxs hI hDo=>?done))
 case eg=>simp[callFunc,Sem.run_bind,run_program,Result.andThen_ok,Tryz.func212,plain 212 _ Tryz.func212,show Tryz.f212.body.isNone=false from rfl]; rfl
 case kb=>exact hW.below (fun b hb=>(hR b hb).1) (by simp[World.putObj]) fun b hb=>World.putObj_heap_other (by omega)
 case round =>
  have hf:∀u:Value,((#[60]:Array Tmp).zip #[u]).foldl (fun t (p,v)=>t.setIfInBounds p v) a1.tmps=a1.tmps.setIfInBounds 60 u:=fun u=>by simp
  show Code.wpIn (Fence.wide.inRound l) 0 Tryz.prog _ _ ⟨((#[60]:Array Tmp).zip #[encG (gz gl j)]).foldl (fun t (p,v)=>t.setIfInBounds p v) a1.tmps,[]⟩ W;rw[hf];refine wpIn_mono (ajj s2' l pre j W hl hI ?_ (u:=encG (gz gl j)) (by rw[hgle]; exact fun ν h w=>anh _ ν h w)) fun e a' Wa ha=>?_
  ·refine akY hzl ?_;have:=act (fun j=>L1 (Ř v) (gz gl j).1) gl.length;rw[←hgle];omega
  ·cases e with
   |normal =>
    refine⟨ha.1,fun r' hr=>wpIn_mono (ha.2 r' hr) fun e a3 W3 hb=>?_⟩
    cases e with
    |normal=>exact⟨hb.1,fun _=>hnd _ _ hb.2,hb.2⟩
    |_=>exact hb
   |_=>exact ha
 case done =>
  subst hxs;obtain⟨ν',Hd,evd⟩:=hI
  have hzz:(RF (fun j=>L1 (Ř v) (gz gl j).1) gl.length).map (gz (ô v))=z:=by rw[hzs,hgle]
  rw[hzz] at Hd evd;have hml:=zM s2'.heap evd (alY p v) (ad3 _ _) (t:=[false]) (by simp);have ht:(cS p (ğ v z)).t=(cS p v).t:=cS_t _ _ _
  have simD:Sim ν' (cS p (ğ v z)) a1 W:=by
   refine⟨s2'.defers,?_,fun i=>?_,Hd⟩
   ·rw[ht]; exact s2'.len
   ·rw[ht]; exact VR.pin evd (abc rfl _ (amB p v) i) (s2'.tmps i)
  exact alB simD hB hDo (UH Hd hml hD hDo rfl) (evw.trans (evd.mono (ej _)) (cQ _)) (dA evw.size hD)
def ajC:Ñ Tryz.prog 79 oR:=fun G x y hF w vals hG hAL=>alD G x y hF w vals hG hAL
end Go.Proofs.ZzM
end

noncomputable section
set_option maxRecDepth 100000
namespace Go.Proofs.ZzM
open Go Go.Am
def agP:Ñ Tryz.prog 33 TX:=È (KH _) (fun {_}=>ě Æ _) hmix (tab:=Bl _) rfl Æ (Å fun x=>RO x some)
def alN:Ñ Tryz.prog 7 aeH:=È (IM _) (fun {_}=>ě (Á agP Æ) _) hmix (tab:=KG _) rfl (Á RN Æ) (Å fun x=>ZW x some)
def jp:Ñ Tryz.prog 119 Ů:=È (Ŝ _) (fun {_}=>ě Æ _) hmix (tab:=gV _) rfl (Á kO Æ) (Å fun x=>lX x some)
def iU:Ñ Tryz.prog 53 iN:=È (Qr _) (fun {_}=>ě (Á Ļ (Á Ro (Á jp Æ))) _) hmix (tab:=Ht _) rfl Æ (Å fun x=>XK x some)
def kj:Ñ Tryz.prog 50 jg:=È (FQ _) (fun {_}=>ě (Á iU Æ) _) hmix (tab:=ya _) rfl Æ (Å fun x=>Pg x some)
def Yi:Ñ Tryz.prog 173 Nh:=È (Us _) (fun {_}=>ě Æ _) hmix (tab:=Ld _) rfl Æ (Å fun x=>aaC x some)
def zu:Ñ Tryz.prog 146 sH:=È (DR _) (fun {_}=>ě (Á Yi Æ) _) hmix (tab:=GF _) rfl (Á PO Æ) (Å fun x=>Xd x some)
def zt:Ñ Tryz.prog 147 qk:=È (δ _) (fun {_}=>ě Æ _) hmix (tab:=wL _) rfl (Á Gy (Á Gx (Á Gv (Á Gw (Á Gu Æ))))) (Å fun x=>MH x some)
def ajG:Ñ Tryz.prog 184 Zw:=È (DQ _) (fun {_}=>ě (Á zu (Á zt (Á Yi Æ))) _) hmix (tab:=GB _) rfl (Á PG Æ) (Å fun x=>Xb x some)
def ag3:Ñ Tryz.prog 185 Ub:=È (jk _) (fun {_}=>ě Æ _) hmix (tab:=BX _) rfl (Á MN (Á MM (Á ML (Á MJ (Á MK Æ))))) (Å fun x=>SZ x some)
def Rk:Ñ Tryz.prog 118 EL:=È (PU _) (fun {_}=>ě (Á ajG (Á ag3 Æ)) _) hmix (tab:=GJ _) rfl Æ (Å fun x=>Xf x some)
def jX:Ñ Tryz.prog 52 iW:=È (wA _) (fun {_}=>ě (Á Rk Æ) _) hmix (tab:=qO _) rfl Æ (Å fun x=>FP x some)
def Cy:Ñ Tryz.prog 96 rH:=È (wz _) (fun {_}=>ě (Á kj (Á jX Æ)) _) hmix (tab:=qN _) rfl Æ (Å fun x=>FO x some)
def uq:Ñ Tryz.prog 97 lT:=È (pq _) (fun {_}=>ě (Á kj (Á jX Æ)) _) hmix (tab:=mS _) rfl Æ (Å fun x=>xZ x some)
def mn:Ñ Tryz.prog 42 jt:=È (kd _) (fun {_}=>MU (Á Cy (Á uq Æ)) (kd _) rfl rfl rfl rfl rfl (Λ rfl)) hmix (tab:=mR _) rfl Æ (Å fun x=>xY x some)
def mG:Ñ Tryz.prog 54 mu:=È (JQ _) (fun {_}=>ě (Á Ļ Æ) _) hmix (tab:=LD _) rfl (Á Tw Æ) (Å fun x=>aa7 x some)
def LR:Ñ Tryz.prog 205 xr:=È (Cn _) (fun {_}=>ě (Á jp Æ) _) hmix (tab:=wT _) rfl Æ (Å fun x=>MR x some)
def alV:Ñ Tryz.prog 207 aeP:=È (zS _) (fun {_}=>ě (Á mo Æ) _) hmix (tab:=Lu _) rfl (Á Ti (Á Th Æ)) (Å fun x=>aaZ x some)
def MX:Ñ Tryz.prog 258 wj:=È (rj _) (fun {_}=>ě Æ _) hmix (tab:=nH _) rfl Æ (Å fun x=>A2 x some)
def zw:Ñ Tryz.prog 261 sI:=È (DS _) (fun {_}=>ě (Á If Æ) _) hmix (tab:=GK _) rfl (Á PW Æ) (Å fun x=>Xg x some)
def Rl:Ñ Tryz.prog 285 CV:=È (GM _) (fun {_}=>ě (Á aft (Á ajJ Æ)) _) hmix (tab:=yM _) rfl Æ (Å fun x=>PY x some)
def anw:Ñ Tryz.prog 275 ahT:=È (aaP _) (fun {_}=>ě (Á zw (Á Rl Æ)) _) hmix (tab:=P5 _) rfl Æ (Å fun x=>adj x some)
def Yk:Ñ Tryz.prog 259 EO:=È (yP _) (fun {_}=>ě (Á anw Æ) _) hmix (tab:=tO _) rfl Æ (Å fun x=>JI x some)
def adZ:Ñ Tryz.prog 291 acF:=È (aaN _) (fun {_}=>ě Æ _) hmix (tab:=P2 _) rfl Æ (Å fun x=>adh x some)
def Cz:Ñ Tryz.prog 286 Bh:=È (wQ _) (fun {_}=>ě (Á zw (Á adZ Æ)) _) hmix (tab:=ri _) rfl Æ (Å fun x=>GQ x some)
def ajL:Ñ Tryz.prog 289 ahU:=È (aaR _) (fun {_}=>ě (Á zw (Á Rl Æ)) _) hmix (tab:=P7 _) rfl Æ (Å fun x=>adl x some)
def ajK:Ñ Tryz.prog 276 Zz:=NW (DU _) (aaQ _) (fun {_}=>MU (Á If (Á Cz (Á ajL (Á adZ Æ)))) (DU _) rfl rfl rfl rfl rfl (Λ rfl)) (fun {_}=>ě (Á If (Á Cz (Á ajL (Á adZ Æ)))) _) rfl hmix (tab:=vm _) rfl Æ (us:=Ln) rfl (Á (by kernel_rfl) Æ) (Å fun x=>Xl x some)
def Yj:Ñ Tryz.prog 260 EN:=È (yO _) (fun {_}=>ě (Á ajK Æ) _) hmix (tab:=tN _) rfl Æ (Å fun x=>JH x some)
def U6:Ñ Tryz.prog 243 IH:=È (Lx _) (fun {_}=>ě (Á Rn (Á Ig (Á MX (Á Yk (Á Yj Æ))))) _) hmix (tab:=Cq _) rfl Æ (Å fun x=>Tp x some)
def abX:Ñ Tryz.prog 244 Oc:=È (Qo _) (fun {_}=>ě Æ _) hmix (tab:=Hc _) rfl Æ (Å fun x=>XC x some)
def abV:Ñ Tryz.prog 262 N9:=È (P1 _) (fun {_}=>ě Æ _) hmix (tab:=GN _) rfl Æ (Å fun x=>Xj x some)
def abW:Ñ Tryz.prog 245 Oa:=È (P8 _) (fun {_}=>ě (Á zw (Á abV Æ)) _) hmix (tab:=GR _) rfl Æ (Å fun x=>Xm x some)
def afu:Ñ Tryz.prog 246 VF:=È (UB _) (fun {_}=>ě (Á zw (Á abV Æ)) _) hmix (tab:=Lq _) rfl Æ (Å fun x=>aaT x some)
def afv:Ñ Tryz.prog 208 VG:=È (UC _) (fun {_}=>ě (Á U6 (Á abX (Á abW (Á afu Æ)))) _) hmix (tab:=Ls _) rfl Æ (Å fun x=>aaW x some)
def afw:Ñ Tryz.prog 74 VH:=È (tP _) (fun {_}=>ě (Á Ro (Á afx (Á Ig (Á LR (Á alV (Á afv Æ)))))) _) hmix (tab:=Lt _) rfl (Á Tf (Á Tg (Á Te Æ))) (Å fun x=>aaY x some)
def ś:Ñ Tryz.prog 77 ŗ:=È (LB _) (fun {_}=>ě (Á Ļ (Á afw Æ)) _) hmix (tab:=Cr _) rfl Æ (Å fun x=>Tu x some)
def Ŏ:Ñ Tryz.prog 108 ŋ:=È (wN _) (fun {_}=>ě (Á zu (Á zt Æ)) _) hmix (tab:=qY _) rfl Æ (Å fun x=>GC x some)
def LQ:Ñ Tryz.prog 9 xq:=È (rP _) (fun {_}=>ě (Á mn (Á Ļ (Á iU (Á mG (Á ś (Á Ŏ Æ)))))) _) hmix (tab:=wD _) rfl (Á Gq Æ) (Å fun x=>MA x some)
def U7:Ñ Tryz.prog 114 II:=È (LF _) (fun {_}=>ě (Á U5 (Á Ig Æ)) _) hmix (tab:=Cs _) rfl Æ (Å fun x=>Tx x some)
def afq:Ñ Tryz.prog 44 VA:=È (Ur _) (fun {_}=>ě (Á U7 Æ) _) hmix (tab:=K3 _) rfl Æ (Å fun x=>aal x some)
def abT:Ñ Tryz.prog 45 N5:=È (Pm _) (fun {_}=>ě Æ _) hmix (tab:=Gc _) rfl Æ (Å fun x=>WO x some)
def abQ:Ñ Tryz.prog 46 N4:=È (DG _) (fun {_}=>ě (Á Ś Æ) _) hmix (tab:=Gb _) rfl (Á Ph Æ) (Å fun x=>WM x some)
def afr:Ñ Tryz.prog 10 VC:=È (zP _) (fun {_}=>ě (Á mn (Á Ļ (Á afq (Á abT (Á abQ (Á iU (Á mG (Á ś (Á Ŏ Æ))))))))) _) hmix (tab:=Lb _) rfl (Á SS (Á SQ Æ)) (Å fun x=>aax x some)
def Ri:Ñ Tryz.prog 12 CT:=È (ve _) (fun {_}=>ě (Á Ļ (Á kj (Á jX (Á iU (Á mG (Á ś (Á Ŏ Æ))))))) _) hmix (tab:=yz _) rfl (Á Jt Æ) (Å fun x=>PC x some)
def abU:Ñ Tryz.prog 148 N8:=È (Jy _) (fun {_}=>ě Æ _) hmix (tab:=aaD _) rfl (Á adc (Á ada (Á ac9 (Á adb Æ)))) (Å fun x=>air x some)
def ajH:Ñ Tryz.prog 78 Zx:=È (kf _) (fun {_}=>ě (Á zu (Á zt (Á abU Æ))) _) hmix (tab:=GD _) rfl (Á PM (Á PI (Á PJ (Á PK (Á PL Æ))))) (Å fun x=>Xc x some)
def Rh:Ñ Tryz.prog 80 CS:=È (uR _) (fun {_}=>ě (Á ś Æ) _) hmix (tab:=xX _) rfl (Á I9 Æ) (Å fun x=>Pf x some)
def ajF:Ñ Tryz.prog 24 Zv:=È (Pz _) (fun {_}=>ě (Á ś (Á ajH (Á ajC (Á Rh Æ)))) _) hmix (tab:=Gr _) rfl Æ (Å fun x=>W5 x some)
def abN:Ñ Tryz.prog 34 KB:=È (Bk _) (fun {_}=>ě Æ _) hmix (tab:=wk _) rfl Æ (Å fun x=>L9 x some)
def Eg:Ñ Tryz.prog 93 CQ:=È (FC _) (fun {_}=>ě Æ _) hmix (tab:=xW _) rfl Æ (Å fun x=>Pe x some)
def ajE:Ñ Tryz.prog 35 Zu:=È (DL _) (fun {_}=>ě (Á mn (Á Ļ (Á iU (Á mG (Á ś (Á Eg (Á Ŏ Æ))))))) _) hmix (tab:=Gp _) rfl (Á Pw Æ) (Å fun x=>W0 x some)
def ajI:Ñ Tryz.prog 95 Zy:=È (pB _) (fun {_}=>ě (Á Rk (Á abU Æ)) _) hmix (tab:=GI _) rfl (Á PS (Á PQ (Á PR Æ))) (Å fun x=>Xe x some)
def Yh:Ñ Tryz.prog 94 EK:=È (yy _) (fun {_}=>ě (Á kj (Á ajI Æ)) _) hmix (tab:=tz _) rfl Æ (Å fun x=>Js x some)
def adY:Ñ Tryz.prog 36 N7:=È (ld _) (fun {_}=>MU (Á Ļ (Á iU (Á mG (Á ś (Á ajC (Á Rh (Á Yh (Á Cy (Á uq (Á Ŏ Æ)))))))))) (ld _) rfl rfl rfl rfl rfl (Λ rfl)) hmix (tab:=yx _) rfl (Á Jr (Á Jq Æ)) (Å fun x=>PB x some)
def afy:Ñ Tryz.prog 167 VK:=È (JO _) (fun {_}=>ě (Á Ļ Æ) _) hmix (tab:=LA _) rfl (Á Tt Æ) (Å fun x=>aa5 x some)
def ajN:Ñ Tryz.prog 215 ZB:=È (Qc _) (fun {_}=>ě (Á U6 (Á abX (Á abW (Á afu Æ)))) _) hmix (tab:=GU _) rfl Æ (Å fun x=>Xq x some)
def ad2:Ñ Tryz.prog 166 Od:=È (Hq _) (fun {_}=>ě (Á afw (Á Rk (Á afy (Á Ig (Á LR (Á ajN Æ)))))) _) hmix (tab:=yW _) rfl Æ (Å fun x=>Qq x some)
def ajM:Ñ Tryz.prog 217 ZA:=È (Qa _) (fun {_}=>ě (Á Ļ Æ) _) hmix (tab:=GS _) rfl Æ (Å fun x=>Xp x some)
def alX:Ñ Tryz.prog 168 aeR:=È (UD _) (fun {_}=>ě (Á afv (Á ajM Æ)) _) hmix (tab:=LC _) rfl Æ (Å fun x=>aa6 x some)
def abS:Ñ Tryz.prog 169 KD:=È (BN _) (fun {_}=>ě (Á kj Æ) _) hmix (tab:=wC _) rfl Æ (Å fun x=>Mw x some)
def abR:Ñ Tryz.prog 170 KC:=È (BM _) (fun {_}=>ě (Á jX Æ) _) hmix (tab:=wB _) rfl Æ (Å fun x=>Mv x some)
def Kj:Ñ Tryz.prog 98 IF:=È (qQ _) (fun {_}=>MU (Á kj (Á ś (Á U7 (Á ad2 (Á afy (Á alX (Á abS (Á abR Æ)))))))) (qQ _) rfl rfl rfl rfl rfl (Λ rfl)) hmix (tab:=BL _) rfl (Á Mu Æ) (Å fun x=>SK x some)
def vZ:Ñ Tryz.prog 101 uC:=È (yf _) (fun {_}=>ě Æ _) hmix (tab:=tc _) rfl Æ (Å fun x=>Je x some)
def ag0:Ñ Tryz.prog 172 T8:=È (K5 _) (fun {_}=>ě Æ _) hmix (tab:=BO _) rfl Æ (Å fun x=>SL x some)
def sj:Ñ Tryz.prog 105 rE:=È (wn _) (fun {_}=>ě (Á ag0 Æ) _) hmix (tab:=qB _) rfl Æ (Å fun x=>FA x some)
def sk:Ñ Tryz.prog 106 rG:=È (j1 _) (fun {_}=>ě Æ _) hmix (tab:=qC _) rfl (Á AH (Á AI Æ)) (Å fun x=>FB x some)
def Rg:Ñ Tryz.prog 99 xp:=È (l5 _) (fun {_}=>ě (Á Ś (Á vZ (Á sj (Á sk Æ)))) _) hmix (tab:=oV _) rfl (Á xV Æ) (Å fun x=>Df x some)
def ajD:Ñ Tryz.prog 37 Zt:=È (DJ _) (fun {_}=>ě (Á Ļ (Á iU (Á mG (Á ś (Á Kj (Á Rg (Á Ŏ Æ))))))) _) hmix (tab:=Gf _) rfl (Á Pq Æ) (Å fun x=>WW x some)
def Ic:Ñ Tryz.prog 102 EJ:=È (yi _) (fun {_}=>ě Æ _) hmix (tab:=tq _) rfl Æ (Å fun x=>Jl x some)
def Ib:Ñ Tryz.prog 103 EI:=È (yg _) (fun {_}=>ě Æ _) hmix (tab:=td _) rfl Æ (Å fun x=>Jf x some)
def adX:Ñ Tryz.prog 38 N6:=NW (uX _) (Ē _) (fun {_}=>MU (Á Ļ (Á iU (Á mG (Á ś (Á Eg (Á Kj (Á Ś (Á vZ (Á Ic (Á Ib (Á sj (Á sk (Á Ŏ Æ))))))))))))) (uX _) rfl rfl rfl rfl rfl (Λ rfl)) (fun {_}=>MU (Á Ļ (Á iU (Á mG (Á ś (Á Eg (Á Kj (Á Ś (Á vZ (Á Ic (Á Ib (Á sj (Á sk (Á Ŏ Æ))))))))))))) (Ē _) rfl rfl rfl rfl rfl (Λ rfl)) rfl hmix (tab:=pz _) rfl (Á Jk (Á Jj Æ)) (us:=rN) rfl (Á (by kernel_rfl) Æ) (Å fun x=>Ps x some)
def Rj:Ñ Tryz.prog 155 CU:=È (vg _) (fun {_}=>ě Æ _) hmix (tab:=yB _) rfl (Á Jw Æ) (Å fun x=>PE x some)
def afs:Ñ Tryz.prog 156 VD:=È (Ju _) (fun {_}=>ě Æ _) hmix (tab:=Lc _) rfl (Á SX Æ) (Å fun x=>aaB x some)
def TE:Ñ Tryz.prog 81 Bf:=È (wO _) (fun {_}=>ě (Á zu (Á Rj (Á afs Æ))) _) hmix (tab:=rc _) rfl Æ (Å fun x=>GG x some)
def TD:Ñ Tryz.prog 25 Be:=È (wE _) (fun {_}=>ě (Á Ļ (Á ś (Á TE Æ))) _) hmix (tab:=qW _) rfl Æ (Å fun x=>Gs x some)
def TF:Ñ Tryz.prog 107 Bg:=È (wP _) (fun {_}=>ě (Á zu (Á Rj (Á afs (Á Yi Æ)))) _) hmix (tab:=re _) rfl Æ (Å fun x=>GH x some)
def Ie:Ñ Tryz.prog 40 uD:=È (yw _) (fun {_}=>ě (Á Ļ (Á iU (Á ś (Á TF Æ)))) _) hmix (tab:=tx _) rfl Æ (Å fun x=>Jp x some)
def nB:Ñ Tryz.prog 233 iM:=È (ņ _) (fun {_}=>ě Æ _) hmix (tab:=Ρ _) rfl (Á j9 Æ) (Å fun x=>kQ x some)
def lL:Ñ Tryz.prog 190 ο:=È (Β _) (fun {_}=>ě (Á nB Æ) _) hmix (tab:=Ũ _) rfl Æ (Å fun x=>jO x some)
def si:Ñ Tryz.prog 235 jK:=È (ů _) (fun {_}=>ě Æ _) hmix (tab:=iP _) rfl (Á lW Æ) (Å fun x=>nr x some)
def ot:Ñ Tryz.prog 193 i8:=È (ik _) (fun {_}=>ě (Á si Æ) _) hmix (tab:=υ _) rfl Æ (Å fun x=>lK x some)
def pV:Ñ Tryz.prog 237 jf:=È (ŝ _) (fun {_}=>ě Æ _) hmix (tab:=gW _) rfl (Á kP Æ) (Å fun x=>lY x some)
def nk:Ñ Tryz.prog 196 ii:=È (χ _) (fun {_}=>ě (Á pV Æ) _) hmix (tab:=Α _) rfl Æ (Å fun x=>kJ x some)
def Yg:Ñ Tryz.prog 55 VB:=È (Η _) (fun {_}=>ě (Á lL (Á ot (Á nk Æ))) _) hmix (tab:=K4 _) rfl (Á SI (Á SF (Á SE (Á SG (Á SH (Á SD (Á SC (Á SB (Á SA (Á Sz Æ)))))))))) (Å fun x=>aam x some)
def ag1:Ñ Tryz.prog 39 T9:=È (La _) (fun {_}=>ě (Á TD (Á Ie (Á Ļ (Á Yg Æ)))) _) hmix (tab:=BS _) rfl Æ (Å fun x=>SP x some)
def adV:Ñ Tryz.prog 8 N0:=È (E4 _) (fun {_}=>ě (Á LQ (Á afr (Á Ri (Á ajF (Á abN (Á ajE (Á adY (Á ajD (Á adX (Á ag1 (Á Ie Æ))))))))))) _) hmix (tab:=xw _) rfl Æ (Å fun x=>Ou x some)
def Yf:Ñ Tryz.prog 51 EH:=È (à _) (fun {_}=>ě (Á jX Æ) _) hmix (tab:=sS _) rfl (Á DE (Á Dt (Á Dp (Á Dn (Á Dl (Á Dk (Á Di (Á Dj (Á Dm (Á AZ (Á AX (Á AY (Á Dq (Á AW (Á AR (Á AQ (Á AO (Á AP (Á AU (Á AM (Á AJ (Á AK Æ)))))))))))))))))))))) (Å fun x=>Ja x some)
def ag2:Ñ Tryz.prog 11 Ua:=È (kw _) (fun {_}=>ě (Á Ļ (Á afq (Á abT (Á abQ (Á jI (Á kj (Á Yf (Á iU (Á mG (Á ś (Á Ŏ Æ))))))))))) _) hmix (tab:=BW _) rfl (Á ME (Á MD (Á MC (Á MB Æ)))) (Å fun x=>SU x some)
def ajs:Ñ Tryz.prog 13 Zj:=È (C0 _) (fun {_}=>ě (Á iU (Á mG Æ)) _) hmix (tab:=EY _) rfl (Á Ot Æ) (Å fun x=>V1 x some)
def alU:Ñ Tryz.prog 14 aeO:=NW (Jm _) (ac6 _) (fun {_}=>MU (Á Ļ (Á Yg Æ)) (Jm _) rfl rfl rfl rfl rfl (Λ rfl)) (fun {_}=>ě (Á Ļ (Á Yg Æ)) _) rfl hmix (tab:=yj _) rfl Æ (us:=Pu) rfl (Á (by kernel_rfl) Æ) (Å fun x=>aay x some)
def rC:Ñ Tryz.prog 56 mH:=È (Bn _) (fun {_}=>ě Æ _) hmix (tab:=wm _) rfl Æ (Å fun x=>Ma x some)
def Re:Ñ Tryz.prog 132 IE:=È (Z7 _) (fun {_}=>ě Æ _) hmix (tab:=OY _) rfl Æ (Å fun x=>acO x some)
def Nz:Ñ Tryz.prog 62 EG:=È (Ul _) (fun {_}=>ě (Á Re Æ) _) hmix (tab:=KQ _) rfl Æ (Å fun x=>aaa x some)
def afo:Ñ Tryz.prog 197 Vy:=È (I5 _) (fun {_}=>ě Æ _) hmix (tab:=KW _) rfl (Á Su Æ) (Å fun x=>aah x some)
def afp:Ñ Tryz.prog 198 Vz:=È (Uq _) (fun {_}=>ě Æ _) hmix (tab:=KZ _) rfl Æ (Å fun x=>aak x some)
def agX:Ñ Tryz.prog 131 T5:=È (KR _) (fun {_}=>ě (Á afo (Á afp Æ)) _) hmix (tab:=BH _) rfl Æ (Å fun x=>Sr x some)
def agT:Ñ Tryz.prog 57 T1:=È (KL _) (fun {_}=>ě (Á rC (Á Nz (Á agX (Á Re Æ)))) _) hmix (tab:=Br _) rfl Æ (Å fun x=>RU x some)
def Ia:Ñ Tryz.prog 134 xo:=È (Dc _) (fun {_}=>ě Æ _) hmix (tab:=Ft _) rfl (Á O0 Æ) (Å fun x=>Wt x some)
def Az:Ñ Tryz.prog 63 sG:=È (KN _) (fun {_}=>ě (Á Ia Æ) _) hmix (tab:=Bv _) rfl Æ (Å fun x=>Sb x some)
def ajt:Ñ Tryz.prog 58 Zk:=È (C2 _) (fun {_}=>ě (Á Nz (Á Az Æ)) _) hmix (tab:=E7 _) rfl (Á Ow Æ) (Å fun x=>V5 x some)
def agR:Ñ Tryz.prog 59 TZ:=È (mP _) (fun {_}=>ě (Á rC (Á Az (Á Re Æ))) _) hmix (tab:=Bp _) rfl (Á Mc (Á Mb (Á Md Æ))) (Å fun x=>RS x some)
def ajx:Ñ Tryz.prog 133 Zo:=È (C7 _) (fun {_}=>ě (Á Re Æ) _) hmix (tab:=Fm _) rfl (Á OK Æ) (Å fun x=>Wk x some)
def agQ:Ñ Tryz.prog 60 TY:=È (KI _) (fun {_}=>ě (Á rC (Á Nz (Á Re (Á ajx Æ)))) _) hmix (tab:=Bo _) rfl Æ (Å fun x=>RQ x some)
def abO:Ñ Tryz.prog 135 N1:=È (C9 _) (fun {_}=>ě Æ _) hmix (tab:=Fp _) rfl (Á OT Æ) (Å fun x=>Wo x some)
def alP:Ñ Tryz.prog 199 aeJ:=È (I0 _) (fun {_}=>ě Æ _) hmix (tab:=KO _) rfl (Á Si Æ) (Å fun x=>Z8 x some)
def abP:Ñ Tryz.prog 136 N2:=È (Da _) (fun {_}=>ě (Á alP Æ) _) hmix (tab:=Fq _) rfl (Á OV Æ) (Å fun x=>Wp x some)
def Ye:Ñ Tryz.prog 61 EF:=È (jh _) (fun {_}=>ě (Á Az (Á Ia (Á abO (Á abP Æ)))) _) hmix (tab:=sQ _) rfl (Á C5 (Á C4 (Á C3 Æ))) (Å fun x=>IW x some)
def Yd:Ñ Tryz.prog 139 Ng:=È (Uk _) (fun {_}=>ě (Á abP Æ) _) hmix (tab:=KJ _) rfl Æ (Å fun x=>ZY x some)
def aju:Ñ Tryz.prog 137 Zl:=È (uM _) (fun {_}=>ě (Á Yd Æ) _) hmix (tab:=Fe _) rfl (Á OD (Á OC Æ)) (Å fun x=>Wc x some)
def Ki:Ñ Tryz.prog 64 zI:=È (il _) (fun {_}=>ě (Á aju Æ) _) hmix (tab:=Bx _) rfl (Á Ml (Á Mk (Á Mj (Á Mg (Á Mh (Á Mi Æ)))))) (Å fun x=>Se x some)
def agU:Ñ Tryz.prog 85 T2:=È (xO _) (fun {_}=>ě (Á Ki Æ) _) hmix (tab:=BC _) rfl (Á Mm Æ) (Å fun x=>Sh x some)
def ajv:Ñ Tryz.prog 200 Zm:=È (C6 _) (fun {_}=>ě Æ _) hmix (tab:=Ff _) rfl (Á OG Æ) (Å fun x=>Wd x some)
def ajy:Ñ Tryz.prog 138 Zp:=È (C8 _) (fun {_}=>ě (Á Ia (Á abO (Á ajv Æ))) _) hmix (tab:=Fo _) rfl (Á OQ Æ) (Å fun x=>Wn x some)
def Rf:Ñ Tryz.prog 274 CP:=È (Fu _) (fun {_}=>ě (Á afo (Á afp Æ)) _) hmix (tab:=xU _) rfl Æ (Å fun x=>O7 x some)
def alT:Ñ Tryz.prog 254 aeN:=È (Up _) (fun {_}=>ě (Á Rf Æ) _) hmix (tab:=KY _) rfl Æ (Å fun x=>aaj x some)
def alR:Ñ Tryz.prog 255 aeL:=È (Un _) (fun {_}=>ě Æ _) hmix (tab:=KU _) rfl Æ (Å fun x=>aaf x some)
def alQ:Ñ Tryz.prog 238 aeK:=È (Um _) (fun {_}=>ě (Á alT (Á alR Æ)) _) hmix (tab:=KS _) rfl Æ (Å fun x=>aae x some)
def agS:Ñ Tryz.prog 239 T0:=È (KK _) (fun {_}=>ě (Á Ia Æ) _) hmix (tab:=Bq _) rfl Æ (Å fun x=>RT x some)
def ajA:Ñ Tryz.prog 256 Zr:=È (Pa _) (fun {_}=>ě Æ _) hmix (tab:=Fw _) rfl Æ (Å fun x=>Wy x some)
def alS:Ñ Tryz.prog 257 aeM:=È (Uo _) (fun {_}=>ě (Á Rf Æ) _) hmix (tab:=KV _) rfl Æ (Å fun x=>aag x some)
def agY:Ñ Tryz.prog 240 T6:=È (KT _) (fun {_}=>ě (Á ajA (Á alS Æ)) _) hmix (tab:=BI _) rfl Æ (Å fun x=>Ss x some)
def adW:Ñ Tryz.prog 201 N3:=È (Fs _) (fun {_}=>ě (Á Yd (Á alQ (Á agS (Á agY Æ)))) _) hmix (tab:=xP _) rfl Æ (Å fun x=>OZ x some)
def agV:Ñ Tryz.prog 202 T3:=È (KP _) (fun {_}=>ě Æ _) hmix (tab:=BF _) rfl Æ (Å fun x=>Sl x some)
def ajz:Ñ Tryz.prog 241 Zq:=È (O8 _) (fun {_}=>ě Æ _) hmix (tab:=Fv _) rfl Æ (Å fun x=>Wx x some)
def agZ:Ñ Tryz.prog 203 T7:=È (KX _) (fun {_}=>ě (Á ajz Æ) _) hmix (tab:=BJ _) rfl Æ (Å fun x=>Sv x some)
def anv:Ñ Tryz.prog 242 ahS:=È (aab _) (fun {_}=>ě Æ _) hmix (tab:=O6 _) rfl Æ (Å fun x=>acS x some)
def ajB:Ñ Tryz.prog 204 Zs:=È (Pc _) (fun {_}=>ě (Á anv Æ) _) hmix (tab:=Fy _) rfl Æ (Å fun x=>WH x some)
def ajw:Ñ Tryz.prog 140 Zn:=È (OI _) (fun {_}=>ě (Á adW (Á agV (Á agZ (Á ajB Æ)))) _) hmix (tab:=Fl _) rfl Æ (Å fun x=>Wj x some)
def alO:Ñ Tryz.prog 65 aeI:=È (sR _) (fun {_}=>ě (Á Ki (Á agU (Á ajy (Á Yd (Á ajw Æ))))) _) hmix (tab:=KM _) rfl (Á RZ (Á R0 (Á RY Æ))) (Å fun x=>Z1 x some)
def agW:Ñ Tryz.prog 15 T4:=È (ku _) (fun {_}=>ě (Á rC (Á agT (Á ajt (Á agR (Á agQ (Á Ye (Á Nz (Á Az (Á Ki (Á alO Æ)))))))))) _) hmix (tab:=BG _) rfl (Á Mq (Á Mo (Á Mp (Á Mn Æ)))) (Å fun x=>Sn x some)
def c_w6_SharpSame:Ñ Tryz.prog 3 mq:=È (wl _) (fun {_}=>ě (Á alN (Á adV (Á LQ (Á afr (Á ag2 (Á Ri (Á ajs (Á alU (Á agW Æ))))))))) _) hmix (tab:=qo _) rfl Æ (Å fun x=>E6 x some)
end Go.Proofs.ZzM
end
