/- lemmas -/
import Derived.Test.YtmadligicacpkaaGreatAmD
import Derived.Test.YtmadligicacpkaaGreatAmE
import Derived.Ground.NamesProg
import Derived.Ground.Names2Prog
import Derived.KernelRfl
import Derived.Test.YtmadligicacpkaaGreatMdMA
import Derived.Test.YtmadligicacpkaaGreatMdKD
import Derived.RangeFuncBox
import Derived.Lib.SliceRun
import Derived.RangeFuncLeaves
import Derived.WalkKit
import Derived.OwnWalkIn
import Derived.TacticsInMore
import Derived.LoopNIn
import Derived.LoopIn
import Derived.Test.YtmadligicacpkaaGreatProg
import Derived.RangeFuncFrom
import Derived.RangeFuncRecord
import Derived.Test.YtmadligicacpkaaGreatMdKC
import Derived.Test.YtmadligicacpkaaGreatMdKB
import Derived.Test.YtmadligicacpkaaGreatMdKA
set_option linter.all false
set_option linter.unusedSectionVars false
set_option linter.unusedVariables false
set_option linter.unusedSimpArgs false
noncomputable section
namespace Go.Proofs
open Go.Shelf
def Tryz.laysSort_ren:Go.Shelf.Ren:=⟨fun|189=>232|125=>262|257=>261|128=>281|129=>282|294=>272|295=>273|296=>274|297=>275|298=>276|299=>277|216=>278|300=>279|301=>280|328=>286|329=>287|330=>288|331=>289|332=>290|215=>291|343=>299|n=>n,fun|28=>53|3=>3|46=>298|0=>0|51=>316|53=>293|4=>4|183=>309|182=>308|131=>265|5=>5|9=>9|218=>324|222=>328|228=>336|229=>337|n=>n,fun|n=>n⟩
def Tryz.laysSort:Go.Proofs.Lays.n189 Tryz.prog Tryz.laysSort_ren:={
 mixed:=by kernel_rfl
 f125:=Tryz.func262.trans (congrArg some (by kernel_rfl))
 f128:=Tryz.func281.trans (congrArg some (by kernel_rfl))
 f129:=Tryz.func282.trans (congrArg some (by kernel_rfl))
 f189:=Tryz.func232.trans (congrArg some (by kernel_rfl))
 f215:=Tryz.func291.trans (congrArg some (by kernel_rfl))
 f216:=Tryz.func278.trans (congrArg some (by kernel_rfl))
 f257:=Tryz.func261.trans (congrArg some (by kernel_rfl))
 f294:=Tryz.func272.trans (congrArg some (by kernel_rfl))
 f295:=Tryz.func273.trans (congrArg some (by kernel_rfl))
 f296:=Tryz.func274.trans (congrArg some (by kernel_rfl))
 f297:=Tryz.func275.trans (congrArg some (by kernel_rfl))
 f298:=Tryz.func276.trans (congrArg some (by kernel_rfl))
 f299:=Tryz.func277.trans (congrArg some (by kernel_rfl))
 f300:=Tryz.func279.trans (congrArg some (by kernel_rfl))
 f301:=Tryz.func280.trans (congrArg some (by kernel_rfl))
 f328:=Tryz.func286.trans (congrArg some (by kernel_rfl))
 f329:=Tryz.func287.trans (congrArg some (by kernel_rfl))
 f330:=Tryz.func288.trans (congrArg some (by kernel_rfl))
 f331:=Tryz.func289.trans (congrArg some (by kernel_rfl))
 f332:=Tryz.func290.trans (congrArg some (by kernel_rfl))
 f343:=Tryz.func299.trans (congrArg some (by kernel_rfl))
 t0:=Tryz.underlying0
 a0:=Tryz.isAgg0
 z0:=Tryz.sizeOf0
 v0:=Tryz.zeroValue0
 t3:=Tryz.underlying3
 a3:=Tryz.isAgg3
 z3:=Tryz.sizeOf3
 v3:=Tryz.zeroValue3
 t4:=Tryz.underlying4
 a4:=Tryz.isAgg4
 z4:=Tryz.sizeOf4
 v4:=Tryz.zeroValue4
 t5:=Tryz.underlying5
 a5:=Tryz.isAgg5
 z5:=Tryz.sizeOf5
 v5:=Tryz.zeroValue5
 t9:=Tryz.underlying9
 a9:=Tryz.isAgg9
 z9:=Tryz.sizeOf9
 v9:=Tryz.zeroValue9
 t28:=Tryz.underlying53
 a28:=Tryz.isAgg53
 z28:=Tryz.sizeOf53
 v28:=Tryz.zeroValue53
 t46:=Tryz.underlying298
 a46:=Tryz.isAgg298
 z46:=Tryz.sizeOf298
 v46:=Tryz.zeroValue298
 t51:=Tryz.underlying316
 a51:=Tryz.isAgg316
 z51:=Tryz.sizeOf316
 v51:=Tryz.zeroValue316
 t53:=Tryz.underlying293
 a53:=Tryz.isAgg293
 z53:=Tryz.sizeOf293
 v53:=Tryz.zeroValue293
 t131:=Tryz.underlying265
 a131:=Tryz.isAgg265
 z131:=Tryz.sizeOf265
 v131:=Tryz.zeroValue265
 t182:=Tryz.underlying308
 a182:=Tryz.isAgg308
 z182:=Tryz.sizeOf308
 v182:=Tryz.zeroValue308
 t183:=Tryz.underlying309
 a183:=Tryz.isAgg309
 z183:=Tryz.sizeOf309
 v183:=Tryz.zeroValue309
 t218:=Tryz.underlying324
 a218:=Tryz.isAgg324
 z218:=Tryz.sizeOf324
 v218:=Tryz.zeroValue324
 t222:=Tryz.underlying328
 a222:=Tryz.isAgg328
 z222:=Tryz.sizeOf328
 v222:=Tryz.zeroValue328
 t228:=Tryz.underlying336
 a228:=Tryz.isAgg336
 z228:=Tryz.sizeOf336
 v228:=Tryz.zeroValue336
 t229:=Tryz.underlying337
 a229:=Tryz.isAgg337
 z229:=Tryz.sizeOf337
 v229:=Tryz.zeroValue337}
def Tryz.laysCompact_ren:Go.Shelf.Ren:=⟨fun|20=>233|n=>n,fun|22=>53|3=>3|4=>4|0=>0|n=>n,fun|n=>n⟩
def Tryz.laysCompact:Go.Proofs.Lays2.n20 Tryz.prog Tryz.laysCompact_ren:={
 mixed:=by kernel_rfl
 f20:=Tryz.func233.trans (congrArg some (by kernel_rfl))
 t0:=Tryz.underlying0
 a0:=Tryz.isAgg0
 z0:=Tryz.sizeOf0
 v0:=Tryz.zeroValue0
 t3:=Tryz.underlying3
 a3:=Tryz.isAgg3
 z3:=Tryz.sizeOf3
 v3:=Tryz.zeroValue3
 t4:=Tryz.underlying4
 a4:=Tryz.isAgg4
 z4:=Tryz.sizeOf4
 v4:=Tryz.zeroValue4
 t22:=Tryz.underlying53
 a22:=Tryz.isAgg53
 z22:=Tryz.sizeOf53
 v22:=Tryz.zeroValue53
 i3:=by kernel_rfl}
end Go.Proofs
namespace Go.Proofs.ZzM
open Go Go.Am
def hmix:Tryz.prog.follows .mixedOrders=true:=by kernel_rfl
def plain_ : (Tryz.prog.funcs.toList.all fun fn => !(fn.name == "runtime.NumGoroutine")) = true := by kernel_rfl
def plain (f : Nat) (fn : Func) (h : Tryz.prog.funcs[f]? = some fn) : (fn.name == "runtime.NumGoroutine") = false := by
 have:=dz.1 plain_ fn (cR (i:=f) (by simpa using h));simpa using this
def ant:Tryz.laysSort_ren.f 189=232:=by kernel_rfl
def ags:Tryz.laysCompact_ren.f 20=233:=by kernel_rfl
section
variable [ó] {ρ:Type}
def sortOk (f:Nat) (hf:abj f=true) (h:List Blk) (x:AV) (K:AV→List Blk→Option ρ) (q:ρ) (e:Vo h x K=some q) (ν:Nat→Value) (w:World) (u:Value) (H:HR ν h w) (hx:VR ν h w x u):Lx Tryz.prog f ν h w [u] K q:=by
 have h1:f=232:=by
  unfold abj at hf
  split at hf
  ·rfl
  ·cases hf
 subst h1;have:=anm Tryz.laysSort e H hx ⟨_,rfl⟩
 rwa [ant] at this
def ajO (f:Nat) (hf:za f=true) (h:List Blk) (x:AV) (K:AV→List Blk→Option ρ) (q:ρ) (e:oE h x K=some q) (ν:Nat→Value) (w:World) (u:Value) (H:HR ν h w) (hx:VR ν h w x u):Lx Tryz.prog f ν h w [u] K q:=by
 have h1:f=233:=by
  unfold za at hf
  split at hf
  ·rfl
  ·cases hf
 subst h1;have:=ag7 Tryz.laysCompact e H hx ⟨_,rfl⟩
 rwa [ags] at this
def an5:J2 Tryz.prog Qx:=by
 intro g hg fz S nid x v S' e ν w u H hx hn hd;unfold Qx at hg
 split at hg
 ·exact vU Tryz.func116 (T:=42) (by kernel_rfl) (by kernel_rfl) e H hx hn hd
 ·exact vU Tryz.func130 (T:=53) (by kernel_rfl) (by kernel_rfl) e H hx hn hd
 ·exact vU Tryz.func253 (T:=24) (by kernel_rfl) (by kernel_rfl) e H hx hn hd
 ·exact vU Tryz.func254 (T:=25) (by kernel_rfl) (by kernel_rfl) e H hx hn hd
 ·exact vU Tryz.func255 (T:=26) (by kernel_rfl) (by kernel_rfl) e H hx hn hd
 ·exact vU Tryz.func256 (T:=28) (by kernel_rfl) (by kernel_rfl) e H hx hn hd
 ·exact vU Tryz.func257 (T:=27) (by kernel_rfl) (by kernel_rfl) e H hx hn hd
 ·cases hg
def Qt {pt:List (Nat×Ø)} (h:∀e∈pt,Ï Tryz.prog e.1 e.2) (E:Env ρ) (hP:E.P=Tryz.prog) (h1:E.pure=agY pt) (h2:E.sort=abj) (h3:E.compact=za) (h4:E.clone=Qx) (hj:af8 E):MJ E:=by
 constructor
 ·intro f p hf;rw[h1] at hf;rw[hP];exact h (f,p) (U0 hf)
 ·intro f hf;rw[h2] at hf;rw[hP];exact sortOk f hf
 ·intro f hf;rw[h3] at hf;rw[hP];exact ajO f hf
 ·rw[hP]; exact plain
 ·rw[hP,h4]; exact an5
 ·exact hj
def ď {pt:List (Nat×Ø)} (h:∀e∈pt,Ï Tryz.prog e.1 e.2) (tab:List (Ü ρ)):MJ (Ù pt tab):=Qt h _ rfl rfl rfl rfl rfl (hZ rfl)
end
end Go.Proofs.ZzM
end

noncomputable section
set_option maxRecDepth 100000
namespace Go.Proofs.ZzM
open Go Go.Am
def ť:Ï Tryz.prog 81 š:=Ç (gW _) (fun {_}=>ď Æ _) hmix (tab:=lW _) rfl (Á sH (Á sG Æ)) (Å fun x=>wT x some)
def Pk:∀e∈IQ,Ï Tryz.prog e.1 e.2:=(Á ť Æ)
def adi {ρ:Type}:∀e∈De ρ,e.Ok (ż ρ):=(Á WW (Á WX (Á WV (Á WU (Á WT (Á WS Æ))))))
def KE {ρ:Type}:∀e∈qJ ρ,e.Ok (Ĝ ρ):=(Á SM (Á SL (Á SK Æ)))
def Ay:Ï Tryz.prog 131 sr:=Ç (K6 _) (fun {_}=>ď Æ _) hmix (tab:=Cd _) rfl Æ (Å fun x=>Tm x some)
def mz:Ï Tryz.prog 227 ks:=Ç (KY _) (fun {_}=>ď Æ _) hmix (tab:=B7 _) rfl Æ (Å fun x=>S9 x some)
def Ri:Ï Tryz.prog 189 Ep:=Ç (Qj _) (fun {_}=>ď (Á mz Æ) _) hmix (tab:=GC _) rfl Æ (Å fun x=>Xz x some)
def afO:Ï Tryz.prog 258 VD:=Ç (Uz _) (fun {_}=>ď Æ _) hmix (tab:=KT _) rfl Æ (Å fun x=>aaL x some)
def akc:Ï Tryz.prog 259 acQ:=Ç (PX _) (fun {_}=>ď Æ _) hmix (tab:=PW _) rfl (Á Xi Æ) (Å fun x=>adr x some)
def HB:Ï Tryz.prog 226 El:=Ç (P0 _) (fun {_}=>ď (Á afO (Á akc Æ)) _) hmix (tab:=Gg _) rfl Æ (Å fun x=>Xk x some)
def aeh:Ï Tryz.prog 187 NY:=Ç (GB _) (fun {_}=>ď (Á Ay (Á Ri (Á HB (Á mz Æ)))) _) hmix (tab:=yS _) rfl Æ (Å fun x=>Qi x some)
def Rj:Ï Tryz.prog 132 xl:=Ç (mm _) (fun {_}=>ď (Á aeh Æ) _) hmix (tab:=pA _) rfl (Á yT Æ) (Å fun x=>Dz x some)
def Rg:Ï Tryz.prog 133 CG:=Ç (uZ _) (fun {_}=>ď Æ _) hmix (tab:=yL _) rfl (Á Jf Æ) (Å fun x=>Qb x some)
def JR:Ï Tryz.prog 78 sk:=Ç (kd _) (fun {_}=>ď Æ _) hmix (tab:=mQ _) rfl (Á uj Æ) (Å fun x=>xr x some)
def jI:Ï Tryz.prog 121 gU:=Ç (lV _) (fun {_}=>ď (Á JR Æ) _) hmix (tab:=kw _) rfl Æ (Å fun x=>sF x some)
def afS:Ï Tryz.prog 194 VH:=Ç (zV _) (fun {_}=>ď (Á jI Æ) _) hmix (tab:=K8 _) rfl (Á Tq (Á Tp Æ)) (Å fun x=>aa4 x some)
def Rh:Ï Tryz.prog 135 Eo:=Ç (ve _) (fun {_}=>ď (Á afS Æ) _) hmix (tab:=Gn _) rfl (Á Qd (Á Qe Æ)) (Å fun x=>Xs x some)
def se:Ï Tryz.prog 190 mB:=Ç (wN _) (fun {_}=>ď Æ _) hmix (tab:=qZ _) rfl Æ (Å fun x=>Gl x some)
def aeg:Ï Tryz.prog 188 acS:=Ç (Gm _) (fun {_}=>ď (Á Ri (Á se Æ)) _) hmix (tab:=yO _) rfl Æ (Å fun x=>Qc x some)
def Yo:Ï Tryz.prog 192 VI:=Ç (lr _) (fun {_}=>ď (Á Ay (Á se (Á mz Æ))) _) hmix (tab:=tm _) rfl (Á Dy (Á Dx Æ)) (Å fun x=>Jm x some)
def HC:Ï Tryz.prog 199 zK:=Ç (zU _) (fun {_}=>ď (Á jI Æ) _) hmix (tab:=K5 _) rfl (Á Tj (Á Ti Æ)) (Å fun x=>aa1 x some)
def U9:Ï Tryz.prog 204 H8:=Ç (yR _) (fun {_}=>ď (Á mz Æ) _) hmix (tab:=Cc _) rfl (Á MA Æ) (Å fun x=>Tk x some)
def amy:Ï Tryz.prog 231 afb:=Ç (Jn _) (fun {_}=>ď (Á mz Æ) _) hmix (tab:=K9 _) rfl (Á Tr Æ) (Å fun x=>aa5 x some)
def MG:Ï Tryz.prog 193 LD:=Ç (Ť _) (fun {_}=>ď (Á ť (Á Ay (Á Ri (Á se (Á HC (Á U9 (Á mz (Á amy Æ)))))))) _) hmix (tab:=nV _) rfl (Á wY (Á wW (Á wX (Á wV Æ)))) (Å fun x=>AP x some)
end Go.Proofs.ZzM
end

noncomputable section
namespace Go.Proofs
open Go.RowKit
attribute [local go_sem] Oper.semAt_some
def RA (sel:Nat→Bool) (k:Nat):List Nat:=(List.range k).filter sel
def D1 (sel:Nat→Bool) (k:Nat):RA sel (k+1)=if sel k then RA sel k++[k] else RA sel k:=by
 unfold RA;rw[List.range_succ,List.filter_append]
 cases h:sel k<;>simp[h]
def acF (sel:Nat→Bool) (k:Nat):(RA sel k).length≤k:=by
 unfold RA;exact Nat.le_trans (List.length_filter_le _ _) (by simp)
def aib (sel:Nat→Bool) {j k:Nat} (h:j≤k):(RA sel j).length≤(RA sel k).length:=by
 obtain⟨d,rfl⟩:∃d,k=j+d:=⟨k-j,by omega⟩;unfold RA;rw[List.range_add,List.filter_append,List.length_append];omega
def ann {sel:Nat→Bool} {k n:Nat} (h:k<n) (hs:sel k=true):(RA sel k).length<(RA sel n).length:=by
 have h1:=aib sel (j:=k+1) (k:=n) h;rw[D1,hs] at h1;simp at h1;omega
set_option maxRecDepth 100000 in
set_option maxHeartbeats 1000000 in
def anK (te:TypeId) (n:Nat) (hn:1≤n) (l bb tb:Nat) (flo fhi us lo co ko:Value) (gb go len cap:Nat) (gbase:Option Addr) (hgb:0<len→gbase=some ⟨gb,go,none⟩)
 (c0 c1 c2 c3 c4 c5 c6 c7:Nat→Int) (sel:Nat→Bool) (hlen:(len:Int)<9223372036854775807) (Nd:World→Prop)
 (W:World) (hb0:W.heap[bb]?=some (.cells #[flo,fhi,.slice gbase len cap,us,lo,co,ko] te (0,0)))
 (hNc:∀W',Nd W'→∀j,j<len→W'.cell? ⟨gb,go+j*8,none⟩=some (.int .i64 (c0 j))∧W'.cell? ⟨gb,go+j*8+1,none⟩=some (.int .i64 (c1 j))∧W'.cell? ⟨gb,go+j*8+2,none⟩=some (.int .i64 (c2 j))∧W'.cell? ⟨gb,go+j*8+3,none⟩=some (.int .i64 (c3 j)) ∧
  W'.cell? ⟨gb,go+j*8+4,none⟩=some (.int .i64 (c4 j))∧W'.cell? ⟨gb,go+j*8+5,none⟩=some (.int .i64 (c5 j))∧W'.cell? ⟨gb,go+j*8+6,none⟩=some (.int .i64 (c6 j))∧W'.cell? ⟨gb,go+j*8+7,none⟩=some (.int .i64 (c7 j)))
 (hNm:∀W',Nd W'→∃mv,∀W'',W'.grownBy W'' none→W''.cell? ⟨tb,0,none⟩=some mv∧∀j,j<len→(Instr.lookup 184 mv (.int .i64 (c0 j)) false).run Tryz.prog W''=.ok (.bool (sel j)) W'')
 (hNs:∀W1 W2,Nd W1→W1.grownBy W2 none→Nd W2) (hN:Nd W)
 (J Jx:List Nat→World→Prop) (hJ:∀pre W W',J pre W→W.grownBy W' none→J pre W') (hJx:∀pre W W',Jx pre W→W.grownBy W' none→Jx pre W')
 (hY:∀pre x W,J pre W→pre.length<(RA sel len).length→YieldAt Fence.wide (n-1) Tryz.prog l #[.agg #[.int .i64 (c0 x),.int .i64 (c1 x),.int .i64 (c2 x),.int .i64 (c3 x),.int .i64 (c4 x),.int .i64 (c5 x),.int .i64 (c6 x),.int .i64 (c7 x)]] W fun e W' =>
  (e=.returned (.bool true)∧J (pre++[x]) W'∧(Nd W→Nd W'))∨(e=.returned (.bool false)∧Jx (pre++[x]) W'))
 (h0 : J [] W) :
  CallsIn Fence.wide n Tryz.prog 186 #[.func (.yield l) #[] #[],.pointer (some ⟨bb,0,none⟩),.pointer (some ⟨tb,0,none⟩)] W fun e W'=>(∃v,e=.returned v) ∧
   ((∃xs,xs=RA sel len∧J xs W')∨(∃pre,True∧Jx pre W')):=by
 have hb3:W.cell? ⟨bb,2,none⟩=some (.slice gbase len cap):=by simp[World.cell?,hb0]
 refine callsIn_of_wp Tryz.func186 rfl trivial ?_ rfl;simp only[Tryz.ntmps186,eG,cX,dk,Nat.reduceAdd,Nat.reduceSub,Array.replicate_succ,Array.replicate_zero,List.push_toArray,gk,fT,eS]
 gi_wp2
 gi_loopw [9] (fun i wr=>∃k:Nat,k≤len∧i=.int .i64 k∧J (RA sel k) wr∧Nd wr)
  (fun i _=>len-(intOf i).toNat)
 case atStart=>exact⟨0,dZ _,rfl,h0,hN⟩
 case round =>
  obtain⟨k,hk,rfl,hJs,hNw⟩:=hrel
  by_cases hlt:k<len
  ·have hg:=hgb (by omega);subst hg;obtain⟨q0,q1,q2,q3,q4,q5,q6,q7⟩:=hNc _ hNw k hlt;obtain⟨mv,hmv⟩:=hNm _ hNw;have hta:∀o,(wr.alloc o).cell? ⟨tb,0,none⟩=some mv:=fun o=>(hmv _ (World.grownBy_alloc _ o none)).1;have hlk:∀o,(Instr.lookup 184 mv (.int .i64 (c0 k)) false).run Tryz.prog (wr.alloc o)=.ok (.bool (sel k)) (wr.alloc o):=fun o=>(hmv _ (World.grownBy_alloc _ o none)).2 k hlt;have hNa:∀o,Nd (wr.alloc o):=fun o=>hNs _ _ hNw (World.grownBy_alloc _ o none);have hJa:∀o,J (RA sel k) (wr.alloc o):=fun o=>hJ _ _ _ hJs (World.grownBy_alloc _ o none);clear hmv hNm hNc
   cases hsel:sel k with
   |false =>
    rw[hsel] at hlk
    iterate 52 (first|go_values|gi_guarded|gi_step|gi_upon)
    refine⟨fun f hf=>by simp[undef,go_sem] at hf,?_⟩
    gi_wp2
    go_roundw
    case rel=>exact⟨k+1,by omega,by simp,by rw[D1,hsel]; exact hJa _,hNa _⟩
    case measure=>simp[intOf]; omega
   |true =>
    rw[hsel] at hlk
    gi_wp2
    obtain⟨fn,tmps,assign,body,hy,hR⟩:=hY (RA sel k) k (wr.alloc (.cells #[.int .i64 (c0 k),.int .i64 (c1 k),.int .i64 (c2 k),.int .i64 (c3 k),.int .i64 (c4 k),.int .i64 (c5 k),.int .i64 (c6 k),.int .i64 (c7 k)] 130)) (hJa _) (ann hlt hsel);rw[hy];refine⟨fun h=>(by cases h),hR.mono ?_⟩;rintro e W3 (⟨rfl,hJ3,hk3⟩|⟨rfl,hJx3⟩)
    ·gi_wp2
     go_roundw
     case rel=>exact⟨k+1,by omega,by simp,by rw[D1,hsel]; exact hJ3,hk3 (hNa _)⟩
     case measure=>simp[intOf]; omega
    ·gi_wp2
     refine bodyPost_ret (results_none rfl _ _ _) rfl ?_;exact⟨⟨_,rfl⟩,.inr ⟨_,trivial,hJx3⟩⟩
  ·obtain rfl:len=k:=by omega
   gi_wp2
   go_end0
   exact⟨⟨_,rfl⟩,.inl ⟨_,rfl,hJs⟩⟩
end Go.Proofs
end

noncomputable section
namespace Go.Proofs
open Go.RowKit
attribute [local go_sem] Oper.semAt_some
def upE (f:Nat→Int) (k:Nat):List Int:=(List.range k).map f
def qd (f:Nat→Int) (k:Nat):upE f (k+1)=upE f k++[f k]:=by simp[upE,List.range_succ]
def zF (f:Nat→Int) (k:Nat):(upE f k).length=k:=by simp[upE]
def MK (f:Nat→Int) {j k:Nat} (h:j≤k):upE f j <+: upE f k:=by
 have:k=j+(k-j):=by omega
 rw[this,upE,upE,List.range_add,gL];exact ej _ _
set_option maxRecDepth 100000 in
set_option maxHeartbeats 1000000 in
def als (te:TypeId) (n:Nat) (hn:1≤n) (l n₀ bb tb sb:Nat) (flo fhi ga mv:Value) (hbb:bb<n₀) (htb:tb<n₀) (hsb:sb<n₀)
 (ub uo ul uc kb ko kl kc:Nat) (ubase kbase lbase cbase:Option Addr) (ll lc cl cc:Nat) (hub:0<ul→ubase=some ⟨ub,uo,none⟩∧ub<n₀) (hkb:0<kl→kbase=some ⟨kb,ko,none⟩∧kb<n₀)
 (U K:Nat→Int×Int) (eU eL eC eK:Nat→Int)
 (hul:ul≤1000) (hll:ll≤1000) (hcl:cl≤1000) (hkl:kl≤1000)
 (W:World) (hb0:W.heap[bb]?=some (.cells #[flo,fhi,ga,.slice ubase ul uc,.slice lbase ll lc,.slice cbase cl cc,.slice kbase kl kc] te (0,0)))
 (ht:W.cell? ⟨tb,0,none⟩=some (.func (.func 188) #[] #[.pointer (some ⟨sb,0,none⟩)])) (hs:W.cell? ⟨sb,0,none⟩=some mv)
 (hU:∀j,j<ul→W.cell? ⟨ub,uo+j*2,none⟩=some (.int .i64 (U j).1)∧W.cell? ⟨ub,uo+j*2+1,none⟩=some (.int .i64 (U j).2))
 (hK:∀j,j<kl→W.cell? ⟨kb,ko+j*2,none⟩=some (.int .i64 (K j).1)∧W.cell? ⟨kb,ko+j*2+1,none⟩=some (.int .i64 (K j).2))
 (cU:∀j,j<ul→∀W',Below n₀ W W'→CallsIn Fence.wide (n-1) Tryz.prog 188 #[.int .i64 (U j).1,.int .i64 (U j).2,.pointer (some ⟨sb,0,none⟩)] W' fun e W''=>e=.returned (.int .i64 (eU j))∧W'.grownBy W'' none)
 (cK:∀j,j<kl→∀W',Below n₀ W W'→CallsIn Fence.wide (n-1) Tryz.prog 188 #[.int .i64 (K j).1,.int .i64 (K j).2,.pointer (some ⟨sb,0,none⟩)] W' fun e W''=>e=.returned (.int .i64 (eK j))∧W'.grownBy W'' none)
 (cL:∀j,j<ll→∀W',Below n₀ W W'→CallsIn Fence.wide (n-1) Tryz.prog 192 #[.agg #[flo,fhi,ga,.slice ubase ul uc,.slice lbase ll lc,.slice cbase cl cc,.slice kbase kl kc],mv,.int .i64 j] W' fun e W''=>e=.returned (.int .i64 (eL j))∧W'.grownBy W'' none)
 (cC:∀j,j<cl→∀W',Below n₀ W W'→CallsIn Fence.wide (n-1) Tryz.prog 193 #[.agg #[flo,fhi,ga,.slice ubase ul uc,.slice lbase ll lc,.slice cbase cl cc,.slice kbase kl kc],mv,.int .i64 j] W' fun e W''=>e=.returned (.int .i64 (eC j))∧W'.grownBy W'' none)
 (J Jx:List Int→World→Prop) (hJ:∀pre W W',J pre W→W.grownBy W' none→J pre W') (hJx:∀pre W W',Jx pre W→W.grownBy W' none→Jx pre W')
 (hY:∀pre x W,J pre W→pre.length<ul+(ll+(cl+kl))→YieldAt Fence.wide (n-1) Tryz.prog l #[.int .i64 x] W fun e W' =>
  (e=.returned (.bool true)∧J (pre++[x]) W'∧Below n₀ W W')∨(e=.returned (.bool false)∧Jx (pre++[x]) W'))
 (h0 : J [] W) (hn₀ : n₀ ≤ W.heap.size) :
  CallsIn Fence.wide n Tryz.prog 191 #[.func (.yield l) #[] #[],.pointer (some ⟨bb,0,none⟩),.pointer (some ⟨tb,0,none⟩),.pointer (some ⟨sb,0,none⟩)] W fun e W'=>(∃v,e=.returned v) ∧
   ((∃xs,xs=upE eU ul++(upE eL ll++(upE eC cl++upE eK kl))∧J xs W')∨(∃pre,(pre <+: upE eU ul++(upE eL ll++(upE eC cl++upE eK kl)))∧Jx pre W')):=by
 have grown_alloc:∀(X:World) (o:Obj),X.grownBy (X.alloc o) none:=fun X o=>World.grownBy_alloc X o none
 have bel:∀{X Y:World},Below n₀ W X→X.grownBy Y none→Below n₀ W Y:=fun {X Y} h g =>
  ⟨g.os.trans h.os,g.tape.trans h.tape,g.output.trans h.output,du h.size g.size,fun k hk=>(g.block k (dm (dm hk hn₀) h.size) (by simp)).trans (h.block k hk)⟩
 have hc:∀{X:World},Below n₀ W X→X.heap[bb]?=some (.cells #[flo,fhi,ga,.slice ubase ul uc,.slice lbase ll lc,.slice cbase cl cc,.slice kbase kl kc] te (0,0)):=fun h=>(h.block bb hbb).trans hb0;refine callsIn_of_wp Tryz.func191 rfl trivial ?_ rfl;simp only[Tryz.ntmps191,eG,cX,dk,Nat.reduceAdd,Nat.reduceSub,Array.replicate_succ,Array.replicate_zero,List.push_toArray,gk,fT,eS]
 have hb3:W.cell? ⟨bb,3,none⟩=some (.slice ubase ul uc):=by simp[World.cell?,hb0]
 gi_wp2
 gi_loopw [14] (fun i wr=>∃k:Nat,k≤ul∧i=.int .i64 k∧J (upE eU k) wr∧Below n₀ W wr)
  (fun i _=>ul-(intOf i).toNat)
 case atStart=>exact⟨0,dZ _,rfl,h0,Below.refl _ _⟩
 case round =>
  obtain⟨k,hk,rfl,hJs,hnx⟩:=hrel
  by_cases hlt:k<ul
  ·obtain⟨rfl,hlu⟩:=hub (by omega);have hu1:=(hnx.cell (p:=⟨ub,uo+k*2,none⟩) hlu).trans (hU k hlt).1;have hu2:=(hnx.cell (p:=⟨ub,uo+k*2+1,none⟩) hlu).trans (hU k hlt).2;have ht':=(hnx.cell (p:=⟨tb,0,none⟩) htb).trans ht;have hta:∀o,(wr.alloc o).cell? ⟨tb,0,none⟩=some (.func (.func 188) #[] #[.pointer (some ⟨sb,0,none⟩)]):=fun o=>Lib.cell?_alloc_some _ ht'
   gi_wp2
   refine⟨trivial,(cU k hlt _ (bel hnx (grown_alloc _ _))).mono ?_⟩;rintro e W2 ⟨rfl,hg2⟩;obtain⟨fn,tmps,assign,body,hy,hR⟩:=hY _ (eU k) W2 (hJ _ _ _ (hJ _ _ _ hJs (grown_alloc _ _)) hg2) (by rw[zF]; omega);have hb2:=bel (bel hnx (grown_alloc _ _)) hg2
   gi_wp2
   refine hR.mono ?_;rintro e W3 (⟨rfl,hJ3,hk3⟩|⟨rfl,hJx3⟩)
   ·gi_wp2
    go_roundw
    case rel=>exact⟨k+1,by omega,by simp,by rw[qd]; exact hJ3,hb2.trans hk3⟩
    case measure=>simp[intOf]; omega
   ·gi_wp2
    refine bodyPost_ret (results_none rfl _ _ _) rfl ?_;refine⟨⟨_,rfl⟩,.inr ⟨_,?_,hJx3⟩⟩;rw[←qd];exact(MK eU (by omega)).trans (ej _ _)
  ·obtain rfl:ul=k:=by omega
   have hb4:wr.cell? ⟨bb,4,none⟩=some (.slice lbase ll lc):=by simp[World.cell?,hc hnx]
   gi_wp2
   gi_loopw [31] (fun i wr=>∃k:Nat,k≤ll∧i=.int .i64 k∧J (upE eU ul++upE eL k) wr∧Below n₀ W wr)
    (fun i _=>ll-(intOf i).toNat)
   case atStart=>exact⟨0,dZ _,rfl,by simpa[upE] using hJs,hnx⟩
   case round =>
    clear hJs hnx;obtain⟨k,hk,rfl,hJs,hnx⟩:=hrel
    by_cases hlt:k<ll
    ·have q0:wr.cell? ⟨bb,0,none⟩=some flo:=by simp[World.cell?,hc hnx]
     have q1:wr.cell? ⟨bb,1,none⟩=some fhi:=by simp[World.cell?,hc hnx]
     have q2:wr.cell? ⟨bb,2,none⟩=some ga:=by simp[World.cell?,hc hnx]
     have q3:wr.cell? ⟨bb,3,none⟩=some (.slice ubase ul uc):=by simp[World.cell?,hc hnx]
     have q4:wr.cell? ⟨bb,4,none⟩=some (.slice lbase ll lc):=by simp[World.cell?,hc hnx]
     have q5:wr.cell? ⟨bb,5,none⟩=some (.slice cbase cl cc):=by simp[World.cell?,hc hnx]
     have q6:wr.cell? ⟨bb,6,none⟩=some (.slice kbase kl kc):=by simp[World.cell?,hc hnx]
     have hs':=(hnx.cell (p:=⟨sb,0,none⟩) hsb).trans hs
     gi_wp2
     refine⟨trivial,(cL k hlt _ hnx).mono ?_⟩;rintro e W2 ⟨rfl,hg2⟩;obtain⟨fn,tmps,assign,body,hy,hR⟩:=hY _ (eL k) W2 (hJ _ _ _ hJs hg2) (by simp only[cN,zF]; omega);have hb2:=bel hnx hg2
     gi_wp2
     refine hR.mono ?_;rintro e W3 (⟨rfl,hJ3,hk3⟩|⟨rfl,hJx3⟩)
     ·gi_wp2
      go_roundw
      case rel=>exact⟨k+1,by omega,by simp,by rw[qd,←di]; exact hJ3,hb2.trans hk3⟩
      case measure=>simp[intOf]; omega
     ·gi_wp2
      refine bodyPost_ret (results_none rfl _ _ _) rfl ?_;refine⟨⟨_,rfl⟩,.inr ⟨_,?_,hJx3⟩⟩;rw[di,←qd];exact(ez _).2 ((MK eL (by omega)).trans (ej _ _))
    ·obtain rfl:ll=k:=by omega
     have hb5:wr.cell? ⟨bb,5,none⟩=some (.slice cbase cl cc):=by simp[World.cell?,hc hnx]
     gi_wp2
     gi_loopw [45] (fun i wr=>∃k:Nat,k≤cl∧i=.int .i64 k∧J (upE eU ul++upE eL ll++upE eC k) wr∧Below n₀ W wr)
      (fun i _=>cl-(intOf i).toNat)
     case atStart=>exact⟨0,dZ _,rfl,by simpa[upE] using hJs,hnx⟩
     case round =>
      clear hJs hnx;obtain⟨k,hk,rfl,hJs,hnx⟩:=hrel
      by_cases hlt:k<cl
      ·have q0:wr.cell? ⟨bb,0,none⟩=some flo:=by simp[World.cell?,hc hnx]
       have q1:wr.cell? ⟨bb,1,none⟩=some fhi:=by simp[World.cell?,hc hnx]
       have q2:wr.cell? ⟨bb,2,none⟩=some ga:=by simp[World.cell?,hc hnx]
       have q3:wr.cell? ⟨bb,3,none⟩=some (.slice ubase ul uc):=by simp[World.cell?,hc hnx]
       have q4:wr.cell? ⟨bb,4,none⟩=some (.slice lbase ll lc):=by simp[World.cell?,hc hnx]
       have q5:wr.cell? ⟨bb,5,none⟩=some (.slice cbase cl cc):=by simp[World.cell?,hc hnx]
       have q6:wr.cell? ⟨bb,6,none⟩=some (.slice kbase kl kc):=by simp[World.cell?,hc hnx]
       have hs':=(hnx.cell (p:=⟨sb,0,none⟩) hsb).trans hs
       gi_wp2
       refine⟨trivial,(cC k hlt _ hnx).mono ?_⟩;rintro e W2 ⟨rfl,hg2⟩;obtain⟨fn,tmps,assign,body,hy,hR⟩:=hY _ (eC k) W2 (hJ _ _ _ hJs hg2) (by simp only[cN,zF]; omega);have hb2:=bel hnx hg2
       gi_wp2
       refine hR.mono ?_;rintro e W3 (⟨rfl,hJ3,hk3⟩|⟨rfl,hJx3⟩)
       ·gi_wp2
        go_roundw
        case rel=>exact⟨k+1,by omega,by simp,by rw[qd,←di]; exact hJ3,hb2.trans hk3⟩
        case measure=>simp[intOf]; omega
       ·gi_wp2
        refine bodyPost_ret (results_none rfl _ _ _) rfl ?_;refine⟨⟨_,rfl⟩,.inr ⟨_,?_,hJx3⟩⟩;rw[di,←qd]
        exact by rw[di]; exact(ez _).2 ((ez _).2 ((MK eC (by omega)).trans (ej _ _)))
      ·obtain rfl:cl=k:=by omega
       have hb6:wr.cell? ⟨bb,6,none⟩=some (.slice kbase kl kc):=by simp[World.cell?,hc hnx]
       gi_wp2
       gi_loopw [59] (fun i wr=>∃k:Nat,k≤kl∧i=.int .i64 k∧J ((upE eU ul++upE eL ll++upE eC cl)++upE eK k) wr∧Below n₀ W wr)
        (fun i _=>kl-(intOf i).toNat)
       case atStart=>exact⟨0,dZ _,rfl,by simpa[upE] using hJs,hnx⟩
       case round =>
        clear hJs hnx;obtain⟨k,hk,rfl,hJs,hnx⟩:=hrel
        by_cases hlt:k<kl
        ·obtain⟨rfl,hlk⟩:=hkb (by omega);have hu1:=(hnx.cell (p:=⟨kb,ko+k*2,none⟩) hlk).trans (hK k hlt).1;have hu2:=(hnx.cell (p:=⟨kb,ko+k*2+1,none⟩) hlk).trans (hK k hlt).2;have ht':=(hnx.cell (p:=⟨tb,0,none⟩) htb).trans ht;have hta:∀o,(wr.alloc o).cell? ⟨tb,0,none⟩=some (.func (.func 188) #[] #[.pointer (some ⟨sb,0,none⟩)]):=fun o=>Lib.cell?_alloc_some _ ht'
         gi_wp2
         refine⟨trivial,(cK k hlt _ (bel hnx (grown_alloc _ _))).mono ?_⟩;rintro e W2 ⟨rfl,hg2⟩;obtain⟨fn,tmps,assign,body,hy,hR⟩:=hY _ (eK k) W2 (hJ _ _ _ (hJ _ _ _ hJs (grown_alloc _ _)) hg2) (by simp only[cN,zF]; omega);have hb2:=bel (bel hnx (grown_alloc _ _)) hg2
         gi_wp2
         refine hR.mono ?_;rintro e W3 (⟨rfl,hJ3,hk3⟩|⟨rfl,hJx3⟩)
         ·gi_wp2
          go_roundw
          case rel=>exact⟨k+1,by omega,by simp,by rw[qd,←di]; exact hJ3,hb2.trans hk3⟩
          case measure=>simp[intOf]; omega
         ·gi_wp2
          refine bodyPost_ret (results_none rfl _ _ _) rfl ?_;refine⟨⟨_,rfl⟩,.inr ⟨_,?_,hJx3⟩⟩;rw[di,←qd,di,di];exact(ez _).2 ((ez _).2 ((ez _).2 (MK eK (by omega))))
        ·obtain rfl:kl=k:=by omega
         gi_wp2
         go_end0
         exact⟨⟨_,rfl⟩,.inl ⟨_,rfl,by simpa[di] using hJs⟩⟩
end Go.Proofs
end

noncomputable section
set_option maxRecDepth 100000
namespace Go.Proofs.ZzM
open Go Go.Am Go.RowKit
def aeX (p:String):Code:=.region 10 #[{dst:=some 5,op:=.assign (.tmp 49),type:=35,pos:=p,after:=#[],guard:=none}] false
def amS (q r:String):Code:=.block 1 (.seq (.region 11 #[{dst:=some 50,op:=.move (.tmp 5),type:=35,pos:=q,after:=#[],guard:=none},{dst:=some 51,op:=.binOp .neq 35 (.tmp 50) (.const (.int .i64 0)) 35,type:=4,pos:=q,after:=#[{on:=0,ground:=.data}],guard:=none}] false)
 (.cond (.tmp 51) (.seq (.region 12 #[{dst:=some 52,op:=.move (.tmp 5),type:=35,pos:=r,after:=#[],guard:=none},{dst:=none,op:=.store 35 (.tmp 2) (.tmp 52),type:=0,pos:=r,after:=#[{on:=0,ground:=.data},{on:=0,ground:=.phase}],guard:=none}] false) .ret) .skip))
section
variable {P:Program} {F:Fence} {n:Nat}
def Er {ops:Array Oper} {i d:Nat} {o:Oper} {u:Value} {w w':World} {a:Act} {next:Act→World→Prop} {Q:Exit→Act→World→Prop} (hF:∀f,F.fn f) (ho:ops[i]?=some o) (hg:o.guard=none) (hd:o.dst=some d) (hdf:∀c,o.op≠.defer c)
 (hrun:(execOp a.eval o).run P w=.ok (.value u) w') (k:next (a.put (some d) u) w'):wpOpIn F n P ops Q i next a w:=by
 unfold wpOpIn;rw[ho]
 have hw:Region.wanted o (yielded ops a.tmps)=true:=by simp[Region.wanted,hg]
 simp only[hw,if_true];refine⟨fun _ _=>hF _,?_⟩;rw[Oper.semAt_eq _ _ _ hdf,hrun];rw[←hd] at k;exact k
def agx {ops:Array Oper} {i:Nat} {o:Oper} {w w':World} {a:Act} {next:Act→World→Prop} {Q:Exit→Act→World→Prop} (hF:∀f,F.fn f) (ho:ops[i]?=some o) (hg:o.guard=none) (hd:o.dst=none) (hdf:∀c,o.op≠.defer c)
 (hrun:(execOp a.eval o).run P w=.ok .skip w') (k:next a w'):wpOpIn F n P ops Q i next a w:=by
 unfold wpOpIn;rw[ho]
 have hw:Region.wanted o (yielded ops a.tmps)=true:=by simp[Region.wanted,hg]
 simp only[hw,if_true];refine⟨fun _ _=>hF _,?_⟩;rw[Oper.semAt_eq _ _ _ hdf,hrun];show next (a.put o.dst undef) w';rw[hd];exact k
end
def jx (T:Array Value) (i j:Nat) (v:Value):(T.setIfInBounds i v).getD j undef=if i=j∧i<T.size then v else T.getD j undef:=by
 simp only[dK,eW]
 by_cases h:i=j
 ·subst h
  by_cases h2:i<T.size
  ·simp[h2]
  ·simp[h2]
 ·simp[h]
def afi (D:Nat):Deferred:={target:=.collected D,args:=#[]}
structure Put1 (n₀ rb:Nat) (x:Int) (w W:World):Prop where
 os:W.os=w.os
 tape:W.tape=w.tape
 output:W.output=w.output
 size:w.heap.size≤W.heap.size
 block:∀k,k<n₀→k≠rb→W.heap[k]?=w.heap[k]?
 cell:∃e,W.heap[rb]?=some (.cells #[.int .i64 x] e (0,0))
set_option maxHeartbeats 4000000 in
def anr {a:Act} {w:World} {Q:Exit→Act→World→Prop} {lb:Array Value} {L:List Int} {rb:Nat} {e0:TypeId} {v0:Value} {p q r:String}
 (hseq:SeqStopsK Fence.wide 1 Tryz.prog 191 lb (fun x:Int=>#[.int .i64 x]) (Below w.heap.size) (fun xs=>xs=L) (fun pre=>pre <+: L) L.length w)
 (hg:a.tmps.getD 48 undef=.func (.func 191) #[] lb) (h2:a.tmps.getD 2 undef=.pointer (some ⟨rb,0,none⟩)) (hsz:78≤a.tmps.size)
 (hrb:w.heap[rb]?=some (.cells #[v0] e0 (0,0)))
 (hdone:∀D W,(∀x∈L,x=0)→Below w.heap.size w W→w.heap.size≤D→W.heap[D]?=some (.deferred (some []))→Q .normal {a with defers:=afi D::a.defers} W)
 (hstop:∀D W x,L.find? (fun e=>e != 0)=some x→Put1 w.heap.size rb x w W→w.heap.size≤D→W.heap[D]?=some (.deferred (some []))→Q .ret {a with defers:=afi D::a.defers} W) :
 (Code.rangeFunc (.tmp 48) #[49] (aeX p) (amS q r)).wpIn Fence.wide 2 Tryz.prog Q a w:=by
 have hT:∀f,Fence.wide.fn f:=fun _=>trivial;have hrl:=Ė hrb
 refine wpIn_rangeFunc_ownF (α:=Int) (encs:=fun x=>#[.int .i64 x]) (Kp:=Below w.heap.size) (S:=fun xs=>xs=L) (Sp:=fun pre=>pre <+: L) (N:=L.length) (w0:=w) rfl (by omega) hg trivial (fun args w=>?eg) hseq
  (fun h k=>h.trans k) (fun W l o o' hl ho hc hw=>belowK_b (cJ _) W l o o' hl ho hc hw) (Below.refl _ _) (fun _=>rfl)
  (fun pre W=>(∀x∈pre,x=0)∧Below w.heap.size w W)
  (fun c pre W=>c=.ret∧∃pre' x,pre=pre'++[x]∧(∀x∈pre',x=0)∧x≠0∧Put1 w.heap.size rb x w W)
  ?hI ?hIx ⟨by simp,Below.refl _ _⟩ (fun x=>{tmps:=(a.tmps.setIfInBounds 49 (.int .i64 x)).setIfInBounds 5 (.int .i64 x),defers:=[]}) ?hassign ?hbody ?hdone ?hstop
 case eg=>simp[callFunc,Sem.run_bind,run_program,Result.andThen_ok,Tryz.func191,plain 191 _ Tryz.func191,show Tryz.f191.body.isNone=false from rfl]; rfl
 case hI =>
  intro s W W' row ⟨h1,h2⟩ hgr hr;exact⟨h1,hgr.os.trans h2.os,hgr.tape.trans h2.tape,hgr.output.trans h2.output,du h2.size hgr.size,fun k hk=>(hgr.block k (dm hk h2.size) (fun e=>by have:=(hr k e.symm).1; omega)).trans (h2.block k hk)⟩
 case hIx =>
  intro c s W W' row ⟨h1,pre',x,h3,h4,h5,h6⟩ hgr hr;have hb:∀k,k<w.heap.size→W'.heap[k]?=W.heap[k]?:=fun k hk=>hgr.block k (dm hk h6.size) (fun e=>by have:=(hr k e.symm).1; omega)
  exact⟨h1,pre',x,h3,h4,h5,hgr.os.trans h6.os,hgr.tape.trans h6.tape,hgr.output.trans h6.output,du h6.size hgr.size,fun k hk hne=>(hb k hk).trans (h6.block k hk hne),by
   obtain⟨e,he⟩:=h6.cell
   exact⟨e,(hb rb hrl).trans he⟩⟩
 case hassign =>
  intro l x W K hK
  have hf:((#[49]:Array Tmp).zip #[Value.int .i64 x]).foldl (fun t (p,v)=>t.setIfInBounds p v) a.tmps=a.tmps.setIfInBounds 49 (.int .i64 x):=by simp
  rw[hf];refine wpIn_region ?_;rw[show ∀o:Oper,List.range (#[o]:Array Oper).size=[0] from fun _=>rfl,wpOpsIn_cons];refine Er (d:=5) (u:=.int .i64 x) (w':=W) hT rfl rfl rfl (by simp) ?_ hK;show Result.ok (Next.value ((a.tmps.setIfInBounds 49 (.int .i64 x)).getD 49 undef)) W=_;rw[jx,if_pos ⟨rfl,by omega⟩]
 case hbody =>
  intro l pre x W ⟨h1,hbel⟩ hpre;refine wpIn_block (wpIn_seq (wpIn_region ?_));rw[show ∀o p:Oper,List.range (#[o,p]:Array Oper).size=[0,1] from fun _ _=>rfl,wpOpsIn_cons]
  refine Er (d:=50) (u:=.int .i64 x) (w':=W) hT rfl rfl rfl (by simp) (by
   show Result.ok (Next.value (((a.tmps.setIfInBounds 49 (.int .i64 x)).setIfInBounds 5 (.int .i64 x)).getD 5 undef)) W=_
   rw[jx,if_pos ⟨rfl,by simp; omega⟩]) ?_
  rw[wpOpsIn_cons]
  refine Er (d:=51) (u:=.bool (x != 0)) (w':=W) hT rfl rfl rfl (by simp) (by
   show((do let u ←(do eqGuard .neq 35 (.tmp 50) (.const (.int .i64 0)) ((((a.tmps.setIfInBounds 49 (.int .i64 x)).setIfInBounds 5 (.int .i64 x)).setIfInBounds 50 (.int .i64 x)).getD 50 undef) (.int .i64 0); binOp .neq 35 ((((a.tmps.setIfInBounds 49 (.int .i64 x)).setIfInBounds 5 (.int .i64 x)).setIfInBounds 50 (.int .i64 x)).getD 50 undef) (.int .i64 0)); pure (.value u)):Sem Next).run Tryz.prog W=_;rw[jx,if_pos ⟨rfl,by simp; omega⟩]
   simp[eqGuard,binOp,Op.intCmp]) ?_
  show Code.wpIn (Fence.wide.inRound l) (2-1-1) Tryz.prog (Code.cond (.tmp 51) _ .skip) _ {tmps:=((((a.tmps.setIfInBounds 49 (.int .i64 x)).setIfInBounds 5 (.int .i64 x)).setIfInBounds 50 (.int .i64 x)).setIfInBounds 51 (.bool (x != 0))),defers:=[]} W;obtain⟨T,hTd⟩:∃T,T=((((a.tmps.setIfInBounds 49 (.int .i64 x)).setIfInBounds 5 (.int .i64 x)).setIfInBounds 50 (.int .i64 x)).setIfInBounds 51 (.bool (x != 0))):=⟨_,rfl⟩;rw[←hTd]
  have t51:T.getD 51 undef=.bool (x != 0):=by rw[hTd,jx,if_pos ⟨rfl,by simp; omega⟩]
  have t5:T.getD 5 undef=.int .i64 x:=by rw[hTd,jx,if_neg (by simp),jx,if_neg (by simp),jx,if_pos ⟨rfl,by simp; omega⟩]
  have t2:T.getD 2 undef=.pointer (some ⟨rb,0,none⟩):=by rw[hTd,jx,if_neg (by simp),jx,if_neg (by simp),jx,if_neg (by simp),jx,if_neg (by simp),h2]
  have tsz:78≤T.size:=by rw[hTd]; simpa using hsz
  clear hTd
  by_cases hx:x=0
  ·have e51:Act.eval {tmps:=T,defers:=[]} (.tmp 51)=.bool false:=t51.trans (by simp[hx]);refine wpIn_cond_false e51 (wpIn_skip ?_);simp only[Exit.inBlock,ownPostK];exact⟨KeepsOthers.refl _,Below.refl _ _,fun y hy=>(cQ.1 hy).elim (h1 y) (fun h=>by rw[cY] at h; rw[h,hx]),hbel⟩
  ·have e51:Act.eval {tmps:=T,defers:=[]} (.tmp 51)=.bool true:=t51.trans (by simp[hx]);refine wpIn_cond_true e51 (wpIn_seq (wpIn_region ?_));rw[show ∀o p:Oper,List.range (#[o,p]:Array Oper).size=[0,1] from fun _ _=>rfl,wpOpsIn_cons]
   have e5:(execOp (Act.eval {tmps:=T,defers:=[]}) {dst:=some 52,op:=.move (.tmp 5),type:=35,pos:=r,after:=#[],guard:=none}).run Tryz.prog W=.ok (.value (.int .i64 x)) W:=by
    show Result.ok (Next.value (T.getD 5 undef)) W=_;rw[t5]
   refine Er (d:=52) (u:=.int .i64 x) (w':=W) hT rfl rfl rfl (by simp) e5 ?_;rw[wpOpsIn_cons];have hW:W.heap[rb]?=some (.cells #[v0] e0 (0,0)):=(hbel.block rb hrl).trans hrb
   letI:ó:=⟨fun _=>False,[],none⟩
   have hst:=qg (P:=Tryz.prog) (w:=W) (t:=35) (u:=.int .i64 x) (n:=1) (b:=rb) (o:=0) (by kernel_rfl) rfl hW (by simp) (by simp[Value.cells,Value.oneCell'])
   have hst':(storeVar 35 ⟨rb,0,none⟩ (.int .i64 x)).run Tryz.prog W=.ok () (W.setRow rb #[.int .i64 x]):=by simpa[Value.cells] using hst
   have t52:(T.setIfInBounds 52 (.int .i64 x)).getD 52 undef=.int .i64 x:=by rw[jx,if_pos ⟨rfl,by omega⟩]
   have t2':(T.setIfInBounds 52 (.int .i64 x)).getD 2 undef=.pointer (some ⟨rb,0,none⟩):=by rw[jx,if_neg (by simp),t2]
   have e6:(execOp (Act.eval {tmps:=T.setIfInBounds 52 (.int .i64 x),defers:=[]}) {dst:=none,op:=.store 35 (.tmp 2) (.tmp 52),type:=0,pos:=r,after:=#[{on:=0,ground:=.data},{on:=0,ground:=.phase}],guard:=none}).run Tryz.prog W=.ok .skip (W.setRow rb #[.int .i64 x]):=by
    show((do Instr.storeAt 35 ((T.setIfInBounds 52 (.int .i64 x)).getD 2 undef) ((T.setIfInBounds 52 (.int .i64 x)).getD 52 undef); pure .skip):Sem Next).run Tryz.prog W=_;rw[t52,t2'];simp[Instr.storeAt,Instr.sureAddr,hst']
   refine agx (w':=W.setRow rb #[.int .i64 x]) hT rfl rfl rfl (by simp) e6 ?_;refine wpIn_ret ?_;simp only[Exit.inBlock,ownPostK];refine⟨⟨by simp,fun k o hk ho=>?_⟩,trivial,pre,x,rfl,h1,hx,hbel.os,hbel.tape,hbel.output,by simpa using hbel.size,fun k hk hne=>(setRow_other _ _ _ _ hne).trans (hbel.block k hk),⟨_,setRow_heap _ _ _ _ _ _ hW⟩⟩
   by_cases hk2:k=rb
   ·subst hk2; rw[hW] at hk; cases hk; simp[Obj.isCells] at ho
   ·rw[setRow_other _ _ _ _ hk2]; exact hk
 case hdone =>
  intro D xs W hD hS ⟨h1,hbel⟩ hDo;subst hS;exact hdone D W h1 hbel hD hDo
 case hstop =>
  intro D c pre W hD hS ⟨hc,pre',x,h3,h4,h5,h6⟩ hDo;subst hc;refine wpIn_ret (hstop D W x ?_ h6 hD hDo);obtain⟨t,rfl⟩:=hS;rw[h3,di,List.find?_append]
  have:List.find? (fun e=>e != 0) pre'=none:=eh.2 fun y hy=>by simp[h4 y hy]
  rw[this];simp[h5]
end Go.Proofs.ZzM
end

noncomputable section
set_option maxRecDepth 100000
namespace Go.Proofs.ZzM
open Go Go.Am Go.RowKit
def fstC:Code→Code
 |.seq a _=>a
 |c=>c
def sndC:Code→Code
 |.seq _ b=>b
 |c=>c
def aiD:Nat→Code→Code
 |0,c=>fstC c
 |n+1,c=>aiD n (sndC c)
def al7:Nat→Code→Code
 |0,c=>c
 |n+1,c=>al7 n (sndC c)
def ckB:Code:=Tryz.f66.body.getD .skip
def ckA5:Code:=fstC (al7 5 ckB |> fstC)
def ckRF:Code:=sndC (al7 5 ckB |> fstC)
def U6:Code:=sndC (al7 5 ckB)
def ckPre:Code:=.seq (aiD 0 ckB) (.seq (aiD 1 ckB) (.seq (aiD 2 ckB) (.seq (aiD 3 ckB) (.seq (aiD 4 ckB) ckA5))))
def ana:Tryz.f66.body=some (.seq (aiD 0 ckB) (.seq (aiD 1 ckB) (.seq (aiD 2 ckB) (.seq (aiD 3 ckB) (.seq (aiD 4 ckB) (.seq (.seq ckA5 ckRF) U6)))))):=by kernel_rfl
def ck_pt:List (Nat×Ø):=[(135,Eo),(133,CG),(131,sr),(132,xl)]
def ckE (ρ:Type):Env ρ:=Ù ck_pt []
abbrev ckR:Type:=Int ⊕ (List AV×List Blk)
def ajR (S:St):Option Int:=match oZ Tryz.prog Tryz.f66 S with
 |some v=>Ć [tI] S.h v
 |none=>none
def ckK (e:Exit) (S:St):Option ckR:=match e with
 |.ret=>match ajR S with
  |some n=>some (.inl n)
  |none=>none
 |.normal=>match decide (78≤S.t.length) with
  |true=>some (.inr ([lk S.t 1,lk S.t 2,lk S.t 48],S.h))
  |false=>none
 |_=>none
def ckH (x:Val Ä) (s:Val (.map tI Ñ)) (n:Int):List Blk :=
 [.cells (flat Ä x),.cells [.int .i64 n],.cells (flat Ä x),.cells [.mp tI Ñ s],.cells [.fn (.func 188) [] [.box 3 0]]]
def ckM (x:Val Ä):Option ckR :=
 Ã (Τ x.1 (0:Int) (1000000:Int)) fun r1=>ifb (!r1) (some (.inl 1)) (ifb (igt (Ú x.2.1) (12:Int)) (some (.inl 2)) (ifb (igt (Ú x.2.2.1) (40:Int)) (some (.inl 2)) (ifb (igt (Ú x.2.2.2.1) (12:Int)) (some (.inl 2)) (ifb (igt (Ú x.2.2.2.2.1) (40:Int)) (some (.inl 2)) (ifb (igt (Ú x.2.2.2.2.2) (10:Int)) (some (.inl 2))
  (Ã (Α x) fun r2=>ifb (ine r2 (0:Int)) (some (.inl r2)) (Ã (ς x) fun r3=>some (.inr ([.box 0 0,.box 1 0,.fn (.func 191) [] [.box 2 0,.box 4 0,.box 3 0]],ckH x r3 0)))))))))
def ck_pre (x:Val Ä):goC (ckE ckR) (jX (ckE ckR) 10) 66 [] 0 0 ckPre {t:=Ă [Ä] x++List.replicate 77 .any,h:=[]} ckK=ckM x:=by kernel_rfl
def amk (ρ:Type):Env ρ:={ckE ρ with inl:=fun _=>false}
def ckS (x:Val Ä):Option Int :=
 Ã (pR x) fun r5=>ifb (igt (Ú r5) (59:Int)) (some (2:Int)) (ck ((2:Int)*(Ú x.2.1)) fun n6=>ck ((Ú r5)-(Ú x.2.1)) fun n7=>ck ((2:Int)*n7) fun n8=>ck (n6+n8) fun n9=>ck ((2:Int)*(Ú x.2.2.2.2.1)) fun n10=>ck (n9+n10) fun n11=>ifb (igt n11 (300:Int)) (some (2:Int)) (some (0:Int)))
def ckK2 (e:Exit) (S:St):Option Int:=match e with
 |.ret=>match lk S.t 2 with
  |.box 1 0=>match lkB S.h 1 with
   |.cells [.int .i64 n]=>some n
   |_=>none
  |_=>none
 |_=>none
def ck_suf (x:Val Ä) (s:Val (.map tI Ñ)):goC (amk Int) (jX (amk Int) 10) 66 [] 0 0 U6 {t:=[.any,.box 0 0,.box 1 0]++List.replicate 75 .any,h:=ckH x s 0} ckK2=ckS x:=by kernel_rfl
def amj (x:Val Ä):û x=match ckM x with
 |none=>none
 |some (.inl n)=>some n
 |some (.inr _)=>Ã (ς x) fun s=>Zc (nj x s) some (ckS x):=by
 unfold û Qq ckM ckS
 cases Τ x.1 (0:Int) (1000000:Int) with
 |none=>rfl
 |some r1 =>
 cases r1 with
 |false=>rfl
 |true =>
 simp only[Ã,ifb,dR]
 cases igt (Ú x.2.1) (12:Int) with
 |true=>rfl
 |false =>
 cases igt (Ú x.2.2.1) (40:Int) with
 |true=>rfl
 |false =>
 cases igt (Ú x.2.2.2.1) (12:Int) with
 |true=>rfl
 |false =>
 cases igt (Ú x.2.2.2.2.1) (40:Int) with
 |true=>rfl
 |false =>
 cases igt (Ú x.2.2.2.2.2) (10:Int) with
 |true=>rfl
 |false =>
 cases Α x with
 |none=>rfl
 |some r2 =>
 simp only
 cases ine r2 (0:Int) with
 |true=>rfl
 |false =>
 cases ς x with
 |none=>rfl
 |some r3=>rfl
def an8 {x:Val Ä} {q:List AV×List Blk} (h:ckM x=some (.inr q)):((x.2.2.1:List (Val Â)).length≤1000∧(x.2.2.2.1:List (Val ō)).length≤1000∧(x.2.2.2.2.1:List (Val Í)).length≤1000∧(x.2.2.2.2.2:List (Val Â)).length≤1000) ∧
 ∃s,ς x=some s∧q=([.box 0 0,.box 1 0,.fn (.func 191) [] [.box 2 0,.box 4 0,.box 3 0]],ckH x s 0):=by
 unfold ckM at h
 cases h0:Τ x.1 (0:Int) (1000000:Int) with
 |none=>rw[h0] at h; cases h
 |some r1 =>
 rw[h0] at h
 cases r1 with
 |false=>cases h
 |true =>
 simp only[Ã,ifb,dR] at h
 cases h1:igt (Ú x.2.1) (12:Int) with
 |true=>rw[h1] at h; cases h
 |false =>
 rw[h1] at h
 cases h2:igt (Ú x.2.2.1) (40:Int) with
 |true=>rw[h2] at h; cases h
 |false =>
 rw[h2] at h
 cases h3:igt (Ú x.2.2.2.1) (12:Int) with
 |true=>rw[h3] at h; cases h
 |false =>
 rw[h3] at h
 cases h4:igt (Ú x.2.2.2.2.1) (40:Int) with
 |true=>rw[h4] at h; cases h
 |false =>
 rw[h4] at h
 cases h5:igt (Ú x.2.2.2.2.2) (10:Int) with
 |true=>rw[h5] at h; cases h
 |false =>
 rw[h5] at h
 cases h6:Α x with
 |none=>rw[h6] at h; cases h
 |some r2 =>
 rw[h6] at h;simp only at h
 cases h7:ine r2 (0:Int) with
 |true=>rw[h7] at h; cases h
 |false =>
 rw[h7] at h
 cases h8:ς x with
 |none=>rw[h8] at h; cases h
 |some r3 =>
 rw[h8] at h
 have lt:∀{α:Type} (l:List α) (n:Nat),igt (Ú l) (n:Int)=false→l.length≤n:=by
  intro α l n h;unfold Ú at h;rw[N4] at h;simp only[igt,gt_iff_lt,decide_eq_false_iff_not] at h;omega
 simp only[Option.some.injEq,Sum.inr.injEq] at h;exact⟨⟨by have:=lt x.2.2.1 40 h2; omega,by have:=lt x.2.2.2.1 12 h3; omega,by have:=lt x.2.2.2.2.1 40 h4; omega,by have:=lt x.2.2.2.2.2 10 h5; omega⟩,r3,rfl,h.symm⟩
def EA {α β:Type} {f:α→Option β}:∀{l:List α} {m:List β},N8 f l=some m→m.length=l.length∧∀(i:Nat) (a:α),l[i]?=some a→∃b,m[i]?=some b∧f a=some b
 |[],m,h=>by cases h; exact⟨rfl,fun i a ha=>by simp at ha⟩
 |a::l,m,h=>by
  unfold N8 at h
  cases ha:f a with
  |none=>rw[ha] at h; cases h
  |some b =>
   rw[ha] at h
   cases hl:N8 f l with
   |none=>rw[hl] at h; cases h
   |some m' =>
    rw[hl] at h;cases h;obtain⟨h1,h2⟩:=EA hl;refine⟨by simp[h1],fun i c hc=>?_⟩
    cases i with
    |zero=>simp at hc; subst hc; exact⟨b,by simp,ha⟩
    |succ i=>simpa using h2 i c (by simpa using hc)
def ML (l:List Int):upE (fun j=>l[j]?.getD 0) l.length=l:=by
 unfold upE;refine List.ext_getElem (by simp) fun i h1 h2=>?_;simp at h1;simp[h1]
def CR.below {n₀:Nat} {w W:World} {av:Nat→Prop} (hb:Below n₀ w W) (hn:w.heap.size≤n₀) {t:Ty} {x:Val t} {vs:List Value} (h:CR w av t x vs):CR W av t x vs :=
 h.keep fun b hlt ha=>⟨hb.block b (dm hlt hn),ha⟩
def Nw {w:World} {av:Nat→Prop} {xs:List (Int×Int)} {v:Value} (h:CR w av (.slice Â) xs [v]):∃base cap b off,v=.slice base xs.length cap∧(0<xs.length→base=some ⟨b,off,none⟩∧b<w.heap.size) ∧
 ∀j,j<xs.length→w.cell? ⟨b,off+j*2,none⟩=some (.int .i64 (xs[j]?.getD (0,0)).1)∧w.cell? ⟨b,off+j*2+1,none⟩=some (.int .i64 (xs[j]?.getD (0,0)).2):=by
 obtain⟨base,cap,e,hc,hx⟩:=h;cases e;rcases hx with hx|⟨b,off,hb,hav,hlt,hx⟩
 ·refine⟨base,cap,0,0,rfl,fun h=>?_,fun j hj=>?_⟩
  ·rw[show xs=[] from hx] at h; simp at h
  ·rw[show xs=[] from hx] at hj; simp at hj
 ·refine⟨base,cap,b,off,rfl,fun _=>⟨hb,hlt⟩,fun j hj=>?_⟩;obtain⟨us,h1,h2⟩:=hx j xs[j] (cI hj);obtain⟨u1,u2,e1,h3,h4⟩:=h1;have e3:u1=[.int .i64 xs[j].1]:=h3;have e4:u2=[.int .i64 xs[j].2]:=h4;subst e3 e4 e1;have s:(Â).size=2:=rfl;rw[s] at h2;have c1:=h2 0 _ rfl;have c2:=h2 1 _ rfl;rw[cI hj];exact⟨by simpa using c1,by simpa[eT] using c2⟩
end Go.Proofs.ZzM
end

noncomputable section
set_option maxRecDepth 100000
namespace Go.Proofs.ZzM
open Go Go.Am Go.RowKit
section
variable {w W W':World}
abbrev noG:Nat→Prop:=fun _=>False
def XU (w:World) (n:Int):kI w noG tI n (.int .i64 n):=⟨[.int .i64 n],rfl,rfl⟩
def anI {sb:Nat} {mv:Value} {e:TypeId} {s:Val (.map tI Ñ)} (h:w.heap[sb]?=some (.cells #[mv] e (0,0))) (hm:CR w noG (.map tI Ñ) s [mv]):kI w noG (.ptr (.map tI Ñ)) s (.pointer (some ⟨sb,0,none⟩)):=by
 letI:ó:=⟨fun _=>False,[],none⟩
 exact⟨[.pointer (some ⟨sb,0,none⟩)],⟨sb,0,[mv],rfl,id,Ė h,hm,Ō.of_cells h⟩,rfl⟩
def ans {y:Int} {u:Value} (h:RR w noG [tI] y u):u=.int .i64 y:=by
 obtain⟨us,h1,rfl⟩:=h;have:us=[.int .i64 y]:=h1;rw[this]; rfl
def alV (h1:∀b,b<W.heap.size→W'.heap[b]?=W.heap[b]?) (h2:W.heap.size≤W'.heap.size) (h3:W'.os=W.os) (h4:W'.tape=W.tape) (h5:W'.output=W.output):W.grownBy W' none :=
 ⟨h3,h4,h5,h2,fun b hb _=>h1 b hb⟩
def Yf {f:Nat} {p:Ø} (hp:Ï Tryz.prog f p) (hrs:p.rs=[tI]) {x:Val (tyL p.ts)} {y:Int} (hF:p.F x=some (hrs▸(show Val (tyL [tI]) from y))) {vals:List Value} (ha:AL W noG p.ts x vals) :
 CallsIn Fence.wide 0 Tryz.prog f vals.toArray W fun e W''=>e=.returned (.int .i64 y)∧W.grownBy W'' none:=by
 obtain⟨ts,rs,F⟩:=p;dsimp only at hrs hF ha x;subst hrs;refine(hp noG x y hF W vals (fun _ h=>h.elim) ha).2.mono fun e w' ⟨u,h0,h1,h2,h3,h4,h5,h6⟩=>⟨?_,alV h2 h3 h4 h5 h6⟩;rw[h0,ans h1]
def YK {s:Val (.map tI Ñ)} {a b y:Int} (hF:ņ a b s=some y) {sb:Nat} {mv:Value} {e:TypeId} (h:W.heap[sb]?=some (.cells #[mv] e (0,0))) (hm:CR W noG (.map tI Ñ) s [mv]) :
 CallsIn Fence.wide 0 Tryz.prog 188 #[.int .i64 a,.int .i64 b,.pointer (some ⟨sb,0,none⟩)] W fun e W''=>e=.returned (.int .i64 y)∧W.grownBy W'' none :=
 Yf aeg rfl (x:=(a,b,s)) (y:=y) hF (vals:=[.int .i64 a,.int .i64 b,.pointer (some ⟨sb,0,none⟩)]) ⟨_,_,rfl,XU _ _,_,_,rfl,XU _ _,_,rfl,anI h hm⟩
def aiQ {mv:Value} {s:Val (.map tI Ñ)} (hm:CR W noG (.map tI Ñ) s [mv]):kI W noG (.map tI Ñ) s mv:=⟨[mv],hm,rfl⟩
def afV {x:Val Ä} {cs:Array Value} (hb:CR W noG Ä x cs.toList):kI W noG Ä x (.agg cs):=⟨cs.toList,hb,by show Value.agg cs=Value.agg cs.toList.toArray; rw[Array.toArray_toList]⟩
def ai2 {x:Val Ä} {s:Val (.map tI Ñ)} {i y:Int} (hF:ε x s i=some y) {mv:Value} {cs:Array Value} (hb:CR W noG Ä x cs.toList) (hm:CR W noG (.map tI Ñ) s [mv]) :
 CallsIn Fence.wide 0 Tryz.prog 192 #[.agg cs,mv,.int .i64 i] W fun e W''=>e=.returned (.int .i64 y)∧W.grownBy W'' none :=
 Yf Yo rfl (x:=(x,s,i)) (y:=y) hF (vals:=[.agg cs,mv,.int .i64 i]) ⟨_,_,rfl,afV hb,_,_,rfl,aiQ hm,_,rfl,XU _ _⟩
def abN {x:Val Ä} {s:Val (.map tI Ñ)} {i y:Int} (hF:ň x s i=some y) {mv:Value} {cs:Array Value} (hb:CR W noG Ä x cs.toList) (hm:CR W noG (.map tI Ñ) s [mv]) :
 CallsIn Fence.wide 0 Tryz.prog 193 #[.agg cs,mv,.int .i64 i] W fun e W''=>e=.returned (.int .i64 y)∧W.grownBy W'' none :=
 Yf MG rfl (x:=(x,s,i)) (y:=y) hF (vals:=[.agg cs,mv,.int .i64 i]) ⟨_,_,rfl,afV hb,_,_,rfl,aiQ hm,_,rfl,XU _ _⟩
end
def oX {w:World} {av:Nat→Prop} {t:Ty} {xs:List (Val t)} {vs:List Value} (h:CR w av (.slice t) xs vs):∃base cap,vs=[.slice base xs.length cap]:=by
 obtain⟨base,cap,e,_⟩:=h;exact⟨base,cap,e⟩
def alh {x:Val Ä} {s:Val (.map tI Ñ)} {l1 l2 l3 l4:List Int} (h1:N8 (fun u=>ņ u.1 u.2 s) (x.2.2.1:List (Int×Int))=some l1) (h2:N8 (fun i=>ε x s i) (w7 (x.2.2.2.1:List (Val ō)).length)=some l2)
 (h3:N8 (fun i=>ň x s i) (w7 (x.2.2.2.2.1:List (Val Í)).length)=some l3) (h4:N8 (fun u=>ņ u.1 u.2 s) (x.2.2.2.2.2:List (Int×Int))=some l4)
 (hlen:(x.2.2.1:List (Val Â)).length≤1000∧(x.2.2.2.1:List (Val ō)).length≤1000∧(x.2.2.2.2.1:List (Val Í)).length≤1000∧(x.2.2.2.2.2:List (Val Â)).length≤1000)
 {w:World} {bb tb sb:Nat} {te te2 te3:TypeId} {cb:Array Value} {mv:Value} (hbb:w.heap[bb]?=some (.cells cb te (0,0))) (hbk:CR w noG Ä x cb.toList) (htb:w.heap[tb]?=some (.cells #[.func (.func 188) #[] #[.pointer (some ⟨sb,0,none⟩)]] te2 (0,0)))
 (hsb:w.heap[sb]?=some (.cells #[mv] te3 (0,0))) (hmv:CR w noG (.map tI Ñ) s [mv]) :
 SeqStopsK Fence.wide 1 Tryz.prog 191 #[.pointer (some ⟨bb,0,none⟩),.pointer (some ⟨tb,0,none⟩),.pointer (some ⟨sb,0,none⟩)] (fun x:Int=>#[.int .i64 x]) (Below w.heap.size) (fun xs=>xs=l1++(l2++(l3++l4))) (fun pre=>pre <+: (l1++(l2++(l3++l4)))) (l1++(l2++(l3++l4))).length w:=by
 intro l J Jx W hbel hJ hJx hY h0;obtain⟨fl,r0,e0,hfl,hr0⟩:=id hbk;obtain⟨ga,r1,e1,hga,hr1⟩:=hr0;obtain⟨us,r2,e2,hus,hr2⟩:=hr1;obtain⟨lo,r3,e3,hlo,hr3⟩:=hr2;obtain⟨co,ko,e4,hco,hko⟩:=hr3;obtain⟨f1,f2,e5,hf1,hf2⟩:=hfl;have e6:f1=[.int .i64 x.1.1]:=hf1;have e7:f2=[.int .i64 x.1.2]:=hf2;obtain⟨gab,gac,e8⟩:=oX hga;obtain⟨lob,loc,e9⟩:=oX hlo;obtain⟨cob,coc,e10⟩:=oX hco;obtain⟨usb0,usc0,e11⟩:=oX hus;obtain⟨kob0,koc0,e12⟩:=oX hko;rw[e11] at hus;rw[e12] at hko;obtain⟨usb,usc,ub,uo,e13,hub,hU⟩:=Nw hus;obtain⟨kob,koc,kb,kof,e14,hkb,hK⟩:=Nw hko;rw[e13] at e11;rw[e14] at e12
 have hcb:cb=#[.int .i64 x.1.1,.int .i64 x.1.2,.slice gab (x.2.1:List (Val Ñ)).length gac,.slice usb (x.2.2.1:List (Val Â)).length usc,.slice lob (x.2.2.2.1:List (Val ō)).length loc,.slice cob (x.2.2.2.2.1:List (Val Í)).length coc,.slice kob (x.2.2.2.2.2:List (Val Â)).length koc]:=by
  rw[←dO,e0,e1,e2,e3,e4,e5,e6,e7,e8,e9,e10,e11,e12];rfl
 obtain⟨g1,q1⟩:=EA h1;obtain⟨g2,q2⟩:=EA h2;obtain⟨g3,q3⟩:=EA h3;obtain⟨g4,q4⟩:=EA h4
 have gl2:l2.length=(x.2.2.2.1:List (Val ō)).length:=by rw[g2]; simp[w7]
 have gl3:l3.length=(x.2.2.2.2.1:List (Val Í)).length:=by rw[g3]; simp[w7]
 have up1:upE (fun j=>l1[j]?.getD 0) (x.2.2.1:List (Val Â)).length=l1:=by rw[←g1]; exact ML l1
 have up2:upE (fun j=>l2[j]?.getD 0) (x.2.2.2.1:List (Val ō)).length=l2:=by rw[←gl2]; exact ML l2
 have up3:upE (fun j=>l3[j]?.getD 0) (x.2.2.2.2.1:List (Val Í)).length=l3:=by rw[←gl3]; exact ML l3
 have up4:upE (fun j=>l4[j]?.getD 0) (x.2.2.2.2.2:List (Val Â)).length=l4:=by rw[←g4]; exact ML l4
 have at1:∀{xs:List (Int×Int)} {ls:List Int},(∀(i:Nat) (a:Int×Int),xs[i]?=some a→∃b,ls[i]?=some b∧ņ a.1 a.2 s=some b)→∀j,j<xs.length→ņ (xs[j]?.getD (0,0)).1 (xs[j]?.getD (0,0)).2 s=some (ls[j]?.getD 0):=by
  intro xs ls hq j hj;obtain⟨b,hb,hf⟩:=hq j xs[j] (cI hj);rw[cI hj,hb];exact hf
 have at2:∀{n:Nat} {ls:List Int} {f:Int→Option Int},(∀(i:Nat) (a:Int),(w7 n)[i]?=some a→∃b,ls[i]?=some b∧f a=some b)→∀j,j<n→f (j:Int)=some (ls[j]?.getD 0):=by
  intro n ls f hq j hj;obtain⟨b,hb,hf⟩:=hq j j (by simp[w7,hj]);rw[hb]; exact hf
 have hbel':∀{W':World},Below w.heap.size W W'→Below w.heap.size w W':=fun h=>hbel.trans h;have hcell:∀{W':World} {p:Addr} {v:Value},Below w.heap.size w W'→w.cell? p=some v→p.block<w.heap.size→W'.cell? p=some v:=fun {W'} {p} {v} h hc hp=>(h.cell (p:=p) hp).trans hc;have lb:=Ė hbb;have lt:=Ė htb;have ls:=Ė hsb
 have:=als te 1 (by omega) l w.heap.size bb tb sb (.int .i64 x.1.1) (.int .i64 x.1.2) (.slice gab (x.2.1:List (Val Ñ)).length gac) mv lb lt ls
  ub uo (x.2.2.1:List (Val Â)).length usc kb kof (x.2.2.2.2.2:List (Val Â)).length koc usb kob lob cob (x.2.2.2.1:List (Val ō)).length loc (x.2.2.2.2.1:List (Val Í)).length coc hub hkb
  (fun j=>(x.2.2.1:List (Int×Int))[j]?.getD (0,0)) (fun j=>(x.2.2.2.2.2:List (Int×Int))[j]?.getD (0,0)) (fun j=>l1[j]?.getD 0) (fun j=>l2[j]?.getD 0) (fun j=>l3[j]?.getD 0) (fun j=>l4[j]?.getD 0)
  hlen.1 hlen.2.1 hlen.2.2.1 hlen.2.2.2 W ((hbel.block bb lb).trans (by rw[hbb,hcb])) (hcell hbel (by simp[World.cell?,htb]) lt) (hcell hbel (by simp[World.cell?,hsb]) ls)
  (fun j hj=>⟨hcell hbel (hU j hj).1 (hub (by omega)).2,hcell hbel (hU j hj).2 (hub (by omega)).2⟩) (fun j hj=>⟨hcell hbel (hK j hj).1 (hkb (by omega)).2,hcell hbel (hK j hj).2 (hkb (by omega)).2⟩)
  (fun j hj W' hW=>YK (at1 q1 j hj) (((hbel' hW).block sb ls).trans hsb) (CR.below (hbel' hW) (cJ _) hmv))
  (fun j hj W' hW=>YK (at1 q4 j hj) (((hbel' hW).block sb ls).trans hsb) (CR.below (hbel' hW) (cJ _) hmv))
  (fun j hj W' hW=>ai2 (at2 q2 j hj) (by have:=CR.below (hbel' hW) (cJ _) hbk; rwa [hcb] at this) (CR.below (hbel' hW) (cJ _) hmv))
  (fun j hj W' hW=>abN (at2 q3 j hj) (by have:=CR.below (hbel' hW) (cJ _) hbk; rwa [hcb] at this) (CR.below (hbel' hW) (cJ _) hmv))
  J Jx (fun pre W1 W2 hj hg=>hJ pre W1 W2 none hj hg (fun r e=>by cases e)) (fun pre W1 W2 hj hg=>hJx pre W1 W2 none hj hg (fun r e=>by cases e))
  (fun pre y W1 hj hl=>hY pre y W1 hj (by simp only[cN]; omega)) h0 hbel.size
 rw[up1,up2,up3,up4] at this;exact this
end Go.Proofs.ZzM
end

noncomputable section
set_option maxRecDepth 100000
namespace Go.Proofs.ZzM
open Go Go.Am Go.RowKit
section
variable [ó] {ρ:Type} {ν:Nat→Value} {w:World}
def peel (hq:ó.Q=none) {E:Env ρ} {call:List Nat→Bool→Nat→List AV→List Blk→(AV→List Blk→Option ρ)→Option ρ} {L:Nat} (hE:lK E L call) (hD:lY E L call) (hj:E.joins=fun _ _ _ _=>none) {fid:Nat} {path:List Nat} (hp:path.length+2=L) {x y c:Code} {bid n:Nat} {S:St} {K:Exit→St→Option ρ} {r:ρ} {a:Act} {Q:Exit→Act→World→Prop}
 (hL:∀z∈î bid x,nY E path fid z.1 z.2) (e:goC E call fid path 0 bid (.seq x y) S K=some r) (H:Sim ν S a w)
 (hn:∀ν' S' a' w',Sim ν' S' a' w'→Ev 0 ν S.h w ν' S'.h w'→goC E call fid path 0 bid y S' K=some r→c.wpIn Fence.wide n E.P Q a' w')
 (hx:∀ν' S' a' w' e,e≠.normal→Sim ν' S' a' w'→Ev 0 ν S.h w ν' S'.h w'→K e S'=some r→Q e a' w'):(Code.seq x c).wpIn Fence.wide n E.P Q a w:=by
 simp only[goC,hj] at e;have hgo:=lv hE hD hp x bid S _ ν a w hL e H (dZ _);rw[G6 hq] at hgo;refine wpIn_seq (wpIn_wide.2 (wpIn_wide.1 (wpIn_mono hgo fun e' a' w' ha=>?_)));obtain⟨ν',S',h1,h2,h3,h4,h5⟩:=ha
 cases e' with
 |normal=>exact hn ν' S' a' w' h1 h2 h5
 |exit id=>exact hx ν' S' a' w' _ (by simp) h1 h2 h5
 |goto l=>exact hx ν' S' a' w' _ (by simp) h1 h2 h5
 |ret=>exact hx ν' S' a' w' _ (by simp) h1 h2 h5
 |panic ch=>exact hx ν' S' a' w' _ (by simp) h1 h2 h5
 |outgrown=>exact hx ν' S' a' w' _ (by simp) h1 h2 h5
end
def aij {T:Array Value} {rb:Nat} {n:Int} {e:TypeId} {W:World} (h2:T.getD 2 undef=.pointer (some ⟨rb,0,none⟩)) (hc:W.heap[rb]?=some (.cells #[.int .i64 n] e (0,0))):(results Tryz.f66 T).run Tryz.prog W=.ok (.int .i64 n) W:=by
 letI:ó:=⟨fun _=>False,[],none⟩
 have hl:(loadVar 35 ⟨rb,0,none⟩).run Tryz.prog W=.ok (.int .i64 n) W:=by
  have:=tZ (P:=Tryz.prog) (w:=W) (t:=35) (agg:=false) (n:=1) (by kernel_rfl) (us:=[.int .i64 n]) rfl (fun _=>rfl) (a:=⟨rb,0,none⟩) (fun j v hj=>by
   have:=Ō.of_cells hc j v (by simpa using hj)
   cases j with
   |zero=>simpa[Addr.add] using this
   |succ j=>simp at hj)
  exact this
 have hr:Tryz.f66.results=#[.cell 2 35]:=by kernel_rfl
 unfold results;rw[hr,Array.mapM_eq_mapM_toList];simp only[Sem.run_bind,Sem.run_map,List.mapM_cons,List.mapM_nil,h2,asAddr,Sem.run_pure,Result.andThen_ok,hl];rfl
def HR_ghost {G:Nat→Prop} {D D':List Deferred} {Q Q':Option Nat} {ν:Nat→Value} {h:List Blk} {w:World} (H:@HR ⟨G,D,Q⟩ ν h w):@HR ⟨G,D',Q'⟩ ν h w :=
 @HR.mk ⟨G,D',Q'⟩ ν h w (@HR.blk ⟨G,D,Q⟩ ν h w H) (@HR.inj ⟨G,D,Q⟩ ν h w H) (@HR.ghlt ⟨G,D,Q⟩ ν h w H) (@HR.ghne ⟨G,D,Q⟩ ν h w H)
def aof [ó] {ν:Nat→Value} {h:List Blk} {w:World} {x:Val Ä} {us:List Value} (hv:ć (VRc ν h w) (flat Ä x) us):CR w noG Ä x us:=by
 have h1:æ Ä (flat Ä x)=some x:=rfl;have h2:ć (VRs w (Av ν h)) (flat Ä x) us:=hv.mono fun c u hu=>hu.1.data;exact CR.mono (fun _ hf=>hf.elim) (ű h1 h2)
def Cn (G:Nat→Prop) (y:Int) (w:World) (e:Ending) (w':World):Prop :=
 ∃u,e=.returned u∧RR w' G [tI] y u∧(∀b,b<w.heap.size→w'.heap[b]?=w.heap[b]?)∧w.heap.size≤w'.heap.size∧w'.os=w.os∧w'.tape=w.tape∧w'.output=w.output
def afJ {G:Nat→Prop} {y:Int} {w0 w:World} {a:Act} {D rb:Nat} {e:TypeId} (hd:a.defers=[afi D]) (hD:w.heap[D]?=some (.deferred (some []))) (h2:a.tmps.getD 2 undef=.pointer (some ⟨rb,0,none⟩)) (hc:w.heap[rb]?=some (.cells #[.int .i64 y] e (0,0)))
 (hb:∀b,b<w0.heap.size→w.heap[b]?=w0.heap[b]?) (hDl:w0.heap.size≤D) (hsz:w0.heap.size≤w.heap.size) (h3:w.os=w0.os) (h4:w.tape=w0.tape) (h5:w.output=w0.output):LeavesInM Fence.wide 2 Tryz.prog Tryz.f66 a.tmps (Cn G y w0) a.defers .returning w:=by
 rw[hd]
 have hne:rb≠D:=fun h=>by rw[h,hD] at hc; cases hc
 have ho:∀b,b≠D→(w.putObj D (.deferred none)).heap[b]?=w.heap[b]?:=fun b hb=>by
  simp only[World.putObj,eW];rw[if_neg (fun h=>hb h.symm)]
 refine⟨by simp,.inl ⟨D,_,rfl,run_takeDeferred hD,?_⟩⟩;refine⟨.int .i64 y,aij h2 ((ho rb hne).trans hc),.int .i64 y,rfl,⟨[.int .i64 y],rfl,rfl⟩,fun b hlt=>(ho b (by omega)).trans (hb b hlt),by simpa[World.putObj] using hsz,h3,h4,h5⟩
def an9 (S:St):ckK .ret S=(ajR S).map .inl:=by
 unfold ckK
 cases ajR S<;>rfl
def aha (S:St):ckK .normal S=if decide (78≤S.t.length)=true then some (.inr ([lk S.t 1,lk S.t 2,lk S.t 48],S.h)) else none:=by
 unfold ckK
 cases decide (78≤S.t.length)<;>rfl
def jn [ó] {ρ:Type} {E:Env ρ} (h0:E.loops=ou []) {path:List Nat} {fid bid:Nat} {b:Code}:nY E path fid bid b:=fun m S K r ν a w e=>by
 rw[h0] at e;cases e
def anw:Code→String
 | .region _ ops _ => ((ops[0]?).map fun o => o.pos).getD ""
 | _ => ""
def rfA:Code→Code
 |.block _ (.rangeFunc _ _ a _)=>a
 |_=>.skip
def rfB:Code→Code
 |.block _ (.rangeFunc _ _ _ (.block _ (.seq a _)))=>a
 |_=>.skip
def rfC:Code→Code
 |.block _ (.rangeFunc _ _ _ (.block _ (.seq _ (.cond _ (.seq a _) _))))=>a
 |_=>.skip
def an7:ckRF=Code.block 0 (Code.rangeFunc (.tmp 48) #[49] (aeX (anw (rfA ckRF))) (amS (anw (rfB ckRF)) (anw (rfC ckRF)))):=by kernel_rfl
def am9:∀e∈ck_pt,Ï Tryz.prog e.1 e.2:=Á Rh (Á Rg (Á Ay (Á Rj Æ)))
def ajS {e:Exit} {S:St} {n:Int} (h:ckK2 e S=some n):e=.ret∧lk S.t 2=.box 1 0∧lkB S.h 1=.cells [.int .i64 n]:=by
 unfold ckK2 at h
 split at h
 ·split at h
  ·rename_i h2
   split at h
   ·rename_i h3;cases h;exact⟨rfl,h2,h3⟩
   ·cases h
  ·cases h
 ·cases h
def abm [ó] {ν:Nat→Value} {h:List Blk} {w:World} {n:Int} {id:Nat} (H:HR ν h w) (hl:lkB h id=.cells [.int .i64 n]):∃b e,ν id=.pointer (some ⟨b,0,none⟩)∧w.heap[b]?=some (.cells #[.int .i64 n] e (0,0)):=by
 have hB:=H.blk id;rw[hl] at hB;obtain⟨b,c,e,h1,h2,h3⟩:=hB;obtain⟨u,h4,h5⟩:=h3.one;have h6:u=.int .i64 n:=h5.1;refine⟨b,e,h1,?_⟩;rw[h2]
 have:c=#[.int .i64 n]:=by rw[←dO,h4,h6]
 rw[this]
def zx [ó] {ν:Nat→Value} {h:List Blk} {w:World} {id off:Nat} {v:Value} {b:Nat} (hv:VR ν h w (.box id off) v) (hb:ν id=.pointer (some ⟨b,0,none⟩)):v=.pointer (some ⟨b,off,none⟩):=by
 obtain⟨cs,b',h1,h2,h3⟩:=hv;rw[hb] at h2;cases h2;exact h3
def an6 {G:Nat→Prop} {x:Val Ä} {s:Val (.map tI Ñ)} {y:Int} (hS:ckS x=some y) {ν:Nat→Value} {w0 w6 W:World} {a:Act} {D:Nat} (H:@HR ⟨G,[],none⟩ ν (ckH x s 0) w6) (hb:Below w6.heap.size w6 W) (hD:w6.heap.size≤D) (hDo:W.heap[D]?=some (.deferred (some []))) (hd:a.defers=[afi D]) (hlen:78≤a.tmps.size)
 (t1:@VR ⟨G,[],none⟩ ν (ckH x s 0) w6 (.box 0 0) (a.tmps.getD 1 undef)) (t2:@VR ⟨G,[],none⟩ ν (ckH x s 0) w6 (.box 1 0) (a.tmps.getD 2 undef))
 (h0:∀b,b<w0.heap.size→w6.heap[b]?=w0.heap[b]?∧¬aes ν (ckH x s 0) b) (hsz:w0.heap.size≤w6.heap.size) (h3:w6.os=w0.os) (h4:w6.tape=w0.tape) (h5:w6.output=w0.output) :
 U6.wpIn Fence.wide 2 Tryz.prog (bodyPostM Fence.wide 2 Tryz.prog Tryz.f66 (Cn G y w0)) a W:=by
 have hlive:∀b,aes ν (ckH x s 0) b→b<w6.heap.size:=fun b hl=>@HR.ltA ⟨G,[],none⟩ _ _ _ H b (.inl hl)
 have t1':∃b,ν 0=.pointer (some ⟨b,0,none⟩)∧a.tmps.getD 1 undef=.pointer (some ⟨b,0,none⟩):=by
  obtain⟨cs,b,_,h2,h3⟩:=t1;exact⟨b,h2,h3⟩
 have t2':∃b,ν 1=.pointer (some ⟨b,0,none⟩)∧a.tmps.getD 2 undef=.pointer (some ⟨b,0,none⟩):=by
  obtain⟨cs,b,_,h2,h3⟩:=t2;exact⟨b,h2,h3⟩
 letI:ó:=⟨G,[afi D],none⟩
 have H1:HR ν (ckH x s 0) w6:=HR_ghost H;have H2:HR ν (ckH x s 0) W:=(H1.grow (fun b hlt=>hb.block b hlt) hb.size hb.os hb.tape hb.output 0).2;have hlib:MJ (amk Int):=Qt am9 (amk Int) rfl rfl rfl rfl rfl (hZ rfl);have hdraw:∀L call,lK (amk Int) L call→lY (amk Int) L call:=DK hmix;have hl0:(amk Int).loops=ou []:=rfl;have hcall:=mw (.inr fun _=>rfl) hlib hdraw (fun n hn hE path f fn c _ _ _ z _=>jn hl0) 10 (cJ _);have hEnv:lK (amk Int) 2 (jX (amk Int) 10):=⟨.inr (pT 9),hcall,hlib.plain,hlib.clone,hlib.joins⟩;have law:=ck_suf x s;rw[hS] at law
 have sim:Sim ν {t:=[.any,.box 0 0,.box 1 0]++List.replicate 75 .any,h:=ckH x s 0} a W:=by
  refine⟨hd,by simpa using hlen,fun i=>?_,H2⟩;simp only[Qs];rcases i with _|_|_|i
  ·trivial
  ·obtain⟨b,g1,g2⟩:=t1';exact⟨_,b,rfl,g1,g2⟩
  ·obtain⟨b,g1,g2⟩:=t2';exact⟨_,b,rfl,g1,g2⟩
  ·trivial
 refine wpIn_wide.2 (wpIn_wide.1 (wpIn_mono (lv hEnv (hdraw _ _ hEnv) rfl U6 0 _ _ ν a W (fun z _=>jn hl0) law sim (dZ _)) fun e a' w' ha=>?_));obtain⟨ν',S',g1,g2,_,_,g5⟩:=ha;obtain⟨rfl,k2,k3⟩:=ajS g5;obtain⟨rb,te,r1,r2⟩:=abm g1.heap k3;have r3:=g1.tmps 2;rw[k2] at r3;have r4:=zx r3 r1;have hDlt:=Ė hDo;refine afJ (w:=w') (a:=a') (G:=G) (y:=y) (w0:=w0) (D:=D) (rb:=rb) g1.defers ((g2.keep D hDlt fun hl=>by have:=hlive D hl; omega).1.trans hDo) r4 r2 (fun b hlt=>?_) (by omega) (by have:=g2.size; have:=hb.size; omega) (g2.os.trans (hb.os.trans h3)) (g2.tape.trans (hb.tape.trans h4)) (g2.output.trans (hb.output.trans h5));have h01:=h0 b hlt
 have hlt6:b<w6.heap.size:=by omega
 have hltW:b<W.heap.size:=by have:=hb.size; omega
 exact(g2.keep b hltW h01.2).1.trans ((hb.block b hlt6).trans h01.1)
set_option maxHeartbeats 2000000 in
def ahb (G:Nat→Prop) (x:Val Ä) (y:Int) (hF':û x=some y) (w:World) (vals:List Value) (hG:∀b,G b→b<w.heap.size) (hAL:AL w G [Ä] x vals) :
 (∃fn c,Tryz.prog.funcs[66]?=some fn∧fn.body=some c)∧CallsIn Fence.wide 0 Tryz.prog 66 vals.toArray w (Cn G y w):=by
 rw[amj] at hF'
 letI:ó:=⟨G,[],none⟩
 have hpt:=am9;have hlib:MJ (ckE ckR):=Qt hpt (ckE ckR) rfl rfl rfl rfl rfl (hZ rfl);have hdraw:∀L call,lK (ckE ckR) L call→lY (ckE ckR) L call:=DK hmix;have h0:(ckE ckR).loops=ou []:=rfl;have hcall:=mw (.inl ⟨rfl,rfl⟩) hlib hdraw (fun n hn hE path f fn c _ _ _ z _=>jn h0) 10 (cJ _);have hEnv:lK (ckE ckR) 2 (jX (ckE ckR) 10):=⟨.inr (pT 9),hcall,hlib.plain,hlib.clone,hlib.joins⟩;have hD:=hdraw _ _ hEnv;have H:HR (fun _=>undef) [] w:=⟨fun _=>trivial,fun _ _ _ h=>(by cases h),hG,fun _ _ h=>(by cases h)⟩;have hav:∀b,Av (fun _=>undef) [] b→G b:=fun b hb=>hb.elim (fun⟨_,h,_⟩=>by cases h) id;have hargs:ć (VR (fun _=>undef) [] w) (Ă [Ä] x) vals:=AL.VR (hAL.mono hav);refine⟨⟨Tryz.f66,_,Tryz.func66,ana⟩,?_⟩
 have hlen:vals.length=1:=by
  have:=hargs.length;simpa[Ă,ajC] using this.symm
 cases hM:ckM x with
 |none=>rw[hM] at hF'; cases hF'
 |some r0 =>
 rw[hM] at hF';have law:=ck_pre x;rw[hM] at law;refine callsIn_wide.2 (callsIn_wide.1 (callsIn_of_wp_marks (n:=2) Tryz.func66 ana trivial ?_ (R:=Cn G y w)))
 have hS:Sim (fun _=>undef) {t:=Ă [Ä] x++List.replicate 77 .any,h:=[]} {tmps:=vals.toArray++Array.replicate (Tryz.f66.ntmps-vals.toArray.size) undef,defers:=[]} w:=by
  refine⟨rfl,?_,fun i=>?_,H⟩
  ·have:Tryz.f66.ntmps=78:=by kernel_rfl
   have hl2:(Ă [Ä] x).length=1:=rfl;simp[this,hlen,hl2]
  ·simp only[Qs];rcases dv i (Ă [Ä] x).length with hi|hi
   ·have:=ć.lk (R:=VR (fun _=>undef) [] w) (fun _=>trivial) i hargs
    have hv:i<vals.length:=by rw[←hargs.length]; exact hi
    have h2:(vals.toArray++Array.replicate (Tryz.f66.ntmps-vals.toArray.size) undef).getD i undef=vals.getD i undef:=by
     simp[dK,eP,hv]
    rw[h2]; exact this
   ·rw[ai6 _ _ hi]; trivial
 -- the ways out ahead of the loop
 have out:∀ν' S' a' w' e,e≠.normal→Sim ν' S' a' w'→Ev 0 (fun _=>undef) [] w ν' S'.h w'→ckK e S'=some r0→bodyPostM Fence.wide 2 Tryz.prog Tryz.f66 (Cn G y w) e a' w':=by
  intro ν' S' a' w' e hne hS' hE' hk
  cases e with
  |normal=>exact(hne rfl).elim
  |ret =>
   rw[an9] at hk
   cases hr:ajR S' with
   |none=>rw[hr] at hk; cases hk
   |some n =>
    rw[hr,dL] at hk;cases hk
    have hyn:n=y:=by simpa using hF'
    subst hyn;unfold ajR at hr
    split at hr
    ·rename_i v hv;obtain⟨u,q1,q2⟩:=HW hS' hv;show LeavesInM _ _ _ _ _ _ a'.defers _ _;rw[show a'.defers=[] from hS'.defers];exact⟨u,q1,u,rfl,Vu hS'.heap [tI] q2 hr,fun b hb=>(hE'.keep b hb fun⟨_,h,_⟩=>by cases h).1,hE'.size,hE'.os,hE'.tape,hE'.output⟩
    ·cases hr
  |exit id=>cases hk
  |goto l=>cases hk
  |panic ch=>cases hk
  |outgrown=>cases hk
 have outT:∀{ν₁:Nat→Value} {h₁:List Blk} {w₁:World},Ev 0 (fun _=>undef) [] w ν₁ h₁ w₁→∀ν' S' a' w' e,e≠.normal→Sim ν' S' a' w'→Ev 0 ν₁ h₁ w₁ ν' S'.h w'→ckK e S'=some r0→bodyPostM Fence.wide 2 Tryz.prog Tryz.f66 (Cn G y w) e a' w' :=
  fun hE ν' S' a' w' e hne hS' hE' hk=>out ν' S' a' w' e hne hS' (hE.trans hE' (cJ _)) hk
 refine peel rfl hEnv hD rfl rfl (fun z _=>jn h0) law hS (fun ν1 S1 a1 w1 s1 e1 k1=>?_) out;refine peel rfl hEnv hD rfl rfl (fun z _=>jn h0) k1 s1 (fun ν2 S2 a2 w2 s2 e2 k2=>?_) (outT e1);have t2:=e1.trans e2 (cJ _);refine peel rfl hEnv hD rfl rfl (fun z _=>jn h0) k2 s2 (fun ν3 S3 a3 w3 s3 e3 k3=>?_) (outT t2);have t3:=t2.trans e3 (cJ _);refine peel rfl hEnv hD rfl rfl (fun z _=>jn h0) k3 s3 (fun ν4 S4 a4 w4 s4 e4 k4=>?_) (outT t3);have t4:=t3.trans e4 (cJ _);refine peel rfl hEnv hD rfl rfl (fun z _=>jn h0) k4 s4 (fun ν5 S5 a5 w5 s5 e5 k5=>?_) (outT t4);have t5:=t4.trans e5 (cJ _);refine wpIn_seq (wpIn_seq (wpIn_wide.2 (wpIn_wide.1 (wpIn_mono (lv hEnv hD rfl ckA5 0 S5 _ ν5 a5 w5 (fun z _=>jn h0) k5 s5 (dZ _)) fun e' a6 w6 ha=>?_))));obtain⟨ν,S,s6,e6,_,_,k6⟩:=ha;have t6:=t5.trans e6 (cJ _)
 have other:∀e,e≠.normal→ckK e S=some r0→Exit.then (Code.wpIn Fence.wide 2 Tryz.prog U6 (bodyPostM Fence.wide 2 Tryz.prog Tryz.f66 (Cn G y w))) (bodyPostM Fence.wide 2 Tryz.prog Tryz.f66 (Cn G y w)) e a6 w6:=by
  intro e hne hk;have:=out ν S a6 w6 e hne s6 t6 hk
  cases e<;>first|exact(hne rfl).elim|exact this
 cases e' with
 |exit id=>exact other _ (by simp) k6
 |goto l=>exact other _ (by simp) k6
 |ret=>exact other _ (by simp) k6
 |panic ch=>exact other _ (by simp) k6
 |outgrown=>exact other _ (by simp) k6
 |normal =>
 clear other;rw[aha] at k6
 split at k6<;>try (cases k6; done)
 rename_i h78
 have h78':78≤S.t.length:=by simpa using h78
 cases k6;obtain⟨hlens,s,hs,hq⟩:=an8 hM;simp only[Prod.mk.injEq,List.cons.injEq,and_true] at hq;obtain⟨⟨q1,q2,q48⟩,qh⟩:=hq
 have hF2:Zc (nj x s) some (ckS x)=some y:=by
  simp only at hF';rw[hs] at hF';exact hF'
 -- what the errors are
 obtain⟨L,hL,hLy⟩:∃L,nj x s=some L∧(match L.find? (fun e=>e != 0) with|some e=>some e|none=>ckS x)=some y:=by
  unfold Zc at hF2
  cases hl:nj x s with
  |none=>rw[hl] at hF2; cases hF2
  |some L=>rw[hl] at hF2; exact⟨L,rfl,hF2⟩
 obtain⟨l1,l2,l3,l4,m1,m2,m3,m4,rfl⟩:∃l1 l2 l3 l4,N8 (fun u=>ņ u.1 u.2 s) (x.2.2.1:List (Int×Int))=some l1∧N8 (fun i=>ε x s i) (w7 (x.2.2.2.1:List (Val ō)).length)=some l2 ∧
  N8 (fun i=>ň x s i) (w7 (x.2.2.2.2.1:List (Val Í)).length)=some l3∧N8 (fun u=>ņ u.1 u.2 s) (x.2.2.2.2.2:List (Int×Int))=some l4∧L=l1++(l2++(l3++l4)):=by
  unfold nj at hL
  cases m1:N8 (fun u=>ņ u.1 u.2 s) (x.2.2.1:List (Int×Int)) with
  |none=>rw[m1] at hL; cases hL
  |some l1 =>
  rw[m1] at hL
  cases m2:N8 (fun i=>ε x s i) (w7 (x.2.2.2.1:List (Val ō)).length) with
  |none=>simp only[Ã,m2] at hL; cases hL
  |some l2 =>
  cases m3:N8 (fun i=>ň x s i) (w7 (x.2.2.2.2.1:List (Val Í)).length) with
  |none=>simp only[Ã,m2,m3] at hL; cases hL
  |some l3 =>
  cases m4:N8 (fun u=>ņ u.1 u.2 s) (x.2.2.2.2.2:List (Int×Int)) with
  |none=>simp only[Ã,m2,m3,m4] at hL; cases hL
  |some l4 =>
  simp only[Ã,m2,m3,m4] at hL;cases hL;exact⟨l1,l2,l3,l4,rfl,rfl,rfl,rfl,rfl⟩
 -- the blocks
 obtain⟨T,Hh⟩:=S;dsimp only at q1 q2 q48 qh h78';subst qh;have p1:=s6.tmps 1;have p2:=s6.tmps 2;have p48:=s6.tmps 48;dsimp only at p1 p2 p48;rw[q1] at p1;rw[q2] at p2;rw[q48] at p48;obtain⟨rb,te1,n1,hrb⟩:=abm (id:=1) (n:=0) s6.heap rfl;have hB2:BR ν (ckH x s 0) w6 2 (.cells (flat Ä x)):=s6.heap.blk 2;have hB3:BR ν (ckH x s 0) w6 3 (.cells [.mp tI Ñ s]):=s6.heap.blk 3;have hB4:BR ν (ckH x s 0) w6 4 (.cells [.fn (.func 188) [] [.box 3 0]]):=s6.heap.blk 4;obtain⟨bb,cb,te,n2,hbb,hb2⟩:=hB2;obtain⟨sb,cs3,te3,n3,hsb,hb3⟩:=hB3;obtain⟨tb,cs4,te2,n4,htb,hb4⟩:=hB4;obtain⟨mv,z3,hm3⟩:=hb3.one;obtain⟨fv,z4,hm4⟩:=hb4.one;have hmv:CR w6 noG (.map tI Ñ) s [mv]:=CR.mono (fun _ hf=>hf.elim) (show CR w6 (Av ν (ckH x s 0)) (.map tI Ñ) s [mv] from hm3.1)
 have hc3:cs3=#[mv]:=by rw[←dO,z3]
 have hfv:fv=.func (.func 188) #[] #[.pointer (some ⟨sb,0,none⟩)]:=by
  obtain⟨fs,cs,h1,h2,h3⟩:=hm4.1
  have e1:fs=#[]:=by rw[←dO]; exact h2.nil_left
  obtain⟨u,e2,h4⟩:=h3.one;have e3:u=.pointer (some ⟨sb,0,none⟩):=zx (w:=w6) (id:=3) (off:=0) h4 n3
  have e4:cs=#[.pointer (some ⟨sb,0,none⟩)]:=by rw[←dO,e2,e3]
  rw[h1,e1,e4]
 have hc4:cs4=#[fv]:=by rw[←dO,z4]
 rw[hc3] at hsb;rw[hc4,hfv] at htb
 have hg:a6.tmps.getD 48 undef=.func (.func 191) #[] #[.pointer (some ⟨bb,0,none⟩),.pointer (some ⟨tb,0,none⟩),.pointer (some ⟨sb,0,none⟩)]:=by
  obtain⟨fs,cs,h1,h2,h3⟩:=p48
  have e1:fs=#[]:=by rw[←dO]; exact h2.nil_left
  have hl:=h3.length
  obtain⟨u1,u2,u3,e2⟩:∃u1 u2 u3,cs.toList=[u1,u2,u3]:=by
   rcases hcs:cs.toList with _|⟨u1,_|⟨u2,_|⟨u3,_|⟨u4,t⟩⟩⟩⟩<;>rw[hcs] at hl<;>simp at hl
   exact⟨u1,u2,u3,rfl⟩
  rw[e2] at h3;have e3:u1=.pointer (some ⟨bb,0,none⟩):=zx (w:=w6) (id:=2) (off:=0) h3.1 n2;have e4:u2=.pointer (some ⟨tb,0,none⟩):=zx (w:=w6) (id:=4) (off:=0) h3.2.1 n4;have e5:u3=.pointer (some ⟨sb,0,none⟩):=zx (w:=w6) (id:=3) (off:=0) h3.2.2.1 n3;rw[h1,e1];congr 1;rw[←dO,e2,e3,e4,e5]
 have hseq:=alh m1 m2 m3 m4 hlens hbb (aof hb2) htb hsb hmv;have h2:=zx p2 n1;have hsz:78≤a6.tmps.size:=du h78' s6.len
 have hkeep:∀b,b<w.heap.size→w6.heap[b]?=w.heap[b]?∧¬aes ν (ckH x s 0) b:=fun b hb=>t6.keep b hb fun⟨_,h,_⟩=>by cases h
 have hdef:a6.defers=[]:=s6.defers;show ckRF.wpIn Fence.wide 2 Tryz.prog (Exit.then (U6.wpIn Fence.wide 2 Tryz.prog (bodyPostM Fence.wide 2 Tryz.prog Tryz.f66 (Cn G y w))) (bodyPostM Fence.wide 2 Tryz.prog Tryz.f66 (Cn G y w))) a6 w6;rw[an7];refine wpIn_block (anr hseq hg h2 hsz hrb (fun D W hall hbel hDl hDo=>?_) (fun D W z hz hput hDl hDo=>?_))
 ·have hck:ckS x=some y:=by
   have:(l1++(l2++(l3++l4))).find? (fun e=>e != 0)=none:=eh.2 fun z hz=>by rw[hall z hz]; simp
   rw[this] at hLy;exact hLy
  exact an6 (s:=s) hck s6.heap hbel hDl hDo (by show afi D::a6.defers=_; rw[hdef]) hsz p1 p2 hkeep t6.size t6.os t6.tape t6.output
 ·have hzy:z=y:=by
   rw[hz] at hLy;simpa using hLy
  subst hzy;obtain⟨te5,hcell⟩:=hput.cell;have hlb:=Ė hrb;have hlive:aes ν (ckH x s 0) rb:=⟨1,rfl,by rw[n1]; rfl⟩
  exact afJ (a:={a6 with defers:=afi D::a6.defers}) (w:=W) (by show afi D::a6.defers=_; rw[hdef]) hDo h2 hcell
   (fun b hb=>(hput.block b (by have:=t6.size; omega) (fun e=>(hkeep b hb).2 (e▸hlive))).trans (hkeep b hb).1) (by have:=t6.size; omega) (by have:=t6.size; have:=hput.size; omega) (hput.os.trans t6.os) (hput.tape.trans t6.tape) (hput.output.trans t6.output)
def Š:Ï Tryz.prog 66 Ś:=fun G x y hF w vals hG hAL=>ahb G x y hF w vals hG hAL
end Go.Proofs.ZzM
end

noncomputable section
set_option maxRecDepth 100000
namespace Go.Proofs.ZzM
open Go Go.Am Go.RowKit
abbrev cP:Type:=Val (tyL iS)
abbrev cV:Type:=Val (tyL ml)
abbrev cS (p:cP) (v:cV):St:=i7 sP iS ml p v
abbrev cU (p:cP) (v:cV) (x:Val Ñ):St:=i7 Pl iS zO p (Df v x)
def amd (im:List (Int×Bool)) (n:Int):nJ Tryz.prog [.map tI .bool im] 184 (.omp 0) (.int .i64 n) false some=(match (sv (k:=tI) (v:=.bool) n im:Option Bool) with|some y=>some (.bool y)|none=>some (.bool false)):=by kernel_rfl
noncomputable def MapAt (W:World) (mb:Nat) (im:List (Int×Bool)):Prop:=∃(entries:Array MapEntry) (clock:Nat),W.heap[mb]?=some (.map entries clock)∧entries.size=im.length∧∀(i:Nat) (e:Int×Bool),im[i]?=some e→∃m,entries[i]?=some m∧m.key=.int .i64 e.1∧m.val=.bool e.2
noncomputable def LB (im:List (Int×Bool)) (n:Int):Bool:=((sv (k:=tI) (v:=.bool) n im:Option Bool)).getD false
def alG {W:World} {mb:Nat} {im:List (Int×Bool)} (h:MapAt W mb im) (n:Int):(Instr.lookup 184 (.map (some mb)) (.int .i64 n) false).run Tryz.prog W=.ok (.bool (LB im n)) W:=by
 letI:ó:=⟨fun _=>False,[],none⟩
 obtain⟨entries,clock,h1,h2,h3⟩:=h
 have H:HR (fun _=>.map (some mb)) [.map tI .bool im] W:=by
  refine⟨fun id=>?_,fun i j b hi hj _ _=>?_,fun b hb=>hb.elim,fun id b _ _ hb=>hb.elim⟩
  ·rcases id with _|id
   ·refine⟨mb,entries,clock,rfl,h1,h2,fun i e he=>?_⟩;obtain⟨m,q1,q2,q3⟩:=h3 i e he;exact⟨m,[.bool e.2],q1,by rw[q2]; rfl,rfl,by rw[q3]; rfl⟩
   ·rw[UF _ _ (by simp)]; trivial
  ·have one:∀i,(lkB [Blk.map tI .bool im] i).live=true→i=0:=fun i hi=>by
    rcases i with _|i
    ·rfl
    ·rw[UF _ _ (by simp)] at hi; cases hi
   rw[one i hi,one j hj]
 have hom:VR (fun _=>.map (some mb)) [.map tI .bool im] W (.omp 0) (.map (some mb)):=⟨rfl,_,_,_,rfl,rfl⟩
 have hk:nJ Tryz.prog [.map tI .bool im] 184 (.omp 0) (.int .i64 n) false some=some (.bool (LB im n)):=by
  rw[amd];unfold LB
  cases(sv (k:=tI) (v:=.bool) n im:Option Bool)<;>rfl
 obtain⟨u,q1,q2⟩:=abb H hk hom (ui:=.int .i64 n) rfl;rw[q1];have:u=.bool (LB im n):=q2;rw[this]
noncomputable def gz (l:List (Val Ñ)) (j:Nat):Val Ñ:=l[j]?.getD (0,0,0,(0,0),(0,0),0)
def adQ {w:World} {av:Nat→Prop} {g:Val Ñ} {us:List Value} (h:CR w av Ñ g us) :
 us=[.int .i64 g.1,.int .i64 g.2.1,.int .i64 g.2.2.1,.int .i64 g.2.2.2.1.1,.int .i64 g.2.2.2.1.2,.int .i64 g.2.2.2.2.1.1,.int .i64 g.2.2.2.2.1.2,.int .i64 g.2.2.2.2.2]:=by
 obtain⟨a1,r1,rfl,h1,a2,r2,rfl,h2,a3,r3,rfl,h3,a4,r4,rfl,⟨b1,b2,rfl,h4,h5⟩,⟨b3,r5,rfl,⟨b5,b6,rfl,h6,h7⟩,h8⟩⟩:=h;have e1:a1=[.int .i64 g.1]:=h1;have e2:a2=[.int .i64 g.2.1]:=h2;have e3:a3=[.int .i64 g.2.2.1]:=h3;have e4:b1=[.int .i64 g.2.2.2.1.1]:=h4;have e5:b2=[.int .i64 g.2.2.2.1.2]:=h5;have e6:b5=[.int .i64 g.2.2.2.2.1.1]:=h6;have e7:b6=[.int .i64 g.2.2.2.2.1.2]:=h7;have e8:r5=[.int .i64 g.2.2.2.2.2]:=h8;subst e1 e2 e3 e4 e5 e6 e7 e8;rfl
noncomputable def KNd (w1:World) (R:Nat→Prop) (tb:Nat) (im:List (Int×Bool)) (W:World):Prop:=w1.heap.size≤W.heap.size∧(∀b,R b→W.heap[b]?=w1.heap[b]?)∧tb<w1.heap.size∧∃mb,mb<w1.heap.size∧W.cell? ⟨tb,0,none⟩=some (.map (some mb))∧MapAt W mb im
def KNd.below {w1 W W':World} {R:Nat→Prop} {tb:Nat} {im:List (Int×Bool)} (hR:∀b,R b→b<w1.heap.size) (h:KNd w1 R tb im W) (hz:W.heap.size≤W'.heap.size) (hb:∀b,b<w1.heap.size→W'.heap[b]?=W.heap[b]?):KNd w1 R tb im W':=by
 obtain⟨h1,h2,h3,mb,h4,h5,en,cl,h6,h7,h8⟩:=h;exact⟨du h1 hz,fun b hr=>(hb b (hR b hr)).trans (h2 b hr),h3,mb,h4,by rw[World.cell?_of_block (w:=W) (hb tb h3)]; exact h5,en,cl,(hb mb h4).trans h6,h7,h8⟩
def KNd.grown {w1 W W':World} {R:Nat→Prop} {tb:Nat} {im:List (Int×Bool)} (hR:∀b,R b→b<w1.heap.size) (h:KNd w1 R tb im W) (hg:W.grownBy W' none):KNd w1 R tb im W' :=
 h.below hR hg.size fun b hb=>hg.block b (dm hb h.1) (by simp)
def abe {f:AV→Bool} (h0:f .any=true):∀(l:List AV),l.all f=true→∀i,f (lk l i)=true
 |[],_,i=>by cases i<;>exact h0
 |x::l,h,0=>by simp only[fI,cM] at h; exact h.1
 |x::l,h,i+1=>by simp only[fI,cM] at h; exact abe h0 l h.2 i
def XP {f:Blk→Bool} (h0:f .dead=true):∀(l:List Blk),l.all f=true→∀i,f (lkB l i)=true
 |[],_,i=>by cases i<;>exact h0
 |x::l,h,0=>by simp only[fI,cM] at h; exact h.1
 |x::l,h,i+1=>by simp only[fI,cM] at h; exact XP h0 l h.2 i
def cS_mf (p:cP) (v:cV):(cS p v).h.all mfB=true:=by kernel_rfl
def cU_mf (p:cP) (v:cV) (x:Val Ñ):(cU p v x).h.all mfB=true:=by kernel_rfl
def cU_mft (p:cP) (v:cV) (x:Val Ñ):(cU p v x).t.all mfV3=true:=by kernel_rfl
def cR_mf (y:Val Ä):(i7 pv [] ju () (kz y)).h.all mfB=true:=by kernel_rfl
def cR_mft (y:Val Ä):(i7 pv [] ju () (kz y)).t.all mfV3=true:=by kernel_rfl
noncomputable def pin0 (m:Nat):AV→Bool
 |.any=>true
 |.box id _=>Nat.blt id m
 |_=>false
noncomputable def pin3 (m:Nat):AV→Bool
 |.fn _ a b=>a.all (pin0 m)&&b.all (pin0 m)
 |a=>pin0 m a
section
variable [ó] {ν ν':Nat→Value} {h h':List Blk} {w w':World} {m:Nat}
def VR0.pin (e:Ev m ν h w ν' h' w') {a:AV} {v:Value} (hp:pin0 m a=true) (hv:VR0 ν h w a v):VR0 ν' h' w' a v:=by
 cases a with
 |any=>trivial
 |box id off =>
  obtain⟨cs,b,hl,h1,h2⟩:=hv;have hlt:id<m:=fG hp;have hb:=e.blk id hlt;rw[hl] at hb;obtain⟨⟨cs',hl'⟩,he⟩:=hb;exact⟨cs',b,hl',by rw[he]; exact h1,h2⟩
 |_=>cases hp
def VR.pin (e:Ev m ν h w ν' h' w') {a:AV} {v:Value} (hp:pin3 m a=true) (hv:VR ν h w a v):VR ν' h' w' a v:=by
 cases a with
 |fn f fa fb =>
  obtain⟨fs,cs,h1,h2,h3⟩:=hv;simp only[pin3,cM,dz] at hp;exact⟨fs,cs,h1,h2.mem fun a ha _=>VR0.pin e (hp.1 a ha),h3.mem fun a ha _=>VR0.pin e (hp.2 a ha)⟩
 |any=>trivial
 |box id off=>exact VR0.pin (a:=.box id off) e (show pin0 m (.box id off)=true from hp) hv
 |_=>cases hp
end
def anb (p:cP) (v:cV):(cS p v).t.all (pin3 9)=true:=by kernel_rfl
def cS_len (p:cP) (v:cV):(cS p v).h.length=10:=by kernel_rfl
def cU_len (p:cP) (v:cV) (x:Val Ñ):(cU p v x).h.length=11:=by kernel_rfl
def cS_t (p:cP) (v:cV) (z:List (Val Ñ)):(cS p (ġ v z)).t=(cS p v).t:=by kernel_rfl
def cS_5 (p:cP) (v:cV):∃a b us lo co ko,lkB (cS p v).h 5=.cells [.int .i64 a,.int .i64 b,.slc Ñ (ñ v),.slc Â us,.slc ō lo,.slc Í co,.slc Â ko]:=⟨_,_,_,_,_,_,rfl⟩
def cS_6 (p:cP) (v:cV):lkB (cS p v).h 6=.cells [.omp 7]:=by kernel_rfl
def cS_7 (p:cP) (v:cV):lkB (cS p v).h 7=.map tI .bool (ţ v):=by kernel_rfl
def cS_59 (p:cP) (v:cV):lk (cS p v).t 59=.fn (.func 186) [] [.box 5 0,.box 6 0]:=by kernel_rfl
noncomputable def abk:Blk→Bool
 |.map _ _ _=>true
 |_=>false
def aej (p:cP) (v:cV):(cS p v).h.map abk=[false,false,false,false,false,false,false,true,true,false]:=by kernel_rfl
def aoc (p:cP) (v:cV) (x:Val Ñ):(cU p v x).h.map abk=[false,false,false,false,false,false,false,true,true,false,false]:=by kernel_rfl
def Jt:∀(l:List Blk) (i:Nat),abk (lkB l i)=true→(l.map abk)[i]?=some true
 |[],i,h=>by cases i<;>cases h
 |x::l,0,h=>by have:abk x=true:=h; simp[this]
 |x::l,i+1,h=>by simpa using Jt l i h
def afj {l:List Blk} {t:List Bool} (hl:l.map abk=[false,false,false,false,false,false,false,true,true]++t) (ht:∀b∈t,b=false) {id:Nat} {k u:Ty} {es:List (Val k×Val u)} (h:lkB l id=.map k u es):id=7∨id=8:=by
 have:=Jt l id (by rw[h]; rfl);rw[hl] at this
 rcases id with _|_|_|_|_|_|_|_|_|id<;>simp at this ⊢
 have:=ht _ (cR this);cases this
noncomputable def am4 {ρ:Type}:List (Val Ñ)→Option ρ→Option ρ
 |[],x=>x
 |_::_,_=>none
def ad2 {ρ:Type} {l:List (Val Ñ)} {x:Option ρ} {r:ρ} (h:am4 l x=some r):l=[]∧x=some r:=by
 cases l with
 |nil=>exact⟨rfl,h⟩
 |cons=>cases h
noncomputable def cutK (p:cP) (v:cV):Option (Val Ä):=am4 (uK v) (Ã (zX (ñ v) (ţ v)) fun z=>m5 p (ġ v z) some)
def ajf {l:List (Val Ñ)} {im:List (Int×Bool)} {z:List (Val Ñ)} (h:zX l im=some z):å l.length=true∧z=(RA (fun j=>LB im (gz l j).1) l.length).map (gz l):=by
 unfold zX at h;simp only[ã] at h
 split at h
 ·rename_i ho;cases h;refine⟨ho,?_⟩
  have key:∀(n:Nat),n≤l.length→(l.take n).filter (fun g=>((sv (k:=tI) (v:=.bool) g.1 im:Option Bool)).getD false)=(RA (fun j=>LB im (gz l j).1) n).map (gz l):=by
   intro n
   induction n with
   |zero=>intro _; rfl
   |succ n ih =>
    intro hn
    have hg:l[n]?=some (gz l n):=by simp[gz,cI (show n<l.length from hn)]
    rw[List.take_succ,fj,ih (by omega),D1,hg];have:((sv (k:=tI) (v:=.bool) (gz l n).1 im:Option Bool)).getD false=LB im (gz l n).1:=rfl;simp only[Option.toList_some,dN,dU,this]
    split<;>simp
  have:=key l.length (cJ _)
  rwa [List.take_length] at this
 ·cases h
def alv {n m:Nat} (h:å n=true) (hm:m≤n):å m=true:=by
 unfold å at h ⊢;simp only[Bool.and_eq_true,decide_eq_true_eq] at h ⊢
 first|omega|(constructor<;>omega)
def af3 {G:Nat→Prop} {D D':List Deferred} {Q Q':Option Nat} {ν:Nat→Value} {h:List Blk} {w:World} {a:AV} {v:Value} (hv:@VR ⟨G,D,Q⟩ ν h w a v):@VR ⟨G,D',Q'⟩ ν h w a v:=hv
def zN [ó] {ν2 ν':Nat→Value} {h1 h':List Blk} {w1 W:World} (H1:HR ν2 h1 w1) (ev:Ev 9 ν2 h1 w1 ν' h' W) (hl1:∀id,id=7∨id=8→∃k u es,lkB h1 id=.map k u es)
 {t:List Bool} (hl:h'.map abk=[false,false,false,false,false,false,false,true,true]++t) (ht:∀b∈t,b=false):akJ w1.heap.size ν' h':=by
 intro id k u es b hm hν
 have h9:id<9:=by rcases afj hl ht hm with rfl|rfl<;>omega
 obtain⟨k1,u1,es1,h7⟩:=hl1 id (afj hl ht hm);have hb:=ev.blk id h9;rw[h7] at hb;obtain⟨_,he⟩:=hb;have hB:=H1.blk id;rw[h7] at hB;obtain⟨b0,_,_,q1,q2,_⟩:=hB;rw[he,q1] at hν;cases hν;exact Ė q2
def amA (p:cP) (v:cV):∀id,id=7∨id=8→∃k u es,lkB (cS p v).h id=.map k u es:=by
 rintro id (rfl|rfl)
 ·exact⟨_,_,_,rfl⟩
 ·exact⟨_,_,_,rfl⟩
noncomputable def CI (G:Nat→Prop) (p:cP) (v:cV) (ν2:Nat→Value) (w1:World) (pre:List Nat) (W:World):Prop :=
 ∃ν',@HR ⟨G,[],none⟩ ν' (cS p (ġ v (pre.map (gz (ñ v))))).h W∧Ev 9 ν2 (cS p v).h w1 ν' (cS p (ġ v (pre.map (gz (ñ v))))).h W
def CI.own {G:Nat→Prop} {p:cP} {v:cV} {ν2:Nat→Value} {w1:World} (H1:@HR ⟨G,[],none⟩ ν2 (cS p v).h w1):OwnFrom w1.heap.size (CI G p v ν2 w1):=by
 intro pre W W' row hI hg hr
 letI:ó:=⟨G,[],none⟩
 obtain⟨ν',H,ev⟩:=hI;have hml:=zN H1 ev (amA p v) (aej _ _) (t:=[false]) (by simp);refine⟨ν',H.ckeep (Q4 hg hr) (fun id k u es b hl hν=>?_) (XP rfl _ (cS_mf _ _)),ev.own hg fun r e=>(hr r e).1⟩;have hb:=hml id k u es b hl hν
 exact hg.block b (dm hb ev.size) fun e=>by have:=(hr b e.symm).1; omega
def CI.nd {G:Nat→Prop} {p:cP} {v:cV} {ν2:Nat→Value} {w1 W:World} {pre:List Nat} {R:Nat→Prop} {tb:Nat} (H1:@HR ⟨G,[],none⟩ ν2 (cS p v).h w1) (hR:∀b,R b→b<w1.heap.size∧¬aes ν2 (cS p v).h b) (htb:ν2 6=.pointer (some ⟨tb,0,none⟩)) (hI:CI G p v ν2 w1 pre W):KNd w1 R tb (ţ v) W:=by
 letI:ó:=⟨G,[],none⟩
 obtain⟨ν',H,ev⟩:=hI;have h6:=H1.blk 6;rw[cS_6] at h6;obtain⟨b6,_,_,q1,q2,_⟩:=h6;rw[htb] at q1;cases q1;have h7:=H1.blk 7;rw[cS_7] at h7;obtain⟨mb,_,_,r1,r2,_⟩:=h7;have e6:=ev.blk 6 (by omega);rw[cS_6] at e6;have e7:=ev.blk 7 (by omega);rw[cS_7] at e7;have k6:=H.blk 6;rw[show lkB (cS p (ġ v (pre.map (gz (ñ v))))).h 6=.cells [.omp 7] from cS_6 _ _] at k6;obtain⟨b,c,e,s1,s2,s3⟩:=k6;rw[e6.2,htb] at s1;cases s1;obtain⟨mv,s4,s5⟩:=s3.one;obtain⟨_,k,u,es,_,s6⟩:=s5.1;have k7:=H.blk 7;rw[show lkB (cS p (ġ v (pre.map (gz (ñ v))))).h 7=.map tI .bool (ţ v) from cS_7 _ _] at k7;obtain⟨mb',en,cl,t1,t2,t3,t4⟩:=k7;have e1:mv=.map (some mb'):=s6.trans t1
 have e2:mb'=mb:=by rw[e7.2,r1] at t1; cases t1; rfl
 subst e2;refine⟨ev.size,fun b hb=>(ev.keep b (hR b hb).1 (hR b hb).2).1,Ė q2,mb',Ė r2,?_,en,cl,t2,t3,fun i x hx=>?_⟩
 ·have hc:c=#[mv]:=by rw[←dO,s4]
  rw[hc,e1] at s2;simp[World.cell?,s2]
 ·obtain⟨m,us,u1,u2,u3,u4⟩:=t4 i x hx;have v1:[m.key]=[.int .i64 x.1]:=u2;have v2:us=[.bool x.2]:=u3;refine⟨m,u1,by simpa using v1,?_⟩;rw[u4,v2];rfl
def ag6:drawn (Am.rfA (Am.rfC 7 Ģ))=false:=by kernel_rfl
def ag5:drawn (Am.rfB (Am.rfC 7 Ģ))=false:=by kernel_rfl
def ag4:î 4 (Am.rfA (Am.rfC 7 Ģ))=[]:=by kernel_rfl
def ag3:î 4 (Am.rfB (Am.rfC 7 Ģ))=[]:=by kernel_rfl
def Yc [ó] (ρ:Type):lK (Ĝ ρ) 2 (jX (Ĝ ρ) 10):=by
 have hlib:MJ (Ĝ ρ):=Qt Pk (Ĝ ρ) rfl rfl rfl rfl rfl (hZ rfl);have hdraw:∀L call,lK (Ĝ ρ) L call→lY (Ĝ ρ) L call:=DK hmix;have hcall:=mw (.inr fun _=>rfl) hlib hdraw (fun n hn hE path f fn c hp hf hc=>GR (tab:=qJ ρ) rfl KE hn hE (hdraw _ _ hE) hp hf hc) 10 (cJ _);exact⟨.inr (pT 9),hcall,hlib.plain,hlib.clone,hlib.joins⟩
def ajN {G:Nat→Prop} {p:cP} {v:cV} {ν2:Nat→Value} {a:Act} {w1:World} (H1:@Sim ⟨G,[],none⟩ ν2 (cS p v) a w1) (l:Nat) (pre:List Nat) (x:Nat) (W:World) (hl:w1.heap.size≤l) (hI:CI G p v ν2 w1 pre W) (hok:å (pre.length+1)=true) {u:Value} (hu:∀[ó] (ν:Nat→Value) (h:List Blk) (w:World),VR ν h w (.agg (flat Ñ (gz (ñ v) x))) u) :
 (Am.rfA (Am.rfC 7 Ģ)).wpIn (Fence.wide.inRound l) 0 Tryz.prog (Exit.then (fun a' Wa=>KeepsFrom w1.heap.size W Wa∧∀r',(∃r,Wa.heap[l]?=some (.loop r)) →
  (Am.rfB (Am.rfC 7 Ģ)).wpIn (Fence.wide.inRound l) 0 Tryz.prog (Exit.then (fun _ W3=>KeepsFrom w1.heap.size (Wa.putObj l (.loop r')) W3∧CI G p v ν2 w1 (pre++[x]) W3) (fun _ _ _=>False)) a' (Wa.putObj l (.loop r'))) (fun _ _ _=>False)) {tmps:=a.tmps.setIfInBounds 60 u,defers:=[]} W:=by
 letI:ó:=⟨G,[],some l⟩
 have H1h:HR ν2 (cS p v).h w1:=HR_ghost (@Sim.heap ⟨G,[],none⟩ _ _ _ _ H1);obtain⟨ν',H0,ev⟩:=hI;have H:HR ν' (cS p (ġ v (pre.map (gz (ñ v))))).h W:=HR_ghost H0;obtain⟨v',hv'⟩:∃v',v'=ġ v (pre.map (gz (ñ v))):=⟨_,rfl⟩;rw[←hv'] at H ev
 have ht:(cS p v').t=(cS p v).t:=by rw[hv']; exact cS_t _ _ _
 have hml:=zN H1h ev (amA p v) (aej _ _) (t:=[false]) (by simp)
 have simA:Sim ν' (cS p v') {tmps:=a.tmps,defers:=[]} W:=by
  refine⟨rfl,?_,fun i=>?_,H⟩
  ·rw[ht]; show _≤a.tmps.size; exact @Sim.len ⟨G,[],none⟩ _ _ _ _ H1
  ·rw[ht]; exact VR.pin ev (abe rfl _ (anb p v) i) (af3 (@Sim.tmps ⟨G,[],none⟩ _ _ _ _ H1 i))
 have sim0:=simA.put (Ev.refl _ _ _ _) H (some 60) (hu ν' _ W);have hEnv:=Yc (cP×Val (tyL zO));have hgo:=JB hEnv (path:=[]) rfl (Am.rfA (Am.rfC 7 Ģ)) 4 _ _ ν' _ W (fun h=>by rw[ag6] at h; cases h) (fun z hz=>by rw[ag4] at hz; cases hz) (agG p v' (gz (ñ v) x) fun p u=>some (p,u)) sim0 (du (show 9≤10 by decide) (Nat.le_of_eq (cS_len p v').symm));refine wpIn_mono hgo fun e a' Wa ha=>?_;obtain⟨νa,Sa,sA,evA,lenA,ddA,kA⟩:=ha;obtain⟨rfl,p',u',hm',hk'⟩:=Ey kA;cases hk';obtain⟨νb,sB,evB,lB,dB⟩:=Eu _ _ _ _ _ _ _ νa a' Wa hm' sA;have evAB:Ev 9 ν' (cS p v').h W νb (cU p v' (gz (ñ v) x)).h Wa:=evA.trans evB (cJ _);have evT:=ev.trans evAB (cJ _);have hmu:=zN H1h evT (amA p v) (aoc _ _ _) (t:=[false,false]) (by simp);refine⟨Lg H hml evAB,fun r' ⟨r,hr⟩=>?_⟩;have hlt:l<Wa.heap.size:=Ė hr
 have K:η Wa (Wa.putObj l (.loop r')):=⟨by simp[World.putObj],fun b c e q hb=>by
  rw[World.putObj_heap_other (fun e'=>by subst e'; rw[hr] at hb; cases hb)]; exact hb⟩
 have sC:Sim νb (cU p v' (gz (ñ v) x)) a' (Wa.putObj l (.loop r')):=sB.ckeep K (fun id k q es b hb hν=>World.putObj_heap_other (by have:=hmu id k q es b hb hν; omega)) (XP rfl _ (cU_mf _ _ _)) (abe rfl _ (cU_mft _ _ _))
 have evO:Ev 9 ν2 (cS p v).h w1 νb (cU p v' (gz (ñ v) x)).h (Wa.putObj l (.loop r')):=evT.own (grownBy_putObj' Wa l _) fun q e=>by cases e; exact hl
 have hEnv2:=Yc (cP×cV);have law:=agF p v' (gz (ñ v) x) fun p v=>some (p,v)
 have hrow:uK v'=pre.map (gz (ñ v)):=by rw[hv']; rfl
 rw[hrow] at law;simp only[dW,cX,dk,dj,hok,ã] at law;have hgo2:=JB hEnv2 (path:=[]) rfl (Am.rfB (Am.rfC 7 Ģ)) 4 _ _ νb _ _ (fun h=>by rw[ag5] at h; cases h) (fun z hz=>by rw[ag3] at hz; cases hz) law sC (du (show 9≤11 by decide) (Nat.le_of_eq (cU_len p v' (gz (ñ v) x)).symm));refine wpIn_mono hgo2 fun e a3 W3 hb=>?_;obtain⟨νc,Sc,sD,evC,lenC,ddC,kC⟩:=hb;obtain⟨rfl,p',u',hm',hk'⟩:=Ey kC;cases hk';obtain⟨νd,sE,evD,lD,dD⟩:=Eu _ _ _ _ _ _ _ νc a3 W3 hm' sD;have evCD:=evC.trans evD (cJ _);refine⟨Lg sC.heap hmu evCD,νd,?_⟩
 have hput:ġ v' (pre.map (gz (ñ v))++[gz (ñ v) x])=ġ v ((pre++[x]).map (gz (ñ v))):=by
  rw[hv',gL]; rfl
 rw[←hput];exact⟨HR_ghost sE.heap,evO.trans evCD (cJ _)⟩
noncomputable def aeu (G:Nat→Prop) (y:Val Ä) (w:World) (e:Ending) (w':World):Prop :=
 ∃u,e=.returned u∧RR w' G [Ä] y u∧(∀b,b<w.heap.size→w'.heap[b]?=w.heap[b]?)∧w.heap.size≤w'.heap.size∧w'.os=w.os∧w'.tape=w.tape∧w'.output=w.output
noncomputable def ad3 (u:Val (tyL ju)):Val Ä:=((u.1,u.2.1),u.2.2.1,u.2.2.2.1,u.2.2.2.2.1,u.2.2.2.2.2.1,u.2.2.2.2.2.2)
def amf (p:cP) (v:cV):m5 p v (fun y=>(fun u=>some (ad3 u)) (kz y))=m5 p v some:=by kernel_rfl
def ajM (u:Val (tyL ju)):kz (ad3 u)=u:=by kernel_rfl
def aod (y:Val Ä):(i7 pv [] ju () (kz y)).h.map abk=[false]:=by kernel_rfl
def amc {G:Nat→Prop} {p:cP} {v:cV} {y:Val Ä} {ν:Nat→Value} {a:Act} {w0 W:World} {D:Nat} (H:@Sim ⟨G,[],none⟩ ν (cS p v) a W) (hB:m5 p v some=some y) (hD:W.heap[D]?=some (.deferred (some []))) (hnl:¬aes ν (cS p v).h D)
 (hev:Ev 0 (fun _=>undef) [] w0 ν (cS p v).h W) (hDl:w0.heap.size≤D) :
 (Am.postC 7 Ģ).wpIn Fence.wide 2 Tryz.prog (bodyPostM Fence.wide 2 Tryz.prog Tryz.f62 (aeu G y w0)) {a with defers:=afi D::a.defers} W:=by
 have hdf:a.defers=[]:=@Sim.defers ⟨G,[],none⟩ _ _ _ _ H
 letI:ó:=⟨G,[afi D],none⟩
 have sim:Sim ν (cS p v) {a with defers:=afi D::a.defers} W:=⟨by show afi D::a.defers=[afi D]; rw[hdf],(show _≤a.tmps.size from @Sim.len ⟨G,[],none⟩ _ _ _ _ H),fun i=>af3 (@Sim.tmps ⟨G,[],none⟩ _ _ _ _ H i),HR_ghost (@Sim.heap ⟨G,[],none⟩ _ _ _ _ H)⟩;have hEnv:=Yc (Val Ä);have hdraw:∀L call,lK (Ĝ (Val Ä)) L call→lY (Ĝ (Val Ä)) L call:=DK hmix;have law:=aar p v fun u=>some (ad3 u);rw[amf,hB] at law
 have hL:∀z∈î 0 (Am.postC 7 Ģ),nY (Ĝ (Val Ä)) [] 62 z.1 z.2:=fun z hz =>
  GR (E:=Ĝ (Val Ä)) (tab:=qJ _) rfl KE (n:=10) (cJ _) hEnv (hdraw _ _ hEnv) rfl Tryz.func62 qK z (afm 7 Ģ 0 FH hz)
 have hgo:=lv hEnv (hdraw _ _ hEnv) rfl (Am.postC 7 Ģ) 0 _ _ ν _ W hL law sim (dZ _);rw[G6 rfl] at hgo;refine wpIn_wide.2 (wpIn_wide.1 (wpIn_mono hgo fun e a' W' ha=>?_));obtain⟨νa,Sa,sA,evA,_,_,kA⟩:=ha;obtain⟨rfl,u,hm,hk⟩:=aiO kA;cases hk;obtain⟨νb,sB,evB,_,_⟩:=Eu _ _ _ _ _ _ _ νa a' W' hm sA
 have hu:i7 pv [] ju () u=i7 pv [] ju () (kz (ad3 u)):=by rw[ajM]
 rw[hu] at sB evB;have evT:=(evA.trans evB (cJ _));have hD':W'.heap[D]?=some (.deferred (some [])):=(evT.keep D (Ė hD) hnl).1.trans hD;have hd':a'.defers=[afi D]:=sB.defers;show LeavesInM _ _ _ _ _ _ a'.defers _ _;rw[hd'];refine⟨by simp,.inl ⟨D,_,rfl,run_takeDeferred hD',?_⟩⟩;have hlt:=Ė hD'
 have K:η W' (W'.putObj D (.deferred none)):=⟨by simp[World.putObj],fun b c e q hb=>by
  rw[World.putObj_heap_other (fun e'=>by subst e'; rw[hD'] at hb; cases hb)]; exact hb⟩
 have sC:=sB.ckeep K (fun id k q es b hb hν=>by
  have:=Jt _ id (by rw[hb]; rfl);rw[aod] at this
  rcases id with _|id<;>simp at this) (XP rfl _ (cR_mf _)) (abe rfl _ (cR_mft _))
 obtain⟨uu,q1,q2⟩:=HW sC (adg (ad3 u));have hall:=hev.trans evT (cJ _);refine⟨uu,q1,uu,rfl,Vu sC.heap [Ä] q2 (show Ć [Ä] _ (enc Ä (ad3 u))=some (ad3 u) from rfl),fun b hb=>?_,?_,hall.os,hall.tape,hall.output⟩
 ·rw[World.putObj_heap_other (by omega)];exact(hall.keep b hb fun⟨_,h,_⟩=>by cases h).1
 ·have:=hall.size;simpa[World.putObj] using this
def amg (x:Val (.pair Ä (.pair (.slice Â) (.slice Â)))):FI x.1 x.2.1 x.2.2 cutK=pb.F x:=by kernel_rfl
noncomputable def encG (g:Val Ñ):Value:=.agg #[.int .i64 g.1,.int .i64 g.2.1,.int .i64 g.2.2.1,.int .i64 g.2.2.2.1.1,.int .i64 g.2.2.2.1.2,.int .i64 g.2.2.2.2.1.1,.int .i64 g.2.2.2.2.1.2,.int .i64 g.2.2.2.2.2]
def anY [ó] (g:Val Ñ) (ν:Nat→Value) (h:List Blk) (w:World):VR ν h w (.agg (flat Ñ g)) (encG g) :=
 ⟨_,rfl,⟨rfl,rfl⟩,⟨rfl,rfl⟩,⟨rfl,rfl⟩,⟨rfl,rfl⟩,⟨rfl,rfl⟩,⟨rfl,rfl⟩,⟨rfl,rfl⟩,⟨rfl,rfl⟩,trivial⟩
def ame (G:Nat→Prop) (x:Val (tyL pb.ts)) (y:Val Ä) (hF:pb.F x=some y) (w:World) (vals:List Value) (hG:∀b,G b→b<w.heap.size) (hAL:AL w G pb.ts x vals) :
 (∃fn c,Tryz.prog.funcs[62]?=some fn∧fn.body=some c)∧CallsIn Fence.wide 0 Tryz.prog 62 vals.toArray w (aeu G y w):=by
 letI:ó:=⟨G,[],none⟩
 have hlib:MJ (ż (Val Ä)):=Qt Pk _ rfl rfl rfl rfl rfl (hZ rfl);have hdraw:∀L call,lK (ż (Val Ä)) L call→lY (ż (Val Ä)) L call:=DK hmix;have hloops:aer (ż (Val Ä)):=fun n hn hE hD path f fn c hp hf hc=>GR (tab:=De _) rfl adi hn hE hD hp hf hc;have hcall:=mw (.inl ⟨rfl,rfl⟩) hlib hdraw (fun n hn hE=>hloops n hn hE (hdraw _ _ hE)) 10 (cJ _);have hEnv:lK (ż (Val Ä)) 2 (jX (ż (Val Ä)) 10):=⟨.inr (pT 9),hcall,hlib.plain,hlib.clone,hlib.joins⟩;have H:HR (fun _=>undef) [] w:=⟨fun _=>trivial,fun _ _ _ h=>(by cases h),hG,fun _ _ h=>(by cases h)⟩;have hav:∀b,Av (fun _=>undef) [] b→G b:=fun b hb=>hb.elim (fun⟨_,h,_⟩=>by cases h) id;have hargs:ć (VR (fun _=>undef) [] w) (Ă pb.ts x) vals:=AL.VR (hAL.mono hav);refine⟨⟨Tryz.f62,_,Tryz.func62,qK⟩,?_⟩;have hlen:vals.length=3:=hargs.length.symm;refine callsIn_wide.2 (callsIn_wide.1 (callsIn_of_wp_marks (n:=2) Tryz.func62 qK trivial ?_ (R:=aeu G y w)))
 have hS:Sim (fun _=>undef) {t:=Ă pb.ts x++List.replicate 127 .any,h:=[]} {tmps:=vals.toArray++Array.replicate (Tryz.f62.ntmps-vals.toArray.size) undef,defers:=[]} w:=by
  refine⟨rfl,?_,fun i=>?_,H⟩
  ·have:Tryz.f62.ntmps=130:=by kernel_rfl
   have hl2:(Ă pb.ts x).length=3:=rfl;simp[this,hlen,hl2]
  ·simp only[Qs];rcases dv i (Ă pb.ts x).length with hi|hi
   ·have:=ć.lk (R:=VR (fun _=>undef) [] w) (fun _=>trivial) i hargs
    have hv:i<vals.length:=by rw[←hargs.length]; exact hi
    have h2:(vals.toArray++Array.replicate (Tryz.f62.ntmps-vals.toArray.size) undef).getD i undef=vals.getD i undef:=by
     simp[dK,eP,hv]
    rw[h2]; exact this
   ·rw[ai6 _ _ hi]; trivial
 have law:=(adh x cutK).trans ((amg x).trans hF);refine peelN rfl hEnv (hdraw _ _ hEnv) rfl (path:=[]) rfl (fun e S hne h=>hne (Ey h).1) 7 Ģ _ _ _ _ FH (fun z hz=>hloops 10 (cJ _) hEnv (hdraw _ _ hEnv) [] 62 Tryz.f62 Ģ rfl Tryz.func62 qK z hz) law hS (fun ν1 S1 a1 w1 s1 e1 k1=>?_);obtain⟨_,p,v,hm,hk⟩:=Ey k1;obtain⟨hrow,hk⟩:=ad2 hk
 cases hz:zX (ñ v) (ţ v) with
 |none=>rw[hz] at hk; cases hk
 |some z =>
 rw[hz] at hk;have hB:m5 p (ġ v z) some=some y:=hk;obtain⟨hzl,hzs⟩:=ajf hz;obtain⟨ν2,s2,e2,_,_⟩:=Eu _ _ _ _ _ _ _ ν1 a1 w1 hm s1;have evw:=e1.trans e2 (cJ _)
 have hv0:ġ v []=v:=by rw[←hrow]; rfl
 have s2':Sim ν2 (cS p v) a1 w1:=s2
 -- the blocks
 obtain⟨fa,fb,us,lo,co,ko,h5⟩:=cS_5 p v;have hB5:=s2'.heap.blk 5;rw[h5] at hB5;obtain⟨bb,cb,te,n5,hbb,hc5⟩:=hB5;have hB6:=s2'.heap.blk 6;rw[cS_6] at hB6;obtain⟨tb,ct,tt,n6,htb,hc6⟩:=hB6;have hl5:=hc5.length
 obtain⟨u1,u2,u3,u4,u5,u6,u7,hcb⟩:∃u1 u2 u3 u4 u5 u6 u7,cb.toList=[u1,u2,u3,u4,u5,u6,u7]:=by
  rcases hcs:cb.toList with _|⟨u1,_|⟨u2,_|⟨u3,_|⟨u4,_|⟨u5,_|⟨u6,_|⟨u7,_|⟨u8,t⟩⟩⟩⟩⟩⟩⟩⟩<;>rw[hcs] at hl5<;>simp at hl5
  exact⟨u1,u2,u3,u4,u5,u6,u7,rfl⟩
 rw[hcb] at hc5;obtain⟨_,_,hc3,_⟩:=hc5;have hg3:CR w1 (Av ν2 (cS p v).h) (.slice Ñ) (ñ v) [u3]:=hc3.1;obtain⟨base,cap,eu3,hcap,hgl⟩:=hg3
 have eu3:u3=.slice base (ñ v).length cap:=by simpa using eu3
 obtain⟨gb,go,hgb⟩:∃gb go,0<(ñ v).length→base=some ⟨gb,go,none⟩∧¬Av ν2 (cS p v).h gb∧gb<w1.heap.size∧∀(i:Nat) (g:Val Ñ),(ñ v)[i]?=some g→∃us,CR w1 (Av ν2 (cS p v).h) Ñ g us∧Ō w1 gb (go+i*8) us:=by
  rcases hgl with hgl|⟨gb,go,q1,q2,q3,q4⟩
  ·exact⟨0,0,fun h=>by rw[show(ñ v)=[] from hgl] at h; simp at h⟩
  ·exact⟨gb,go,fun _=>⟨q1,q2,q3,q4⟩⟩
 obtain⟨gl,hgle⟩:∃gl,gl=ñ v:=⟨_,rfl⟩;rw[←hgle] at hgb eu3
 have hR:∀b,(0<gl.length∧b=gb)→b<w1.heap.size∧¬aes ν2 (cS p v).h b:=fun b ⟨h,e⟩=>by subst e; obtain⟨_,q2,q3,_⟩:=hgb h; exact⟨q3,fun hl=>q2 (.inl hl)⟩
 have hnd:∀pre W,CI G p v ν2 w1 pre W→KNd w1 (fun b=>0<gl.length∧b=gb) tb (ţ v) W:=fun pre W hI=>hI.nd s2'.heap hR n6
 have hI0:CI G p v ν2 w1 [] w1:=by
  refine⟨ν2,?_,?_⟩
  ·rw[show ġ v (([]:List Nat).map (gz (ñ v)))=v from hv0]; exact s2'.heap
  ·rw[show ġ v (([]:List Nat).map (gz (ñ v)))=v from hv0]; exact Ev.refl _ _ _ _
 have hp59:=s2'.tmps 59;rw[cS_59] at hp59
 have hg:a1.tmps.getD 59 undef=.func (.func 186) #[] #[.pointer (some ⟨bb,0,none⟩),.pointer (some ⟨tb,0,none⟩)]:=by
  obtain⟨fs,cs,h1,h2,h3⟩:=hp59
  have e1:fs=#[]:=by rw[←dO]; exact h2.nil_left
  have hl:=h3.length
  obtain⟨v1,v2,e2⟩:∃v1 v2,cs.toList=[v1,v2]:=by
   rcases hcs:cs.toList with _|⟨v1,_|⟨v2,_|⟨v3,t⟩⟩⟩<;>rw[hcs] at hl<;>simp at hl
   exact⟨v1,v2,rfl⟩
  rw[e2] at h3;have e3:v1=.pointer (some ⟨bb,0,none⟩):=zx (w:=w1) (id:=5) (off:=0) h3.1 n5;have e4:v2=.pointer (some ⟨tb,0,none⟩):=zx (w:=w1) (id:=6) (off:=0) h3.2.1 n6;rw[h1,e1];congr 1;rw[←dO,e2,e3,e4]
 have hcbe:cb=#[u1,u2,.slice base gl.length cap,u4,u5,u6,u7]:=by rw[←dO,hcb,eu3]
 have hseq:SeqStopsK Fence.wide 1 Tryz.prog 186 #[.pointer (some ⟨bb,0,none⟩),.pointer (some ⟨tb,0,none⟩)] (fun j:Nat=>#[encG (gz gl j)]) (fun A B=>KNd w1 (fun b=>0<gl.length∧b=gb) tb (ţ v) A→KNd w1 (fun b=>0<gl.length∧b=gb) tb (ţ v) B)
  (fun xs=>xs=RA (fun j=>LB (ţ v) (gz gl j).1) gl.length) (fun _=>True) (RA (fun j=>LB (ţ v) (gz gl j).1) gl.length).length w1:=by
  intro l J Jx W hbel hJ hJx hY h0
  refine anK te 1 (by omega) l bb tb u1 u2 u4 u5 u6 u7 gb go gl.length cap base (fun h=>(hgb h).1) (fun j=>(gz gl j).1) (fun j=>(gz gl j).2.1) (fun j=>(gz gl j).2.2.1) (fun j=>(gz gl j).2.2.2.1.1) (fun j=>(gz gl j).2.2.2.1.2) (fun j=>(gz gl j).2.2.2.2.1.1) (fun j=>(gz gl j).2.2.2.2.1.2) (fun j=>(gz gl j).2.2.2.2.2)
   (fun j=>LB (ţ v) (gz gl j).1) ?len (KNd w1 (fun b=>0<gl.length∧b=gb) tb (ţ v)) W ((hbel.block bb (Ė hbb)).trans (by rw[hbb,hcbe])) ?cells ?maps (fun W1 W2 h hg=>h.grown (fun b hb=>(hR b hb).1) hg) ((hnd [] w1 hI0).below (fun b hb=>(hR b hb).1) hbel.size hbel.block)
   J Jx (fun pre W1 W2 hj hg=>hJ pre W1 W2 none hj hg (fun r e=>by cases e)) (fun pre W1 W2 hj hg=>hJx pre W1 W2 none hj hg (fun r e=>by cases e)) (fun pre j W1 hj hl=>hY pre j W1 hj hl) h0
  case len =>
   have:=hzl;rw[←hgle] at this;simp only[å,decide_eq_true_eq] at this;omega
  case cells =>
   intro W' hW j hj;obtain⟨q1,q2,q3,q4⟩:=hgb (by omega);obtain⟨vs,r1,r2⟩:=q4 j (gz gl j) (by simp[gz,cI hj]);have r2:=r2.keep (w':=W') (hW.2.1 gb ⟨by omega,rfl⟩);rw[adQ r1] at r2;refine⟨?_,?_,?_,?_,?_,?_,?_,?_⟩
   ·simpa using r2 0 _ rfl
   ·simpa[eT] using r2 1 _ rfl
   ·simpa[eT] using r2 2 _ rfl
   ·simpa[eT] using r2 3 _ rfl
   ·simpa[eT] using r2 4 _ rfl
   ·simpa[eT] using r2 5 _ rfl
   ·simpa[eT] using r2 6 _ rfl
   ·simpa[eT] using r2 7 _ rfl
  case maps =>
   intro W' hW;obtain⟨_,_,h3,mb,h4,h5,h6⟩:=id hW;refine⟨.map (some mb),fun W'' hg=>?_⟩;obtain⟨k1,_,k3,mb',k4,k5,k6⟩:=hW.grown (fun b hb=>(hR b hb).1) hg
   have:mb'=mb:=by
    have e:=World.cell?_of_block (a:=⟨tb,0,none⟩) (hg.block tb (dm h3 hW.1) (by simp));rw[e,h5] at k5;cases k5; rfl
   subst this;exact⟨k5,fun j _=>alG k6 _⟩
 rw[agE];refine wpIn_block (RC (n:=2) rfl (by omega) hg trivial (fun args w=>?eg) hseq (fun h k=>fun q=>k (h q)) (fun W l o o' hl ho _ _ hW=>?kb) (Below.refl _ _) (fun _=>rfl) (CI G p v ν2 w1) (CI.own s2'.heap) hI0 (fun l pre j W hl _ hI hlt=>?round) (fun D xs W hD hxs hI hDo=>?done))
 case eg=>simp[callFunc,Sem.run_bind,run_program,Result.andThen_ok,Tryz.func186,plain 186 _ Tryz.func186,show Tryz.f186.body.isNone=false from rfl]; rfl
 case kb=>exact hW.below (fun b hb=>(hR b hb).1) (by simp[World.putObj]) fun b hb=>World.putObj_heap_other (by omega)
 case round =>
  have hf:∀u:Value,((#[60]:Array Tmp).zip #[u]).foldl (fun t (p,v)=>t.setIfInBounds p v) a1.tmps=a1.tmps.setIfInBounds 60 u:=fun u=>by simp
  show Code.wpIn (Fence.wide.inRound l) 0 Tryz.prog _ _ ⟨((#[60]:Array Tmp).zip #[encG (gz gl j)]).foldl (fun t (p,v)=>t.setIfInBounds p v) a1.tmps,[]⟩ W;rw[hf];refine wpIn_mono (ajN s2' l pre j W hl hI ?_ (u:=encG (gz gl j)) (by rw[hgle]; exact fun ν h w=>anY _ ν h w)) fun e a' Wa ha=>?_
  ·refine alv hzl ?_;have:=acF (fun j=>LB (ţ v) (gz gl j).1) gl.length;rw[←hgle];omega
  ·cases e with
   |normal =>
    refine⟨ha.1,fun r' hr=>wpIn_mono (ha.2 r' hr) fun e a3 W3 hb=>?_⟩
    cases e with
    |normal=>exact⟨hb.1,fun _=>hnd _ _ hb.2,hb.2⟩
    |_=>exact hb
   |_=>exact ha
 case done =>
  subst hxs;obtain⟨ν',Hd,evd⟩:=hI
  have hzz:(RA (fun j=>LB (ţ v) (gz gl j).1) gl.length).map (gz (ñ v))=z:=by rw[hzs,hgle]
  rw[hzz] at Hd evd;have hml:=zN s2'.heap evd (amA p v) (aej _ _) (t:=[false]) (by simp);have ht:(cS p (ġ v z)).t=(cS p v).t:=cS_t _ _ _
  have simD:Sim ν' (cS p (ġ v z)) a1 W:=by
   refine⟨s2'.defers,?_,fun i=>?_,Hd⟩
   ·rw[ht]; exact s2'.len
   ·rw[ht]; exact VR.pin evd (abe rfl _ (anb p v) i) (s2'.tmps i)
  exact amc simD hB hDo (UG Hd hml hD hDo rfl) (evw.trans (evd.mono (dZ _)) (cJ _)) (du evw.size hD)
def aj7:Ï Tryz.prog 62 pb:=fun G x y hF w vals hG hAL=>ame G x y hF w vals hG hAL
end Go.Proofs.ZzM
end

noncomputable section
set_option maxRecDepth 100000
namespace Go.Proofs.ZzM
open Go Go.Am
def ahg:Ï Tryz.prog 30 TW:=Ç (Kg _) (fun {_}=>ď Æ _) hmix (tab:=A6 _) rfl Æ (Å fun x=>RH x some)
def amo:Ï Tryz.prog 10 ae1:=Ç (If _) (fun {_}=>ď (Á ahg Æ) _) hmix (tab:=Kf _) rfl (Á RG Æ) (Å fun x=>ZW x some)
def jk:Ï Tryz.prog 136 Ÿ:=Ç (ŧ _) (fun {_}=>ď Æ _) hmix (tab:=gZ _) rfl (Á kQ Æ) (Å fun x=>mc x some)
def jl:Ï Tryz.prog 67 jb:=Ç (Qo _) (fun {_}=>ď (Á Š (Á Rh (Á jk Æ))) _) hmix (tab:=GQ _) rfl Æ (Å fun x=>XL x some)
def kr:Ï Tryz.prog 50 ja:=Ç (Fh _) (fun {_}=>ď (Á jl Æ) _) hmix (tab:=yg _) rfl Æ (Å fun x=>Pc x some)
def zt:Ï Tryz.prog 117 qi:=Ç (κ _) (fun {_}=>ď Æ _) hmix (tab:=wF _) rfl (Á F1 (Á F0 (Á FY (Á FZ (Á FX Æ))))) (Å fun x=>Mn x some)
def Yl:Ï Tryz.prog 139 MS:=Ç (Ur _) (fun {_}=>ď Æ _) hmix (tab:=KM _) rfl Æ (Å fun x=>aaD x some)
def zu:Ï Tryz.prog 138 sn:=Ç (Dp _) (fun {_}=>ď (Á Yl Æ) _) hmix (tab:=F7 _) rfl (Á PL Æ) (Å fun x=>Xd x some)
def abZ:Ï Tryz.prog 112 NV:=Ç (Dn _) (fun {_}=>ď (Á zt (Á zu (Á Yl Æ))) _) hmix (tab:=F4 _) rfl (Á PC Æ) (Å fun x=>Xb x some)
def U8:Ï Tryz.prog 120 H7:=Ç (jf _) (fun {_}=>ď Æ _) hmix (tab:=BJ _) rfl (Á Mu (Á Ms (Á Mr (Á Mp (Á Mq Æ))))) (Å fun x=>SY x some)
def Re:Ï Tryz.prog 114 Ek:=Ç (PR _) (fun {_}=>ď (Á abZ (Á U8 Æ)) _) hmix (tab:=Gb _) rfl Æ (Å fun x=>Xf x some)
def mM:Ï Tryz.prog 51 jM:=Ç (wp _) (fun {_}=>ď (Á Re Æ) _) hmix (tab:=qG _) rfl Æ (Å fun x=>Fg x some)
def Cl:Ï Tryz.prog 64 rA:=Ç (wo _) (fun {_}=>ď (Á kr (Á mM Æ)) _) hmix (tab:=qF _) rfl Æ (Å fun x=>Ff x some)
def tV:Ï Tryz.prog 65 l7:=Ç (pp _) (fun {_}=>ď (Á kr (Á mM Æ)) _) hmix (tab:=mZ _) rfl Æ (Å fun x=>yf x some)
def jC:Ï Tryz.prog 48 gY:=Ç (kh _) (fun {_}=>Qt (Á Cl (Á tV Æ)) (kh _) rfl rfl rfl rfl rfl (hZ rfl)) hmix (tab:=mY _) rfl Æ (Å fun x=>ye x some)
def Ls:Ï Tryz.prog 198 xj:=Ç (Cb _) (fun {_}=>ď (Á jk Æ) _) hmix (tab:=wO _) rfl Æ (Å fun x=>Mz x some)
def MF:Ï Tryz.prog 263 wg:=Ç (qY _) (fun {_}=>ď Æ _) hmix (tab:=nS _) rfl Æ (Å fun x=>AM x some)
def zw:Ï Tryz.prog 266 sq:=Ç (Dq _) (fun {_}=>ď (Á HB Æ) _) hmix (tab:=Gc _) rfl (Á PT Æ) (Å fun x=>Xg x some)
def Rf:Ï Tryz.prog 294 CF:=Ç (Gd _) (fun {_}=>ď (Á afO (Á akc Æ)) _) hmix (tab:=yK _) rfl Æ (Å fun x=>PV x some)
def aob:Ï Tryz.prog 283 ain:=Ç (aaQ _) (fun {_}=>ď (Á zw (Á Rf Æ)) _) hmix (tab:=P2 _) rfl Æ (Å fun x=>adv x some)
def Yn:Ï Tryz.prog 264 En:=Ç (yN _) (fun {_}=>ď (Á aob Æ) _) hmix (tab:=tj _) rfl Æ (Å fun x=>Ji x some)
def aef:Ï Tryz.prog 300 acR:=Ç (aaO _) (fun {_}=>ď Æ _) hmix (tab:=PZ _) rfl Æ (Å fun x=>adt x some)
def Cm:Ï Tryz.prog 295 A4:=Ç (wL _) (fun {_}=>ď (Á zw (Á aef Æ)) _) hmix (tab:=qX _) rfl Æ (Å fun x=>Gh x some)
def ake:Ï Tryz.prog 298 aio:=Ç (aaS _) (fun {_}=>ď (Á zw (Á Rf Æ)) _) hmix (tab:=P4 _) rfl Æ (Å fun x=>adx x some)
def akd:Ï Tryz.prog 284 ZC:=Zd (Ds _) (aaR _) (fun {_}=>Qt (Á HB (Á Cm (Á ake (Á aef Æ)))) (Ds _) rfl rfl rfl rfl rfl (hZ rfl)) (fun {_}=>ď (Á HB (Á Cm (Á ake (Á aef Æ)))) _) rfl hmix (tab:=uY _) rfl Æ (us:=KV) rfl (Á (by kernel_rfl) Æ) (Å fun x=>Xl x some)
def Ym:Ï Tryz.prog 265 Em:=Ç (yM _) (fun {_}=>ď (Á akd Æ) _) hmix (tab:=tg _) rfl Æ (Å fun x=>Jh x some)
def Va:Ï Tryz.prog 238 H9:=Ç (K7 _) (fun {_}=>ď (Á Rg (Á HC (Á MF (Á Yn (Á Ym Æ))))) _) hmix (tab:=Ce _) rfl Æ (Å fun x=>Tn x some)
def ab3:Ï Tryz.prog 239 NZ:=Ç (Ql _) (fun {_}=>ď Æ _) hmix (tab:=GD _) rfl Æ (Å fun x=>XC x some)
def ab1:Ï Tryz.prog 267 NW:=Ç (PY _) (fun {_}=>ď Æ _) hmix (tab:=Ge _) rfl Æ (Å fun x=>Xj x some)
def afP:Ï Tryz.prog 240 VE:=Ç (UA _) (fun {_}=>ď (Á zw (Á ab1 Æ)) _) hmix (tab:=KX _) rfl Æ (Å fun x=>aaU x some)
def ab2:Ï Tryz.prog 241 NX:=Ç (P5 _) (fun {_}=>ď (Á zw (Á ab1 Æ)) _) hmix (tab:=Gi _) rfl Æ (Å fun x=>Xm x some)
def afQ:Ï Tryz.prog 203 VF:=Ç (UB _) (fun {_}=>ď (Á Va (Á ab3 (Á afP (Á ab2 Æ)))) _) hmix (tab:=KZ _) rfl Æ (Å fun x=>aaX x some)
def amx:Ï Tryz.prog 235 afa:=Ç (zT _) (fun {_}=>ď (Á mz Æ) _) hmix (tab:=K4 _) rfl (Á Th (Á Tg Æ)) (Å fun x=>aa0 x some)
def afR:Ï Tryz.prog 137 VG:=Ç (tk _) (fun {_}=>ď (Á Rh (Á afS (Á Ls (Á HC (Á afQ (Á amx Æ)))))) _) hmix (tab:=K3 _) rfl (Á Te (Á Tf (Á Td Æ))) (Å fun x=>aaZ x some)
def Ŧ:Ï Tryz.prog 68 Ţ:=Ç (Lb _) (fun {_}=>ď (Á Š (Á afR Æ)) _) hmix (tab:=Cf _) rfl Æ (Å fun x=>Tt x some)
def oG:Ï Tryz.prog 110 oa:=Ç (Jq _) (fun {_}=>ď (Á Š Æ) _) hmix (tab:=Ld _) rfl (Á Tv Æ) (Å fun x=>aa8 x some)
def Ř:Ï Tryz.prog 111 Ŗ:=Ç (wI _) (fun {_}=>ď (Á zt (Á zu Æ)) _) hmix (tab:=qQ _) rfl Æ (Å fun x=>F5 x some)
def abX:Ï Tryz.prog 12 Kd:=Ç (rJ _) (fun {_}=>ď (Á jC (Á Š (Á jl (Á Ŧ (Á oG (Á Ř Æ)))))) _) hmix (tab:=wx _) rfl (Á FT Æ) (Å fun x=>Mk x some)
def aee:Ï Tryz.prog 14 NT:=Ç (uS _) (fun {_}=>ď (Á kr (Á mM (Á Š (Á jl (Á Ŧ (Á oG (Á Ř Æ))))))) _) hmix (tab:=yx _) rfl (Á I3 Æ) (Å fun x=>Px x some)
def DM:Ï Tryz.prog 57 CC:=Ç (Fc _) (fun {_}=>ď Æ _) hmix (tab:=yc _) rfl Æ (Å fun x=>Pa x some)
def abW:Ï Tryz.prog 21 NR:=Ç (Dj _) (fun {_}=>ď (Á jC (Á DM (Á Š (Á jl (Á Ŧ (Á oG (Á Ř Æ))))))) _) hmix (tab:=FS _) rfl (Á Pq Æ) (Å fun x=>W4 x some)
def abY:Ï Tryz.prog 122 NU:=Ç (I8 _) (fun {_}=>ď Æ _) hmix (tab:=aaE _) rfl (Á adp (Á adn (Á adm (Á ado Æ)))) (Å fun x=>aiS x some)
def akb:Ï Tryz.prog 61 ZB:=Ç (pz _) (fun {_}=>ď (Á Re (Á abY Æ)) _) hmix (tab:=Ga _) rfl (Á PP (Á PN (Á PO Æ))) (Å fun x=>Xe x some)
def Yk:Ï Tryz.prog 60 Ej:=Ç (yw _) (fun {_}=>ď (Á kr (Á akb Æ)) _) hmix (tab:=sY _) rfl Æ (Å fun x=>I2 x some)
def Rb:Ï Tryz.prog 63 CD:=Ç (uF _) (fun {_}=>ď (Á Ŧ Æ) _) hmix (tab:=yd _) rfl (Á IH Æ) (Å fun x=>Pb x some)
def aed:Ï Tryz.prog 24 NS:=Ç (lq _) (fun {_}=>Qt (Á Yk (Á aj7 (Á Rb (Á Cl (Á tV (Á Š (Á jl (Á Ŧ (Á oG (Á Ř Æ)))))))))) (lq _) rfl rfl rfl rfl rfl (hZ rfl)) hmix (tab:=yv _) rfl (Á I1 (Á I0 Æ)) (Å fun x=>Pw x some)
def Rc:Ï Tryz.prog 140 CE:=Ç (uU _) (fun {_}=>ď Æ _) hmix (tab:=yz _) rfl (Á I7 Æ) (Å fun x=>Pz x some)
def afN:Ï Tryz.prog 141 VC:=Ç (I4 _) (fun {_}=>ď Æ _) hmix (tab:=KL _) rfl (Á SW Æ) (Å fun x=>aaC x some)
def TE:Ï Tryz.prog 69 A3:=Ç (wK _) (fun {_}=>ď (Á zu (Á Yl (Á Rc (Á afN Æ)))) _) hmix (tab:=qT _) rfl Æ (Å fun x=>F9 x some)
def HA:Ï Tryz.prog 25 ud:=Ç (yu _) (fun {_}=>ď (Á Š (Á jl (Á Ŧ (Á TE Æ)))) _) hmix (tab:=sX _) rfl Æ (Å fun x=>IZ x some)
def afT:Ï Tryz.prog 147 VJ:=Ç (Jo _) (fun {_}=>ď (Á Š Æ) _) hmix (tab:=La _) rfl (Á Ts Æ) (Å fun x=>aa6 x some)
def akg:Ï Tryz.prog 200 ZE:=Ç (P9 _) (fun {_}=>ď (Á Va (Á ab3 (Á afP (Á ab2 Æ)))) _) hmix (tab:=Gk _) rfl Æ (Å fun x=>Xq x some)
def aei:Ï Tryz.prog 146 N0:=Ç (GN _) (fun {_}=>ď (Á Re (Á afR (Á afT (Á Ls (Á HC (Á akg Æ)))))) _) hmix (tab:=yU _) rfl Æ (Å fun x=>Qn x some)
def akf:Ï Tryz.prog 202 ZD:=Ç (P7 _) (fun {_}=>ď (Á Š Æ) _) hmix (tab:=Gj _) rfl Æ (Å fun x=>Xp x some)
def amz:Ï Tryz.prog 148 afc:=Ç (UC _) (fun {_}=>ď (Á akf (Á afQ Æ)) _) hmix (tab:=Lc _) rfl Æ (Å fun x=>aa7 x some)
def Vb:Ï Tryz.prog 149 Ia:=Ç (Le _) (fun {_}=>ď (Á HC (Á U9 Æ)) _) hmix (tab:=Cg _) rfl Æ (Å fun x=>Tw x some)
def abV:Ï Tryz.prog 150 Kc:=Ç (BB _) (fun {_}=>ď (Á kr Æ) _) hmix (tab:=wu _) rfl Æ (Å fun x=>Me x some)
def abU:Ï Tryz.prog 151 Kb:=Ç (BA _) (fun {_}=>ď (Á mM Æ) _) hmix (tab:=wq _) rfl Æ (Å fun x=>Md x some)
def JT:Ï Tryz.prog 76 H6:=Ç (qI _) (fun {_}=>Qt (Á kr (Á Ŧ (Á aei (Á afT (Á amz (Á Vb (Á abV (Á abU Æ)))))))) (qI _) rfl rfl rfl rfl rfl (hZ rfl)) hmix (tab:=Bz _) rfl (Á Mc Æ) (Å fun x=>SI x some)
def vW:Ï Tryz.prog 82 t8:=Ç (yl _) (fun {_}=>ď Æ _) hmix (tab:=sN _) rfl Æ (Å fun x=>IL x some)
def ahr:Ï Tryz.prog 154 T7:=Ç (KD _) (fun {_}=>ď Æ _) hmix (tab:=BC _) rfl Æ (Å fun x=>SJ x some)
def sc:Ï Tryz.prog 86 ru:=Ç (wm _) (fun {_}=>ď (Á ahr Æ) _) hmix (tab:=qA _) rfl Æ (Å fun x=>E8 x some)
def sd:Ï Tryz.prog 88 rz:=Ç (j4 _) (fun {_}=>ď Æ _) hmix (tab:=qB _) rfl (Á AH (Á AI Æ)) (Å fun x=>E9 x some)
def Ra:Ï Tryz.prog 77 xi:=Ç (mf _) (fun {_}=>ď (Á ť (Á vW (Á sc (Á sd Æ)))) _) hmix (tab:=pk _) rfl (Á yb Æ) (Å fun x=>C5 x some)
def aj8:Ï Tryz.prog 31 Zy:=Ç (Dg _) (fun {_}=>ď (Á Š (Á jl (Á Ŧ (Á JT (Á Ra (Á oG (Á Ř Æ))))))) _) hmix (tab:=FJ _) rfl (Á Pm Æ) (Å fun x=>WY x some)
def Hz:Ï Tryz.prog 83 Ei:=Ç (yp _) (fun {_}=>ď Æ _) hmix (tab:=sV _) rfl Æ (Å fun x=>IW x some)
def Hy:Ï Tryz.prog 84 Eh:=Ç (ym _) (fun {_}=>ď Æ _) hmix (tab:=sO _) rfl Æ (Å fun x=>IM x some)
def aec:Ï Tryz.prog 35 NQ:=Zd (uM _) (đ _) (fun {_}=>Qt (Á DM (Á Š (Á jl (Á Ŧ (Á JT (Á ť (Á vW (Á Hz (Á Hy (Á sc (Á sd (Á oG (Á Ř Æ))))))))))))) (uM _) rfl rfl rfl rfl rfl (hZ rfl)) (fun {_}=>Qt (Á DM (Á Š (Á jl (Á Ŧ (Á JT (Á ť (Á vW (Á Hz (Á Hy (Á sc (Á sd (Á oG (Á Ř Æ))))))))))))) (đ _) rfl rfl rfl rfl rfl (hZ rfl)) rfl hmix (tab:=pw _) rfl (Á IV (Á IU Æ)) (us:=rH) rfl (Á (by kernel_rfl) Æ) (Å fun x=>Pp x some)
def aka:Ï Tryz.prog 91 ZA:=Ç (kj _) (fun {_}=>ď (Á zt (Á abY (Á zu Æ))) _) hmix (tab:=F6 _) rfl (Á PJ (Á PF (Á PG (Á PH (Á PI Æ))))) (Å fun x=>Xc x some)
def aj9:Ï Tryz.prog 38 Zz:=Ç (Pu _) (fun {_}=>ď (Á aj7 (Á Rb (Á Ŧ (Á aka Æ)))) _) hmix (tab:=FU _) rfl Æ (Å fun x=>W5 x some)
def abR:Ï Tryz.prog 44 Ka:=Ç (A5 _) (fun {_}=>ď Æ _) hmix (tab:=wh _) rfl Æ (Å fun x=>LI x some)
def amu:Ï Tryz.prog 106 ae7:=Ç (Uq _) (fun {_}=>ď (Á Vb Æ) _) hmix (tab:=KB _) rfl Æ (Å fun x=>aan x some)
def aj6:Ï Tryz.prog 107 Zx:=Ç (Ph _) (fun {_}=>ď Æ _) hmix (tab:=FG _) rfl Æ (Å fun x=>WQ x some)
def aj5:Ï Tryz.prog 108 Zw:=Ç (Dc _) (fun {_}=>ď (Á ť Æ) _) hmix (tab:=FF _) rfl (Á Pd Æ) (Å fun x=>WO x some)
def amw:Ï Tryz.prog 45 ae9:=Ç (zQ _) (fun {_}=>ď (Á jC (Á Š (Á jl (Á Ŧ (Á amu (Á aj6 (Á aj5 (Á oG (Á Ř Æ))))))))) _) hmix (tab:=KK _) rfl (Á SQ (Á SP Æ)) (Å fun x=>aaz x some)
def TD:Ï Tryz.prog 92 A2:=Ç (wJ _) (fun {_}=>ď (Á zu (Á Rc (Á afN Æ))) _) hmix (tab:=qS _) rfl Æ (Å fun x=>F8 x some)
def TC:Ï Tryz.prog 39 A1:=Ç (wy _) (fun {_}=>ď (Á Š (Á Ŧ (Á TD Æ))) _) hmix (tab:=qO _) rfl Æ (Å fun x=>FV x some)
def nP:Ï Tryz.prog 248 iN:=Ç (Ő _) (fun {_}=>ď Æ _) hmix (tab:=Ψ _) rfl (Á ke Æ) (Å fun x=>kS x some)
def lR:Ï Tryz.prog 216 ω:=Ç (Ι _) (fun {_}=>ď (Á nP Æ) _) hmix (tab:=Ų _) rfl Æ (Å fun x=>jP x some)
def sa:Ï Tryz.prog 250 jL:=Ç (Ź _) (fun {_}=>ď Æ _) hmix (tab:=iO _) rfl (Á l9 Æ) (Å fun x=>nD x some)
def oF:Ï Tryz.prog 219 iW:=Ç (il _) (fun {_}=>ď (Á sa Æ) _) hmix (tab:=gS _) rfl Æ (Å fun x=>lQ x some)
def pU:Ï Tryz.prog 252 i9:=Ç (Ũ _) (fun {_}=>ď Æ _) hmix (tab:=g8 _) rfl (Á kR Æ) (Å fun x=>md x some)
def nu:Ï Tryz.prog 222 ij:=Ç (gT _) (fun {_}=>ď (Á pU Æ) _) hmix (tab:=Θ _) rfl Æ (Å fun x=>kK x some)
def amv:Ï Tryz.prog 109 ae8:=Ç (Ν _) (fun {_}=>ď (Á lR (Á oF (Á nu Æ))) _) hmix (tab:=KC _) rfl (Á SG (Á SD (Á SC (Á SE (Á SF (Á SB (Á SA (Á Sz (Á Sy (Á Sx Æ)))))))))) (Å fun x=>aao x some)
def ahs:Ï Tryz.prog 46 T8:=Ç (KJ _) (fun {_}=>ď (Á HA (Á TC (Á Š (Á amv Æ)))) _) hmix (tab:=BG _) rfl Æ (Å fun x=>SO x some)
def ad7:Ï Tryz.prog 11 NI:=Ç (EB _) (fun {_}=>ď (Á abX (Á aee (Á abW (Á aed (Á HA (Á aj8 (Á aec (Á aj9 (Á abR (Á amw (Á ahs Æ))))))))))) _) hmix (tab:=xp _) rfl Æ (Å fun x=>Oa x some)
def rq:Ï Tryz.prog 94 mN:=Ç (Ba _) (fun {_}=>ď Æ _) hmix (tab:=wi _) rfl Æ (Å fun x=>LK x some)
def Q8:Ï Tryz.prog 164 H4:=Ç (Z9 _) (fun {_}=>ď Æ _) hmix (tab:=OM _) rfl Æ (Å fun x=>ac1 x some)
def Nj:Ï Tryz.prog 100 Ef:=Ç (Uk _) (fun {_}=>ď (Á Q8 Æ) _) hmix (tab:=Kr _) rfl Æ (Å fun x=>aac x some)
def afL:Ï Tryz.prog 209 VA:=Ç (IB _) (fun {_}=>ď Æ _) hmix (tab:=Kx _) rfl (Á Sr Æ) (Å fun x=>aaj x some)
def afM:Ï Tryz.prog 210 VB:=Ç (Up _) (fun {_}=>ď Æ _) hmix (tab:=KA _) rfl Æ (Å fun x=>aam x some)
def aho:Ï Tryz.prog 163 T4:=Ç (Ks _) (fun {_}=>ď (Á afL (Á afM Æ)) _) hmix (tab:=Bv _) rfl Æ (Å fun x=>Sn x some)
def ahl:Ï Tryz.prog 95 T1:=Ç (Kl _) (fun {_}=>ď (Á rq (Á Nj (Á aho (Á Q8 Æ)))) _) hmix (tab:=Bf _) rfl Æ (Å fun x=>RO x some)
def Hx:Ï Tryz.prog 166 xh:=Ç (C2 _) (fun {_}=>ď Æ _) hmix (tab:=EX _) rfl (Á OP Æ) (Å fun x=>Wt x some)
def Aw:Ï Tryz.prog 101 sl:=Ç (Kn _) (fun {_}=>ď (Á Hx Æ) _) hmix (tab:=Bj _) rfl Æ (Å fun x=>RX x some)
def ajV:Ï Tryz.prog 96 Zm:=Ç (CQ _) (fun {_}=>ď (Á Nj (Á Aw Æ)) _) hmix (tab:=EF _) rfl (Á Oe Æ) (Å fun x=>V3 x some)
def ahj:Ï Tryz.prog 97 TZ:=Ç (mW _) (fun {_}=>ď (Á rq (Á Aw (Á Q8 Æ))) _) hmix (tab:=Bc _) rfl (Á LM (Á LL (Á LN Æ))) (Å fun x=>RM x some)
def ajZ:Ï Tryz.prog 165 Zq:=Ç (CX _) (fun {_}=>ď (Á Q8 Æ) _) hmix (tab:=EQ _) rfl (Á Ox Æ) (Å fun x=>Wi x some)
def ahi:Ï Tryz.prog 98 TY:=Ç (Ki _) (fun {_}=>ď (Á rq (Á Nj (Á Q8 (Á ajZ Æ)))) _) hmix (tab:=Bb _) rfl Æ (Å fun x=>RL x some)
def abS:Ï Tryz.prog 167 NK:=Ç (CZ _) (fun {_}=>ď Æ _) hmix (tab:=ET _) rfl (Á OH Æ) (Å fun x=>Wo x some)
def amp:Ï Tryz.prog 211 ae2:=Ç (Iu _) (fun {_}=>ď Æ _) hmix (tab:=Ko _) rfl (Á Se Æ) (Å fun x=>aaa x some)
def abT:Ï Tryz.prog 168 NL:=Ç (C0 _) (fun {_}=>ď (Á amp Æ) _) hmix (tab:=EU _) rfl (Á OJ Æ) (Å fun x=>Wp x some)
def Yi:Ï Tryz.prog 99 Ee:=Ç (jc _) (fun {_}=>ď (Á Aw (Á Hx (Á abS (Á abT Æ)))) _) hmix (tab:=sK _) rfl (Á CU (Á CT (Á CS Æ))) (Å fun x=>Io x some)
def Yh:Ï Tryz.prog 158 MR:=Ç (Uj _) (fun {_}=>ď (Á abT Æ) _) hmix (tab:=Kj _) rfl Æ (Å fun x=>ZZ x some)
def ajW:Ï Tryz.prog 169 Zn:=Ç (uw _) (fun {_}=>ď (Á Yh Æ) _) hmix (tab:=EJ _) rfl (Á On (Á Om Æ)) (Å fun x=>V9 x some)
def Ax:Ï Tryz.prog 102 sm:=Ç (ip _) (fun {_}=>ď (Á ajW Æ) _) hmix (tab:=Bl _) rfl (Á LV (Á LU (Á LS (Á LP (Á LQ (Á LR Æ)))))) (Å fun x=>RZ x some)
def JS:Ï Tryz.prog 52 zJ:=Ç (xK _) (fun {_}=>ď (Á Ax Æ) _) hmix (tab:=Bq _) rfl (Á LW Æ) (Å fun x=>Sd x some)
def ajX:Ï Tryz.prog 212 Zo:=Ç (CV _) (fun {_}=>ď Æ _) hmix (tab:=EK _) rfl (Á Oq Æ) (Å fun x=>Wb x some)
def aj0:Ï Tryz.prog 170 Zr:=Ç (CY _) (fun {_}=>ď (Á Hx (Á abS (Á ajX Æ))) _) hmix (tab:=ER _) rfl (Á OC Æ) (Å fun x=>Wm x some)
def Q9:Ï Tryz.prog 285 CB:=Ç (EY _) (fun {_}=>ď (Á afL (Á afM Æ)) _) hmix (tab:=ya _) rfl Æ (Å fun x=>O3 x some)
def amt:Ï Tryz.prog 268 ae6:=Ç (Uo _) (fun {_}=>ď (Á Q9 Æ) _) hmix (tab:=Kz _) rfl Æ (Å fun x=>aal x some)
def amr:Ï Tryz.prog 269 ae4:=Ç (Um _) (fun {_}=>ď Æ _) hmix (tab:=Kv _) rfl Æ (Å fun x=>aah x some)
def amq:Ï Tryz.prog 242 ae3:=Ç (Ul _) (fun {_}=>ď (Á amt (Á amr Æ)) _) hmix (tab:=Kt _) rfl Æ (Å fun x=>aag x some)
def ahk:Ï Tryz.prog 243 T0:=Ç (Kk _) (fun {_}=>ď (Á Hx Æ) _) hmix (tab:=Be _) rfl Æ (Å fun x=>RN x some)
def aj3:Ï Tryz.prog 270 Zu:=Ç (O6 _) (fun {_}=>ď Æ _) hmix (tab:=E4 _) rfl Æ (Å fun x=>Wz x some)
def ams:Ï Tryz.prog 271 ae5:=Ç (Un _) (fun {_}=>ď (Á Q9 Æ) _) hmix (tab:=Kw _) rfl Æ (Å fun x=>aai x some)
def ahp:Ï Tryz.prog 244 T5:=Ç (Ku _) (fun {_}=>ď (Á aj3 (Á ams Æ)) _) hmix (tab:=Bw _) rfl Æ (Å fun x=>Sq x some)
def ad9:Ï Tryz.prog 205 NM:=Ç (EW _) (fun {_}=>ď (Á Yh (Á amq (Á ahk (Á ahp Æ)))) _) hmix (tab:=xL _) rfl Æ (Å fun x=>OO x some)
def ahm:Ï Tryz.prog 206 T2:=Ç (Kq _) (fun {_}=>ď Æ _) hmix (tab:=Bs _) rfl Æ (Å fun x=>Sh x some)
def aoa:Ï Tryz.prog 245 aim:=Ç (aad _) (fun {_}=>ď Æ _) hmix (tab:=O2 _) rfl Æ (Å fun x=>ac5 x some)
def aj4:Ï Tryz.prog 207 Zv:=Ç (O8 _) (fun {_}=>ď (Á aoa Æ) _) hmix (tab:=E6 _) rfl Æ (Å fun x=>WJ x some)
def aj2:Ï Tryz.prog 246 Zt:=Ç (O4 _) (fun {_}=>ď Æ _) hmix (tab:=EZ _) rfl Æ (Å fun x=>Wy x some)
def ahq:Ï Tryz.prog 208 T6:=Ç (Ky _) (fun {_}=>ď (Á aj2 Æ) _) hmix (tab:=Bx _) rfl Æ (Å fun x=>Ss x some)
def ajY:Ï Tryz.prog 171 Zp:=Ç (Ov _) (fun {_}=>ď (Á ad9 (Á ahm (Á aj4 (Á ahq Æ)))) _) hmix (tab:=EP _) rfl Æ (Å fun x=>Wh x some)
def afK:Ï Tryz.prog 103 Vz:=Ç (sL _) (fun {_}=>ď (Á JS (Á Ax (Á Yh (Á aj0 (Á ajY Æ))))) _) hmix (tab:=Km _) rfl (Á RU (Á RV (Á RT Æ))) (Å fun x=>Z2 x some)
def U7:Ï Tryz.prog 41 H5:=Ç (ky _) (fun {_}=>ď (Á rq (Á ahl (Á ajV (Á ahj (Á ahi (Á Yi (Á Nj (Á Aw (Á Ax (Á afK Æ)))))))))) _) hmix (tab:=Bt _) rfl (Á L1 (Á LY (Á LZ (Á LX Æ)))) (Å fun x=>Si x some)
def ad8:Ï Tryz.prog 43 NJ:=Ç (EO _) (fun {_}=>ď (Á Ax (Á afK Æ)) _) hmix (tab:=xz _) rfl Æ (Å fun x=>Ou x some)
def aj1:Ï Tryz.prog 53 Zs:=Ç (OE _) (fun {_}=>ď (Á U7 Æ) _) hmix (tab:=ES _) rfl Æ (Å fun x=>Wn x some)
def ahn:Ï Tryz.prog 54 T3:=Ç (Ω _) (fun {_}=>ď Æ _) hmix (tab:=Bu _) rfl (Á L7 (Á L8 (Á L6 (Á L3 (Á L4 (Á L2 (Á L5 Æ))))))) (Å fun x=>Sj x some)
def ajU:Ï Tryz.prog 15 Zl:=Ç (CP _) (fun {_}=>ď (Á U7 (Á ad8 (Á JS (Á aj1 (Á ahn Æ))))) _) hmix (tab:=EE _) rfl (Á Oc Æ) (Å fun x=>V1 x some)
def DL:Ï Tryz.prog 16 o9:=Ç (mU _) (fun {_}=>ď Æ _) hmix (tab:=kX _) rfl Æ (Å fun x=>uq x some)
def Yg:Ï Tryz.prog 17 Ed:=Ç (xu _) (fun {_}=>ď (Á JS Æ) _) hmix (tab:=sJ _) rfl Æ (Å fun x=>Ih x some)
def aea:Ï Tryz.prog 56 NN:=Ç (uC _) (fun {_}=>ď Æ _) hmix (tab:=xZ _) rfl (Á Iy Æ) (Å fun x=>O1 x some)
def Q7:Ï Tryz.prog 20 xg:=Ç (sI _) (fun {_}=>ď (Á aea Æ) _) hmix (tab:=pf _) rfl Æ (Å fun x=>CO x some)
def Yj:Ï Tryz.prog 58 Eg:=Ç (ln _) (fun {_}=>ď Æ _) hmix (tab:=sM _) rfl (Á C9 (Á C8 Æ)) (Å fun x=>IG x some)
def ab0:Ï Tryz.prog 59 Ke:=Ç (BL _) (fun {_}=>ď (Á abZ (Á U8 (Á jI Æ))) _) hmix (tab:=wH _) rfl Æ (Å fun x=>Mv x some)
def aeb:Ï Tryz.prog 22 NP:=Ç (uL _) (fun {_}=>ď (Á jC (Á kr (Á Yj (Á ab0 (Á Š (Á jl (Á Ŧ (Á oG (Á Ř Æ))))))))) _) hmix (tab:=yo _) rfl (Á IR Æ) (Å fun x=>Po x some)
def ahh:Ï Tryz.prog 23 TX:=Ç (Kh _) (fun {_}=>ď Æ _) hmix (tab:=A8 _) rfl Æ (Å fun x=>RJ x some)
def c_w6_SharpJudges:Ï Tryz.prog 5 jZ:=Ç (qn _) (fun {_}=>ď (Á amo (Á ad7 (Á ajU (Á DL (Á Yg (Á Q7 (Á abW (Á aeb (Á ahh Æ))))))))) _) hmix (tab:=nQ _) rfl Æ (Å fun x=>AE x some)
end Go.Proofs.ZzM
end
