/- lemmas -/
import Derived.Test.YtmadligicacpkaaGreatAmD
import Derived.Test.YtmadligicacpkaaGreatAmE
import Derived.Ground.NamesProg
import Derived.Ground.Names2Prog
import Derived.KernelRfl
import Derived.Test.YtmadligicacpkaaGreatMdMA
import Derived.Test.YtmadligicacpkaaGreatMdKD
import Derived.RangeFuncBox
import Derived.Lib.SliceRun
import Derived.RangeFuncLeaves
import Derived.WalkKit
import Derived.OwnWalkIn
import Derived.TacticsInMore
import Derived.LoopNIn
import Derived.LoopIn
import Derived.Test.YtmadligicacpkaaGreatProg
import Derived.RangeFuncFrom
import Derived.RangeFuncRecord
import Derived.Test.YtmadligicacpkaaGreatMdKC
import Derived.Test.YtmadligicacpkaaGreatMdKB
import Derived.Test.YtmadligicacpkaaGreatMdKA
set_option linter.all false
set_option linter.unusedSectionVars false
set_option linter.unusedVariables false
set_option linter.unusedSimpArgs false
noncomputable section
namespace Go.Proofs
open Go.Shelf
def Tryz.laysSort_ren:Go.Shelf.Ren:=⟨fun|189=>232|125=>262|257=>261|128=>281|129=>282|294=>272|295=>273|296=>274|297=>275|298=>276|299=>277|216=>278|300=>279|301=>280|328=>286|329=>287|330=>288|331=>289|332=>290|215=>291|343=>299|n=>n,fun|28=>53|3=>3|46=>298|0=>0|51=>316|53=>293|4=>4|183=>309|182=>308|131=>265|5=>5|9=>9|218=>324|222=>328|228=>336|229=>337|n=>n,fun|n=>n⟩
def Tryz.laysSort:Go.Proofs.Lays.n189 Tryz.prog Tryz.laysSort_ren:={
 mixed:=by kernel_rfl
 f125:=Tryz.func262.trans (congrArg some (by kernel_rfl))
 f128:=Tryz.func281.trans (congrArg some (by kernel_rfl))
 f129:=Tryz.func282.trans (congrArg some (by kernel_rfl))
 f189:=Tryz.func232.trans (congrArg some (by kernel_rfl))
 f215:=Tryz.func291.trans (congrArg some (by kernel_rfl))
 f216:=Tryz.func278.trans (congrArg some (by kernel_rfl))
 f257:=Tryz.func261.trans (congrArg some (by kernel_rfl))
 f294:=Tryz.func272.trans (congrArg some (by kernel_rfl))
 f295:=Tryz.func273.trans (congrArg some (by kernel_rfl))
 f296:=Tryz.func274.trans (congrArg some (by kernel_rfl))
 f297:=Tryz.func275.trans (congrArg some (by kernel_rfl))
 f298:=Tryz.func276.trans (congrArg some (by kernel_rfl))
 f299:=Tryz.func277.trans (congrArg some (by kernel_rfl))
 f300:=Tryz.func279.trans (congrArg some (by kernel_rfl))
 f301:=Tryz.func280.trans (congrArg some (by kernel_rfl))
 f328:=Tryz.func286.trans (congrArg some (by kernel_rfl))
 f329:=Tryz.func287.trans (congrArg some (by kernel_rfl))
 f330:=Tryz.func288.trans (congrArg some (by kernel_rfl))
 f331:=Tryz.func289.trans (congrArg some (by kernel_rfl))
 f332:=Tryz.func290.trans (congrArg some (by kernel_rfl))
 f343:=Tryz.func299.trans (congrArg some (by kernel_rfl))
 t0:=Tryz.underlying0
 a0:=Tryz.isAgg0
 z0:=Tryz.sizeOf0
 v0:=Tryz.zeroValue0
 t3:=Tryz.underlying3
 a3:=Tryz.isAgg3
 z3:=Tryz.sizeOf3
 v3:=Tryz.zeroValue3
 t4:=Tryz.underlying4
 a4:=Tryz.isAgg4
 z4:=Tryz.sizeOf4
 v4:=Tryz.zeroValue4
 t5:=Tryz.underlying5
 a5:=Tryz.isAgg5
 z5:=Tryz.sizeOf5
 v5:=Tryz.zeroValue5
 t9:=Tryz.underlying9
 a9:=Tryz.isAgg9
 z9:=Tryz.sizeOf9
 v9:=Tryz.zeroValue9
 t28:=Tryz.underlying53
 a28:=Tryz.isAgg53
 z28:=Tryz.sizeOf53
 v28:=Tryz.zeroValue53
 t46:=Tryz.underlying298
 a46:=Tryz.isAgg298
 z46:=Tryz.sizeOf298
 v46:=Tryz.zeroValue298
 t51:=Tryz.underlying316
 a51:=Tryz.isAgg316
 z51:=Tryz.sizeOf316
 v51:=Tryz.zeroValue316
 t53:=Tryz.underlying293
 a53:=Tryz.isAgg293
 z53:=Tryz.sizeOf293
 v53:=Tryz.zeroValue293
 t131:=Tryz.underlying265
 a131:=Tryz.isAgg265
 z131:=Tryz.sizeOf265
 v131:=Tryz.zeroValue265
 t182:=Tryz.underlying308
 a182:=Tryz.isAgg308
 z182:=Tryz.sizeOf308
 v182:=Tryz.zeroValue308
 t183:=Tryz.underlying309
 a183:=Tryz.isAgg309
 z183:=Tryz.sizeOf309
 v183:=Tryz.zeroValue309
 t218:=Tryz.underlying324
 a218:=Tryz.isAgg324
 z218:=Tryz.sizeOf324
 v218:=Tryz.zeroValue324
 t222:=Tryz.underlying328
 a222:=Tryz.isAgg328
 z222:=Tryz.sizeOf328
 v222:=Tryz.zeroValue328
 t228:=Tryz.underlying336
 a228:=Tryz.isAgg336
 z228:=Tryz.sizeOf336
 v228:=Tryz.zeroValue336
 t229:=Tryz.underlying337
 a229:=Tryz.isAgg337
 z229:=Tryz.sizeOf337
 v229:=Tryz.zeroValue337}
def Tryz.laysCompact_ren:Go.Shelf.Ren:=⟨fun|20=>233|n=>n,fun|22=>53|3=>3|4=>4|0=>0|n=>n,fun|n=>n⟩
def Tryz.laysCompact:Go.Proofs.Lays2.n20 Tryz.prog Tryz.laysCompact_ren:={
 mixed:=by kernel_rfl
 f20:=Tryz.func233.trans (congrArg some (by kernel_rfl))
 t0:=Tryz.underlying0
 a0:=Tryz.isAgg0
 z0:=Tryz.sizeOf0
 v0:=Tryz.zeroValue0
 t3:=Tryz.underlying3
 a3:=Tryz.isAgg3
 z3:=Tryz.sizeOf3
 v3:=Tryz.zeroValue3
 t4:=Tryz.underlying4
 a4:=Tryz.isAgg4
 z4:=Tryz.sizeOf4
 v4:=Tryz.zeroValue4
 t22:=Tryz.underlying53
 a22:=Tryz.isAgg53
 z22:=Tryz.sizeOf53
 v22:=Tryz.zeroValue53
 i3:=by kernel_rfl}
end Go.Proofs
namespace Go.Proofs.ZzM
open Go Go.Am
def hmix:Tryz.prog.follows .mixedOrders=true:=by kernel_rfl
def plain_ : (Tryz.prog.funcs.toList.all fun fn => !(fn.name == "runtime.NumGoroutine")) = true := by kernel_rfl
def plain (f : Nat) (fn : Func) (h : Tryz.prog.funcs[f]? = some fn) : (fn.name == "runtime.NumGoroutine") = false := by
 have:=dI.1 plain_ fn (cZ (i:=f) (by simpa using h));simpa using this
def apa:Tryz.laysSort_ren.f 189=232:=by kernel_rfl
def aif:Tryz.laysCompact_ren.f 20=233:=by kernel_rfl
section
variable [þ] {ρ:Type}
def sortOk (f:Nat) (hf:acZ f=true) (h:List Blk) (x:AV) (K:AV→List Blk→Option ρ) (q:ρ) (e:W6 h x K=some q) (ν:Nat→Value) (w:World) (u:Value) (H:HR ν h w) (hx:VR ν h w x u):MY Tryz.prog f ν h w [u] K q:=by
 have h1:f=232:=by
  unfold acZ at hf
  split at hf
  ·rfl
  ·cases hf
 subst h1;have:=ao3 Tryz.laysSort e H hx ⟨_,rfl⟩
 rwa [apa] at this
def alz (f:Nat) (hf:Al f=true) (h:List Blk) (x:AV) (K:AV→List Blk→Option ρ) (q:ρ) (e:pI h x K=some q) (ν:Nat→Value) (w:World) (u:Value) (H:HR ν h w) (hx:VR ν h w x u):MY Tryz.prog f ν h w [u] K q:=by
 have h1:f=233:=by
  unfold Al at hf
  split at hf
  ·rfl
  ·cases hf
 subst h1;have:=aiV Tryz.laysCompact e H hx ⟨_,rfl⟩
 rwa [aif] at this
def apL:Lr Tryz.prog RX:=by
 intro g hg fz S nid x v S' e ν w u H hx hn hd;unfold RX at hg
 split at hg
 ·exact xc Tryz.func116 (T:=42) (by kernel_rfl) (by kernel_rfl) e H hx hn hd
 ·exact xc Tryz.func130 (T:=53) (by kernel_rfl) (by kernel_rfl) e H hx hn hd
 ·exact xc Tryz.func253 (T:=24) (by kernel_rfl) (by kernel_rfl) e H hx hn hd
 ·exact xc Tryz.func254 (T:=25) (by kernel_rfl) (by kernel_rfl) e H hx hn hd
 ·exact xc Tryz.func255 (T:=26) (by kernel_rfl) (by kernel_rfl) e H hx hn hd
 ·exact xc Tryz.func256 (T:=28) (by kernel_rfl) (by kernel_rfl) e H hx hn hd
 ·exact xc Tryz.func257 (T:=27) (by kernel_rfl) (by kernel_rfl) e H hx hn hd
 ·cases hg
def RT {pt:List (Nat×Ü)} (h:∀e∈pt,Ò Tryz.prog e.1 e.2) (E:Env ρ) (hP:E.P=Tryz.prog) (h1:E.pure=aiM pt) (h2:E.sort=acZ) (h3:E.compact=Al) (h4:E.clone=RX) (hj:ahX E):Oa E:=by
 constructor
 ·intro f p hf;rw[h1] at hf;rw[hP];exact h (f,p) (Wx hf)
 ·intro f hf;rw[h2] at hf;rw[hP];exact sortOk f hf
 ·intro f hf;rw[h3] at hf;rw[hP];exact alz f hf
 ·rw[hP]; exact plain
 ·rw[hP,h4]; exact apL
 ·exact hj
def ē {pt:List (Nat×Ü)} (h:∀e∈pt,Ò Tryz.prog e.1 e.2) (tab:List (ß ρ)):Oa (Ý pt tab):=RT h _ rfl rfl rfl rfl rfl (iB rfl)
end
end Go.Proofs.ZzM
end

noncomputable section
set_option maxRecDepth 100000
namespace Go.Proofs.ZzM
open Go Go.Am
def Ŭ:Ò Tryz.prog 81 Ũ:=É (iu _) (fun {_}=>ē Ç _) hmix (tab:=mu _) rfl (Á uf (Á ue Ç)) (Æ fun x=>ya x some)
def QL:∀e∈J9,Ò Tryz.prog e.1 e.2:=(Á Ŭ Ç)
def ae6 {ρ:Type}:∀e∈Eo ρ,e.Ok (Η ρ):=(Á YC (Á YD (Á YB (Á YA (Á Yz (Á Yy Ç))))))
def L9 {ρ:Type}:∀e∈sa ρ,e.Ok (Ĥ ρ):=(Á Ur (Á Uq (Á Up Ç)))
def BF:Ò Tryz.prog 131 tX:=É (MA _) (fun {_}=>ē Ç _) hmix (tab:=Dt _) rfl Ç (Æ fun x=>UV x some)
def ng:Ò Tryz.prog 227 kS:=É (Mv _) (fun {_}=>ē Ç _) hmix (tab:=Dm _) rfl Ç (Æ fun x=>UI x some)
def SY:Ò Tryz.prog 189 FH:=É (RH _) (fun {_}=>ē (Á ng Ç) _) hmix (tab:=HY _) rfl Ç (Æ fun x=>Zd x some)
def ahB:Ò Tryz.prog 258 Xm:=É (V6 _) (fun {_}=>ē Ç _) hmix (tab:=Mp _) rfl Ç (Æ fun x=>act x some)
def alY:Ò Tryz.prog 259 aeF:=É (Rl _) (fun {_}=>ē Ç _) hmix (tab:=Rk _) rfl (Á YW Ç) (Æ fun x=>afg x some)
def I2:Ò Tryz.prog 226 FD:=É (Ro _) (fun {_}=>ē (Á ahB (Á alY Ç)) _) hmix (tab:=HC _) rfl Ç (Æ fun x=>YY x some)
def af1:Ò Tryz.prog 187 Po:=É (HX _) (fun {_}=>ē (Á BF (Á SY (Á I2 (Á ng Ç)))) _) hmix (tab:=Ad _) rfl Ç (Æ fun x=>RG x some)
def SZ:Ò Tryz.prog 132 yv:=É (mX _) (fun {_}=>ē (Á af1 Ç) _) hmix (tab:=qI _) rfl (Á Ae Ç) (Æ fun x=>EK x some)
def SW:Ò Tryz.prog 133 DX:=É (ww _) (fun {_}=>ē Ç _) hmix (tab:=zW _) rfl (Á Kv Ç) (Æ fun x=>Rz x some)
def vx:Ò Tryz.prog 78 mE:=É (kH _) (fun {_}=>ē Ç _) hmix (tab:=nN _) rfl (Á vK Ç) (Æ fun x=>yB x some)
def pb:Ò Tryz.prog 121 jZ:=É (mr _) (fun {_}=>ē (Á vx Ç) _) hmix (tab:=kW _) rfl Ç (Æ fun x=>ud x some)
def ahF:Ò Tryz.prog 194 Xq:=É (Bf _) (fun {_}=>ē (Á pb Ç) _) hmix (tab:=MC _) rfl (Á UY (Á UX Ç)) (Æ fun x=>acM x some)
def SX:Ò Tryz.prog 135 FG:=É (wz _) (fun {_}=>ē (Á ahF Ç) _) hmix (tab:=HJ _) rfl (Á RB (Á RC Ç)) (Æ fun x=>Y6 x some)
def tJ:Ò Tryz.prog 190 ni:=É (xS _) (fun {_}=>ē Ç _) hmix (tab:=sv _) rfl Ç (Æ fun x=>HH x some)
def af0:Ò Tryz.prog 188 aeH:=É (HI _) (fun {_}=>ē (Á SY (Á tJ Ç)) _) hmix (tab:=zZ _) rfl Ç (Æ fun x=>RA x some)
def ZW:Ò Tryz.prog 192 Xr:=É (lW _) (fun {_}=>ē (Á BF (Á tJ (Á ng Ç))) _) hmix (tab:=uS _) rfl (Á EJ (Á EI Ç)) (Æ fun x=>KC x some)
def I3:Ò Tryz.prog 199 A2:=É (Be _) (fun {_}=>ē (Á pb Ç) _) hmix (tab:=Mz _) rfl (Á US (Á UR Ç)) (Æ fun x=>acJ x some)
def WK:Ò Tryz.prog 204 Jw:=É (Ac _) (fun {_}=>ē (Á ng Ç) _) hmix (tab:=Ds _) rfl (Á N0 Ç) (Æ fun x=>UT x some)
def aog:Ò Tryz.prog 231 agY:=É (KD _) (fun {_}=>ē (Á ng Ç) _) hmix (tab:=MD _) rfl (Á UZ Ç) (Æ fun x=>acN x some)
def N7:Ò Tryz.prog 193 M6:=É (ū _) (fun {_}=>ē (Á Ŭ (Á BF (Á SY (Á tJ (Á I3 (Á WK (Á ng (Á aog Ç)))))))) _) hmix (tab:=oZ _) rfl (Á yf (Á yd (Á ye (Á yc Ç)))) (Æ fun x=>B4 x some)
end Go.Proofs.ZzM
end

noncomputable section
namespace Go.Proofs
open Go.RowKit
attribute [local go_sem] Oper.semAt_some
def Ts (sel:Nat→Bool) (k:Nat):List Nat:=(List.range k).filter sel
def Fk (sel:Nat→Bool) (k:Nat):Ts sel (k+1)=if sel k then Ts sel k++[k] else Ts sel k:=by
 unfold Ts;rw[List.range_succ,List.filter_append]
 cases h:sel k<;>simp[h]
def aet (sel:Nat→Bool) (k:Nat):(Ts sel k).length≤k:=by
 unfold Ts;exact Nat.le_trans (List.length_filter_le _ _) (by simp)
def ajR (sel:Nat→Bool) {j k:Nat} (h:j≤k):(Ts sel j).length≤(Ts sel k).length:=by
 obtain⟨d,rfl⟩:∃d,k=j+d:=⟨k-j,by omega⟩;unfold Ts;rw[List.range_add,List.filter_append,List.length_append];omega
def ao4 {sel:Nat→Bool} {k n:Nat} (h:k<n) (hs:sel k=true):(Ts sel k).length<(Ts sel n).length:=by
 have h1:=ajR sel (j:=k+1) (k:=n) h;rw[Fk,hs] at h1;simp at h1;omega
set_option maxRecDepth 100000 in
set_option maxHeartbeats 1000000 in
def apt (te:TypeId) (n:Nat) (hn:1≤n) (l bb tb:Nat) (flo fhi us lo co ko:Value) (gb go len cap:Nat) (gbase:Option Addr) (hgb:0<len→gbase=some ⟨gb,go,none⟩)
 (c0 c1 c2 c3 c4 c5 c6 c7:Nat→Int) (sel:Nat→Bool) (hlen:(len:Int)<9223372036854775807) (Nd:World→Prop)
 (W:World) (hb0:W.heap[bb]?=some (.cells #[flo,fhi,.slice gbase len cap,us,lo,co,ko] te (0,0)))
 (hNc:∀W',Nd W'→∀j,j<len→W'.cell? ⟨gb,go+j*8,none⟩=some (.int .i64 (c0 j))∧W'.cell? ⟨gb,go+j*8+1,none⟩=some (.int .i64 (c1 j))∧W'.cell? ⟨gb,go+j*8+2,none⟩=some (.int .i64 (c2 j))∧W'.cell? ⟨gb,go+j*8+3,none⟩=some (.int .i64 (c3 j)) ∧
  W'.cell? ⟨gb,go+j*8+4,none⟩=some (.int .i64 (c4 j))∧W'.cell? ⟨gb,go+j*8+5,none⟩=some (.int .i64 (c5 j))∧W'.cell? ⟨gb,go+j*8+6,none⟩=some (.int .i64 (c6 j))∧W'.cell? ⟨gb,go+j*8+7,none⟩=some (.int .i64 (c7 j)))
 (hNm:∀W',Nd W'→∃mv,∀W'',W'.grownBy W'' none→W''.cell? ⟨tb,0,none⟩=some mv∧∀j,j<len→(Instr.lookup 184 mv (.int .i64 (c0 j)) false).run Tryz.prog W''=.ok (.bool (sel j)) W'')
 (hNs:∀W1 W2,Nd W1→W1.grownBy W2 none→Nd W2) (hN:Nd W)
 (J Jx:List Nat→World→Prop) (hJ:∀pre W W',J pre W→W.grownBy W' none→J pre W') (hJx:∀pre W W',Jx pre W→W.grownBy W' none→Jx pre W')
 (hY:∀pre x W,J pre W→pre.length<(Ts sel len).length→YieldAt Fence.wide (n-1) Tryz.prog l #[.agg #[.int .i64 (c0 x),.int .i64 (c1 x),.int .i64 (c2 x),.int .i64 (c3 x),.int .i64 (c4 x),.int .i64 (c5 x),.int .i64 (c6 x),.int .i64 (c7 x)]] W fun e W' =>
  (e=.returned (.bool true)∧J (pre++[x]) W'∧(Nd W→Nd W'))∨(e=.returned (.bool false)∧Jx (pre++[x]) W'))
 (h0 : J [] W) :
  CallsIn Fence.wide n Tryz.prog 186 #[.func (.yield l) #[] #[],.pointer (some ⟨bb,0,none⟩),.pointer (some ⟨tb,0,none⟩)] W fun e W'=>(∃v,e=.returned v) ∧
   ((∃xs,xs=Ts sel len∧J xs W')∨(∃pre,True∧Jx pre W')):=by
 have hb3:W.cell? ⟨bb,2,none⟩=some (.slice gbase len cap):=by simp[World.cell?,hb0]
 refine callsIn_of_wp Tryz.func186 rfl trivial ?_ rfl;simp only[Tryz.ntmps186,eS,df,dt,Nat.reduceAdd,Nat.reduceSub,Array.replicate_succ,Array.replicate_zero,List.push_toArray,gx,gg,eP]
 gi_wp2
 gi_loopw [9] (fun i wr=>∃k:Nat,k≤len∧i=.int .i64 k∧J (Ts sel k) wr∧Nd wr)
  (fun i _=>len-(intOf i).toNat)
 case atStart=>exact⟨0,ej _,rfl,h0,hN⟩
 case round =>
  obtain⟨k,hk,rfl,hJs,hNw⟩:=hrel
  by_cases hlt:k<len
  ·have hg:=hgb (by omega);subst hg;obtain⟨q0,q1,q2,q3,q4,q5,q6,q7⟩:=hNc _ hNw k hlt;obtain⟨mv,hmv⟩:=hNm _ hNw;have hta:∀o,(wr.alloc o).cell? ⟨tb,0,none⟩=some mv:=fun o=>(hmv _ (World.grownBy_alloc _ o none)).1;have hlk:∀o,(Instr.lookup 184 mv (.int .i64 (c0 k)) false).run Tryz.prog (wr.alloc o)=.ok (.bool (sel k)) (wr.alloc o):=fun o=>(hmv _ (World.grownBy_alloc _ o none)).2 k hlt;have hNa:∀o,Nd (wr.alloc o):=fun o=>hNs _ _ hNw (World.grownBy_alloc _ o none);have hJa:∀o,J (Ts sel k) (wr.alloc o):=fun o=>hJ _ _ _ hJs (World.grownBy_alloc _ o none);clear hmv hNm hNc
   cases hsel:sel k with
   |false =>
    rw[hsel] at hlk
    iterate 52 (first|go_values|gi_guarded|gi_step|gi_upon)
    refine⟨fun f hf=>by simp[undef,go_sem] at hf,?_⟩
    gi_wp2
    go_roundw
    case rel=>exact⟨k+1,by omega,by simp,by rw[Fk,hsel]; exact hJa _,hNa _⟩
    case measure=>simp[intOf]; omega
   |true =>
    rw[hsel] at hlk
    gi_wp2
    obtain⟨fn,tmps,assign,body,hy,hR⟩:=hY (Ts sel k) k (wr.alloc (.cells #[.int .i64 (c0 k),.int .i64 (c1 k),.int .i64 (c2 k),.int .i64 (c3 k),.int .i64 (c4 k),.int .i64 (c5 k),.int .i64 (c6 k),.int .i64 (c7 k)] 130)) (hJa _) (ao4 hlt hsel);rw[hy];refine⟨fun h=>(by cases h),hR.mono ?_⟩;rintro e W3 (⟨rfl,hJ3,hk3⟩|⟨rfl,hJx3⟩)
    ·gi_wp2
     go_roundw
     case rel=>exact⟨k+1,by omega,by simp,by rw[Fk,hsel]; exact hJ3,hk3 (hNa _)⟩
     case measure=>simp[intOf]; omega
    ·gi_wp2
     refine bodyPost_ret (results_none rfl _ _ _) rfl ?_;exact⟨⟨_,rfl⟩,.inr ⟨_,trivial,hJx3⟩⟩
  ·obtain rfl:len=k:=by omega
   gi_wp2
   go_end0
   exact⟨⟨_,rfl⟩,.inl ⟨_,rfl,hJs⟩⟩
end Go.Proofs
end

noncomputable section
namespace Go.Proofs
open Go.RowKit
attribute [local go_sem] Oper.semAt_some
def upE (f:Nat→Int) (k:Nat):List Int:=(List.range k).map f
def rq (f:Nat→Int) (k:Nat):upE f (k+1)=upE f k++[f k]:=by simp[upE,List.range_succ]
def AR (f:Nat→Int) (k:Nat):(upE f k).length=k:=by simp[upE]
def Ob (f:Nat→Int) {j k:Nat} (h:j≤k):upE f j <+: upE f k:=by
 have:k=j+(k-j):=by omega
 rw[this,upE,upE,List.range_add,gU];exact eE _ _
set_option maxRecDepth 100000 in
set_option maxHeartbeats 1000000 in
def ane (te:TypeId) (n:Nat) (hn:1≤n) (l n₀ bb tb sb:Nat) (flo fhi ga mv:Value) (hbb:bb<n₀) (htb:tb<n₀) (hsb:sb<n₀)
 (ub uo ul uc kb ko kl kc:Nat) (ubase kbase lbase cbase:Option Addr) (ll lc cl cc:Nat) (hub:0<ul→ubase=some ⟨ub,uo,none⟩∧ub<n₀) (hkb:0<kl→kbase=some ⟨kb,ko,none⟩∧kb<n₀)
 (U K:Nat→Int×Int) (eU eL eC eK:Nat→Int)
 (hul:ul≤1000) (hll:ll≤1000) (hcl:cl≤1000) (hkl:kl≤1000)
 (W:World) (hb0:W.heap[bb]?=some (.cells #[flo,fhi,ga,.slice ubase ul uc,.slice lbase ll lc,.slice cbase cl cc,.slice kbase kl kc] te (0,0)))
 (ht:W.cell? ⟨tb,0,none⟩=some (.func (.func 188) #[] #[.pointer (some ⟨sb,0,none⟩)])) (hs:W.cell? ⟨sb,0,none⟩=some mv)
 (hU:∀j,j<ul→W.cell? ⟨ub,uo+j*2,none⟩=some (.int .i64 (U j).1)∧W.cell? ⟨ub,uo+j*2+1,none⟩=some (.int .i64 (U j).2))
 (hK:∀j,j<kl→W.cell? ⟨kb,ko+j*2,none⟩=some (.int .i64 (K j).1)∧W.cell? ⟨kb,ko+j*2+1,none⟩=some (.int .i64 (K j).2))
 (cU:∀j,j<ul→∀W',Below n₀ W W'→CallsIn Fence.wide (n-1) Tryz.prog 188 #[.int .i64 (U j).1,.int .i64 (U j).2,.pointer (some ⟨sb,0,none⟩)] W' fun e W''=>e=.returned (.int .i64 (eU j))∧W'.grownBy W'' none)
 (cK:∀j,j<kl→∀W',Below n₀ W W'→CallsIn Fence.wide (n-1) Tryz.prog 188 #[.int .i64 (K j).1,.int .i64 (K j).2,.pointer (some ⟨sb,0,none⟩)] W' fun e W''=>e=.returned (.int .i64 (eK j))∧W'.grownBy W'' none)
 (cL:∀j,j<ll→∀W',Below n₀ W W'→CallsIn Fence.wide (n-1) Tryz.prog 192 #[.agg #[flo,fhi,ga,.slice ubase ul uc,.slice lbase ll lc,.slice cbase cl cc,.slice kbase kl kc],mv,.int .i64 j] W' fun e W''=>e=.returned (.int .i64 (eL j))∧W'.grownBy W'' none)
 (cC:∀j,j<cl→∀W',Below n₀ W W'→CallsIn Fence.wide (n-1) Tryz.prog 193 #[.agg #[flo,fhi,ga,.slice ubase ul uc,.slice lbase ll lc,.slice cbase cl cc,.slice kbase kl kc],mv,.int .i64 j] W' fun e W''=>e=.returned (.int .i64 (eC j))∧W'.grownBy W'' none)
 (J Jx:List Int→World→Prop) (hJ:∀pre W W',J pre W→W.grownBy W' none→J pre W') (hJx:∀pre W W',Jx pre W→W.grownBy W' none→Jx pre W')
 (hY:∀pre x W,J pre W→pre.length<ul+(ll+(cl+kl))→YieldAt Fence.wide (n-1) Tryz.prog l #[.int .i64 x] W fun e W' =>
  (e=.returned (.bool true)∧J (pre++[x]) W'∧Below n₀ W W')∨(e=.returned (.bool false)∧Jx (pre++[x]) W'))
 (h0 : J [] W) (hn₀ : n₀ ≤ W.heap.size) :
  CallsIn Fence.wide n Tryz.prog 191 #[.func (.yield l) #[] #[],.pointer (some ⟨bb,0,none⟩),.pointer (some ⟨tb,0,none⟩),.pointer (some ⟨sb,0,none⟩)] W fun e W'=>(∃v,e=.returned v) ∧
   ((∃xs,xs=upE eU ul++(upE eL ll++(upE eC cl++upE eK kl))∧J xs W')∨(∃pre,(pre <+: upE eU ul++(upE eL ll++(upE eC cl++upE eK kl)))∧Jx pre W')):=by
 have grown_alloc:∀(X:World) (o:Obj),X.grownBy (X.alloc o) none:=fun X o=>World.grownBy_alloc X o none
 have bel:∀{X Y:World},Below n₀ W X→X.grownBy Y none→Below n₀ W Y:=fun {X Y} h g =>
  ⟨g.os.trans h.os,g.tape.trans h.tape,g.output.trans h.output,dG h.size g.size,fun k hk=>(g.block k (dC (dC hk hn₀) h.size) (by simp)).trans (h.block k hk)⟩
 have hc:∀{X:World},Below n₀ W X→X.heap[bb]?=some (.cells #[flo,fhi,ga,.slice ubase ul uc,.slice lbase ll lc,.slice cbase cl cc,.slice kbase kl kc] te (0,0)):=fun h=>(h.block bb hbb).trans hb0;refine callsIn_of_wp Tryz.func191 rfl trivial ?_ rfl;simp only[Tryz.ntmps191,eS,df,dt,Nat.reduceAdd,Nat.reduceSub,Array.replicate_succ,Array.replicate_zero,List.push_toArray,gx,gg,eP]
 have hb3:W.cell? ⟨bb,3,none⟩=some (.slice ubase ul uc):=by simp[World.cell?,hb0]
 gi_wp2
 gi_loopw [14] (fun i wr=>∃k:Nat,k≤ul∧i=.int .i64 k∧J (upE eU k) wr∧Below n₀ W wr)
  (fun i _=>ul-(intOf i).toNat)
 case atStart=>exact⟨0,ej _,rfl,h0,Below.refl _ _⟩
 case round =>
  obtain⟨k,hk,rfl,hJs,hnx⟩:=hrel
  by_cases hlt:k<ul
  ·obtain⟨rfl,hlu⟩:=hub (by omega);have hu1:=(hnx.cell (p:=⟨ub,uo+k*2,none⟩) hlu).trans (hU k hlt).1;have hu2:=(hnx.cell (p:=⟨ub,uo+k*2+1,none⟩) hlu).trans (hU k hlt).2;have ht':=(hnx.cell (p:=⟨tb,0,none⟩) htb).trans ht;have hta:∀o,(wr.alloc o).cell? ⟨tb,0,none⟩=some (.func (.func 188) #[] #[.pointer (some ⟨sb,0,none⟩)]):=fun o=>Lib.cell?_alloc_some _ ht'
   gi_wp2
   refine⟨trivial,(cU k hlt _ (bel hnx (grown_alloc _ _))).mono ?_⟩;rintro e W2 ⟨rfl,hg2⟩;obtain⟨fn,tmps,assign,body,hy,hR⟩:=hY _ (eU k) W2 (hJ _ _ _ (hJ _ _ _ hJs (grown_alloc _ _)) hg2) (by rw[AR]; omega);have hb2:=bel (bel hnx (grown_alloc _ _)) hg2
   gi_wp2
   refine hR.mono ?_;rintro e W3 (⟨rfl,hJ3,hk3⟩|⟨rfl,hJx3⟩)
   ·gi_wp2
    go_roundw
    case rel=>exact⟨k+1,by omega,by simp,by rw[rq]; exact hJ3,hb2.trans hk3⟩
    case measure=>simp[intOf]; omega
   ·gi_wp2
    refine bodyPost_ret (results_none rfl _ _ _) rfl ?_;refine⟨⟨_,rfl⟩,.inr ⟨_,?_,hJx3⟩⟩;rw[←rq];exact(Ob eU (by omega)).trans (eE _ _)
  ·obtain rfl:ul=k:=by omega
   have hb4:wr.cell? ⟨bb,4,none⟩=some (.slice lbase ll lc):=by simp[World.cell?,hc hnx]
   gi_wp2
   gi_loopw [31] (fun i wr=>∃k:Nat,k≤ll∧i=.int .i64 k∧J (upE eU ul++upE eL k) wr∧Below n₀ W wr)
    (fun i _=>ll-(intOf i).toNat)
   case atStart=>exact⟨0,ej _,rfl,by simpa[upE] using hJs,hnx⟩
   case round =>
    clear hJs hnx;obtain⟨k,hk,rfl,hJs,hnx⟩:=hrel
    by_cases hlt:k<ll
    ·have q0:wr.cell? ⟨bb,0,none⟩=some flo:=by simp[World.cell?,hc hnx]
     have q1:wr.cell? ⟨bb,1,none⟩=some fhi:=by simp[World.cell?,hc hnx]
     have q2:wr.cell? ⟨bb,2,none⟩=some ga:=by simp[World.cell?,hc hnx]
     have q3:wr.cell? ⟨bb,3,none⟩=some (.slice ubase ul uc):=by simp[World.cell?,hc hnx]
     have q4:wr.cell? ⟨bb,4,none⟩=some (.slice lbase ll lc):=by simp[World.cell?,hc hnx]
     have q5:wr.cell? ⟨bb,5,none⟩=some (.slice cbase cl cc):=by simp[World.cell?,hc hnx]
     have q6:wr.cell? ⟨bb,6,none⟩=some (.slice kbase kl kc):=by simp[World.cell?,hc hnx]
     have hs':=(hnx.cell (p:=⟨sb,0,none⟩) hsb).trans hs
     gi_wp2
     refine⟨trivial,(cL k hlt _ hnx).mono ?_⟩;rintro e W2 ⟨rfl,hg2⟩;obtain⟨fn,tmps,assign,body,hy,hR⟩:=hY _ (eL k) W2 (hJ _ _ _ hJs hg2) (by simp only[cW,AR]; omega);have hb2:=bel hnx hg2
     gi_wp2
     refine hR.mono ?_;rintro e W3 (⟨rfl,hJ3,hk3⟩|⟨rfl,hJx3⟩)
     ·gi_wp2
      go_roundw
      case rel=>exact⟨k+1,by omega,by simp,by rw[rq,←dl]; exact hJ3,hb2.trans hk3⟩
      case measure=>simp[intOf]; omega
     ·gi_wp2
      refine bodyPost_ret (results_none rfl _ _ _) rfl ?_;refine⟨⟨_,rfl⟩,.inr ⟨_,?_,hJx3⟩⟩;rw[dl,←rq];exact(eM _).2 ((Ob eL (by omega)).trans (eE _ _))
    ·obtain rfl:ll=k:=by omega
     have hb5:wr.cell? ⟨bb,5,none⟩=some (.slice cbase cl cc):=by simp[World.cell?,hc hnx]
     gi_wp2
     gi_loopw [45] (fun i wr=>∃k:Nat,k≤cl∧i=.int .i64 k∧J (upE eU ul++upE eL ll++upE eC k) wr∧Below n₀ W wr)
      (fun i _=>cl-(intOf i).toNat)
     case atStart=>exact⟨0,ej _,rfl,by simpa[upE] using hJs,hnx⟩
     case round =>
      clear hJs hnx;obtain⟨k,hk,rfl,hJs,hnx⟩:=hrel
      by_cases hlt:k<cl
      ·have q0:wr.cell? ⟨bb,0,none⟩=some flo:=by simp[World.cell?,hc hnx]
       have q1:wr.cell? ⟨bb,1,none⟩=some fhi:=by simp[World.cell?,hc hnx]
       have q2:wr.cell? ⟨bb,2,none⟩=some ga:=by simp[World.cell?,hc hnx]
       have q3:wr.cell? ⟨bb,3,none⟩=some (.slice ubase ul uc):=by simp[World.cell?,hc hnx]
       have q4:wr.cell? ⟨bb,4,none⟩=some (.slice lbase ll lc):=by simp[World.cell?,hc hnx]
       have q5:wr.cell? ⟨bb,5,none⟩=some (.slice cbase cl cc):=by simp[World.cell?,hc hnx]
       have q6:wr.cell? ⟨bb,6,none⟩=some (.slice kbase kl kc):=by simp[World.cell?,hc hnx]
       have hs':=(hnx.cell (p:=⟨sb,0,none⟩) hsb).trans hs
       gi_wp2
       refine⟨trivial,(cC k hlt _ hnx).mono ?_⟩;rintro e W2 ⟨rfl,hg2⟩;obtain⟨fn,tmps,assign,body,hy,hR⟩:=hY _ (eC k) W2 (hJ _ _ _ hJs hg2) (by simp only[cW,AR]; omega);have hb2:=bel hnx hg2
       gi_wp2
       refine hR.mono ?_;rintro e W3 (⟨rfl,hJ3,hk3⟩|⟨rfl,hJx3⟩)
       ·gi_wp2
        go_roundw
        case rel=>exact⟨k+1,by omega,by simp,by rw[rq,←dl]; exact hJ3,hb2.trans hk3⟩
        case measure=>simp[intOf]; omega
       ·gi_wp2
        refine bodyPost_ret (results_none rfl _ _ _) rfl ?_;refine⟨⟨_,rfl⟩,.inr ⟨_,?_,hJx3⟩⟩;rw[dl,←rq]
        exact by rw[dl]; exact(eM _).2 ((eM _).2 ((Ob eC (by omega)).trans (eE _ _)))
      ·obtain rfl:cl=k:=by omega
       have hb6:wr.cell? ⟨bb,6,none⟩=some (.slice kbase kl kc):=by simp[World.cell?,hc hnx]
       gi_wp2
       gi_loopw [59] (fun i wr=>∃k:Nat,k≤kl∧i=.int .i64 k∧J ((upE eU ul++upE eL ll++upE eC cl)++upE eK k) wr∧Below n₀ W wr)
        (fun i _=>kl-(intOf i).toNat)
       case atStart=>exact⟨0,ej _,rfl,by simpa[upE] using hJs,hnx⟩
       case round =>
        clear hJs hnx;obtain⟨k,hk,rfl,hJs,hnx⟩:=hrel
        by_cases hlt:k<kl
        ·obtain⟨rfl,hlk⟩:=hkb (by omega);have hu1:=(hnx.cell (p:=⟨kb,ko+k*2,none⟩) hlk).trans (hK k hlt).1;have hu2:=(hnx.cell (p:=⟨kb,ko+k*2+1,none⟩) hlk).trans (hK k hlt).2;have ht':=(hnx.cell (p:=⟨tb,0,none⟩) htb).trans ht;have hta:∀o,(wr.alloc o).cell? ⟨tb,0,none⟩=some (.func (.func 188) #[] #[.pointer (some ⟨sb,0,none⟩)]):=fun o=>Lib.cell?_alloc_some _ ht'
         gi_wp2
         refine⟨trivial,(cK k hlt _ (bel hnx (grown_alloc _ _))).mono ?_⟩;rintro e W2 ⟨rfl,hg2⟩;obtain⟨fn,tmps,assign,body,hy,hR⟩:=hY _ (eK k) W2 (hJ _ _ _ (hJ _ _ _ hJs (grown_alloc _ _)) hg2) (by simp only[cW,AR]; omega);have hb2:=bel (bel hnx (grown_alloc _ _)) hg2
         gi_wp2
         refine hR.mono ?_;rintro e W3 (⟨rfl,hJ3,hk3⟩|⟨rfl,hJx3⟩)
         ·gi_wp2
          go_roundw
          case rel=>exact⟨k+1,by omega,by simp,by rw[rq,←dl]; exact hJ3,hb2.trans hk3⟩
          case measure=>simp[intOf]; omega
         ·gi_wp2
          refine bodyPost_ret (results_none rfl _ _ _) rfl ?_;refine⟨⟨_,rfl⟩,.inr ⟨_,?_,hJx3⟩⟩;rw[dl,←rq,dl,dl];exact(eM _).2 ((eM _).2 ((eM _).2 (Ob eK (by omega))))
        ·obtain rfl:kl=k:=by omega
         gi_wp2
         go_end0
         exact⟨⟨_,rfl⟩,.inl ⟨_,rfl,by simpa[dl] using hJs⟩⟩
end Go.Proofs
end

noncomputable section
set_option maxRecDepth 100000
namespace Go.Proofs.ZzM
open Go Go.Am Go.RowKit
def agI (p:String):Code:=.region 10 #[{dst:=some 5,op:=.assign (.tmp 49),type:=35,pos:=p,after:=#[],guard:=none}] false
def aoC (q r:String):Code:=.block 1 (.seq (.region 11 #[{dst:=some 50,op:=.move (.tmp 5),type:=35,pos:=q,after:=#[],guard:=none},{dst:=some 51,op:=.binOp .neq 35 (.tmp 50) (.const (.int .i64 0)) 35,type:=4,pos:=q,after:=#[{on:=0,ground:=.data}],guard:=none}] false)
 (.cond (.tmp 51) (.seq (.region 12 #[{dst:=some 52,op:=.move (.tmp 5),type:=35,pos:=r,after:=#[],guard:=none},{dst:=none,op:=.store 35 (.tmp 2) (.tmp 52),type:=0,pos:=r,after:=#[{on:=0,ground:=.data},{on:=0,ground:=.phase}],guard:=none}] false) .ret) .skip))
section
variable {P:Program} {F:Fence} {n:Nat}
def FI {ops:Array Oper} {i d:Nat} {o:Oper} {u:Value} {w w':World} {a:Act} {next:Act→World→Prop} {Q:Exit→Act→World→Prop} (hF:∀f,F.fn f) (ho:ops[i]?=some o) (hg:o.guard=none) (hd:o.dst=some d) (hdf:∀c,o.op≠.defer c)
 (hrun:(execOp a.eval o).run P w=.ok (.value u) w') (k:next (a.put (some d) u) w'):wpOpIn F n P ops Q i next a w:=by
 unfold wpOpIn;rw[ho]
 have hw:Region.wanted o (yielded ops a.tmps)=true:=by simp[Region.wanted,hg]
 simp only[hw,if_true];refine⟨fun _ _=>hF _,?_⟩;rw[Oper.semAt_eq _ _ _ hdf,hrun];rw[←hd] at k;exact k
def aik {ops:Array Oper} {i:Nat} {o:Oper} {w w':World} {a:Act} {next:Act→World→Prop} {Q:Exit→Act→World→Prop} (hF:∀f,F.fn f) (ho:ops[i]?=some o) (hg:o.guard=none) (hd:o.dst=none) (hdf:∀c,o.op≠.defer c)
 (hrun:(execOp a.eval o).run P w=.ok .skip w') (k:next a w'):wpOpIn F n P ops Q i next a w:=by
 unfold wpOpIn;rw[ho]
 have hw:Region.wanted o (yielded ops a.tmps)=true:=by simp[Region.wanted,hg]
 simp only[hw,if_true];refine⟨fun _ _=>hF _,?_⟩;rw[Oper.semAt_eq _ _ _ hdf,hrun];show next (a.put o.dst undef) w';rw[hd];exact k
end
def jT (T:Array Value) (i j:Nat) (v:Value):(T.setIfInBounds i v).getD j undef=if i=j∧i<T.size then v else T.getD j undef:=by
 simp only[dP,fh]
 by_cases h:i=j
 ·subst h
  by_cases h2:i<T.size
  ·simp[h2]
  ·simp[h2]
 ·simp[h]
def ag6 (D:Nat):Deferred:={target:=.collected D,args:=#[]}
structure Put1 (n₀ rb:Nat) (x:Int) (w W:World):Prop where
 os:W.os=w.os
 tape:W.tape=w.tape
 output:W.output=w.output
 size:w.heap.size≤W.heap.size
 block:∀k,k<n₀→k≠rb→W.heap[k]?=w.heap[k]?
 cell:∃e,W.heap[rb]?=some (.cells #[.int .i64 x] e (0,0))
set_option maxHeartbeats 4000000 in
def ao8 {a:Act} {w:World} {Q:Exit→Act→World→Prop} {lb:Array Value} {L:List Int} {rb:Nat} {e0:TypeId} {v0:Value} {p q r:String}
 (hseq:SeqStopsK Fence.wide 1 Tryz.prog 191 lb (fun x:Int=>#[.int .i64 x]) (Below w.heap.size) (fun xs=>xs=L) (fun pre=>pre <+: L) L.length w)
 (hg:a.tmps.getD 48 undef=.func (.func 191) #[] lb) (h2:a.tmps.getD 2 undef=.pointer (some ⟨rb,0,none⟩)) (hsz:78≤a.tmps.size)
 (hrb:w.heap[rb]?=some (.cells #[v0] e0 (0,0)))
 (hdone:∀D W,(∀x∈L,x=0)→Below w.heap.size w W→w.heap.size≤D→W.heap[D]?=some (.deferred (some []))→Q .normal {a with defers:=ag6 D::a.defers} W)
 (hstop:∀D W x,L.find? (fun e=>e != 0)=some x→Put1 w.heap.size rb x w W→w.heap.size≤D→W.heap[D]?=some (.deferred (some []))→Q .ret {a with defers:=ag6 D::a.defers} W) :
 (Code.rangeFunc (.tmp 48) #[49] (agI p) (aoC q r)).wpIn Fence.wide 2 Tryz.prog Q a w:=by
 have hT:∀f,Fence.wide.fn f:=fun _=>trivial;have hrl:=Ĝ hrb
 refine wpIn_rangeFunc_ownF (α:=Int) (encs:=fun x=>#[.int .i64 x]) (Kp:=Below w.heap.size) (S:=fun xs=>xs=L) (Sp:=fun pre=>pre <+: L) (N:=L.length) (w0:=w) rfl (by omega) hg trivial (fun args w=>?eg) hseq
  (fun h k=>h.trans k) (fun W l o o' hl ho hc hw=>belowK_b (cQ _) W l o o' hl ho hc hw) (Below.refl _ _) (fun _=>rfl)
  (fun pre W=>(∀x∈pre,x=0)∧Below w.heap.size w W)
  (fun c pre W=>c=.ret∧∃pre' x,pre=pre'++[x]∧(∀x∈pre',x=0)∧x≠0∧Put1 w.heap.size rb x w W)
  ?hI ?hIx ⟨by simp,Below.refl _ _⟩ (fun x=>{tmps:=(a.tmps.setIfInBounds 49 (.int .i64 x)).setIfInBounds 5 (.int .i64 x),defers:=[]}) ?hassign ?hbody ?hdone ?hstop
 case eg=>simp[callFunc,Sem.run_bind,run_program,Result.andThen_ok,Tryz.func191,plain 191 _ Tryz.func191,show Tryz.f191.body.isNone=false from rfl]; rfl
 case hI =>
  intro s W W' row ⟨h1,h2⟩ hgr hr;exact⟨h1,hgr.os.trans h2.os,hgr.tape.trans h2.tape,hgr.output.trans h2.output,dG h2.size hgr.size,fun k hk=>(hgr.block k (dC hk h2.size) (fun e=>by have:=(hr k e.symm).1; omega)).trans (h2.block k hk)⟩
 case hIx =>
  intro c s W W' row ⟨h1,pre',x,h3,h4,h5,h6⟩ hgr hr;have hb:∀k,k<w.heap.size→W'.heap[k]?=W.heap[k]?:=fun k hk=>hgr.block k (dC hk h6.size) (fun e=>by have:=(hr k e.symm).1; omega)
  exact⟨h1,pre',x,h3,h4,h5,hgr.os.trans h6.os,hgr.tape.trans h6.tape,hgr.output.trans h6.output,dG h6.size hgr.size,fun k hk hne=>(hb k hk).trans (h6.block k hk hne),by
   obtain⟨e,he⟩:=h6.cell
   exact⟨e,(hb rb hrl).trans he⟩⟩
 case hassign =>
  intro l x W K hK
  have hf:((#[49]:Array Tmp).zip #[Value.int .i64 x]).foldl (fun t (p,v)=>t.setIfInBounds p v) a.tmps=a.tmps.setIfInBounds 49 (.int .i64 x):=by simp
  rw[hf];refine wpIn_region ?_;rw[show ∀o:Oper,List.range (#[o]:Array Oper).size=[0] from fun _=>rfl,wpOpsIn_cons];refine FI (d:=5) (u:=.int .i64 x) (w':=W) hT rfl rfl rfl (by simp) ?_ hK;show Result.ok (Next.value ((a.tmps.setIfInBounds 49 (.int .i64 x)).getD 49 undef)) W=_;rw[jT,if_pos ⟨rfl,by omega⟩]
 case hbody =>
  intro l pre x W ⟨h1,hbel⟩ hpre;refine wpIn_block (wpIn_seq (wpIn_region ?_));rw[show ∀o p:Oper,List.range (#[o,p]:Array Oper).size=[0,1] from fun _ _=>rfl,wpOpsIn_cons]
  refine FI (d:=50) (u:=.int .i64 x) (w':=W) hT rfl rfl rfl (by simp) (by
   show Result.ok (Next.value (((a.tmps.setIfInBounds 49 (.int .i64 x)).setIfInBounds 5 (.int .i64 x)).getD 5 undef)) W=_
   rw[jT,if_pos ⟨rfl,by simp; omega⟩]) ?_
  rw[wpOpsIn_cons]
  refine FI (d:=51) (u:=.bool (x != 0)) (w':=W) hT rfl rfl rfl (by simp) (by
   show((do let u ←(do eqGuard .neq 35 (.tmp 50) (.const (.int .i64 0)) ((((a.tmps.setIfInBounds 49 (.int .i64 x)).setIfInBounds 5 (.int .i64 x)).setIfInBounds 50 (.int .i64 x)).getD 50 undef) (.int .i64 0); binOp .neq 35 ((((a.tmps.setIfInBounds 49 (.int .i64 x)).setIfInBounds 5 (.int .i64 x)).setIfInBounds 50 (.int .i64 x)).getD 50 undef) (.int .i64 0)); pure (.value u)):Sem Next).run Tryz.prog W=_;rw[jT,if_pos ⟨rfl,by simp; omega⟩]
   simp[eqGuard,binOp,Op.intCmp]) ?_
  show Code.wpIn (Fence.wide.inRound l) (2-1-1) Tryz.prog (Code.cond (.tmp 51) _ .skip) _ {tmps:=((((a.tmps.setIfInBounds 49 (.int .i64 x)).setIfInBounds 5 (.int .i64 x)).setIfInBounds 50 (.int .i64 x)).setIfInBounds 51 (.bool (x != 0))),defers:=[]} W;obtain⟨T,hTd⟩:∃T,T=((((a.tmps.setIfInBounds 49 (.int .i64 x)).setIfInBounds 5 (.int .i64 x)).setIfInBounds 50 (.int .i64 x)).setIfInBounds 51 (.bool (x != 0))):=⟨_,rfl⟩;rw[←hTd]
  have t51:T.getD 51 undef=.bool (x != 0):=by rw[hTd,jT,if_pos ⟨rfl,by simp; omega⟩]
  have t5:T.getD 5 undef=.int .i64 x:=by rw[hTd,jT,if_neg (by simp),jT,if_neg (by simp),jT,if_pos ⟨rfl,by simp; omega⟩]
  have t2:T.getD 2 undef=.pointer (some ⟨rb,0,none⟩):=by rw[hTd,jT,if_neg (by simp),jT,if_neg (by simp),jT,if_neg (by simp),jT,if_neg (by simp),h2]
  have tsz:78≤T.size:=by rw[hTd]; simpa using hsz
  clear hTd
  by_cases hx:x=0
  ·have e51:Act.eval {tmps:=T,defers:=[]} (.tmp 51)=.bool false:=t51.trans (by simp[hx]);refine wpIn_cond_false e51 (wpIn_skip ?_);simp only[Exit.inBlock,ownPostK];exact⟨KeepsOthers.refl _,Below.refl _ _,fun y hy=>(cX.1 hy).elim (h1 y) (fun h=>by rw[dg] at h; rw[h,hx]),hbel⟩
  ·have e51:Act.eval {tmps:=T,defers:=[]} (.tmp 51)=.bool true:=t51.trans (by simp[hx]);refine wpIn_cond_true e51 (wpIn_seq (wpIn_region ?_));rw[show ∀o p:Oper,List.range (#[o,p]:Array Oper).size=[0,1] from fun _ _=>rfl,wpOpsIn_cons]
   have e5:(execOp (Act.eval {tmps:=T,defers:=[]}) {dst:=some 52,op:=.move (.tmp 5),type:=35,pos:=r,after:=#[],guard:=none}).run Tryz.prog W=.ok (.value (.int .i64 x)) W:=by
    show Result.ok (Next.value (T.getD 5 undef)) W=_;rw[t5]
   refine FI (d:=52) (u:=.int .i64 x) (w':=W) hT rfl rfl rfl (by simp) e5 ?_;rw[wpOpsIn_cons];have hW:W.heap[rb]?=some (.cells #[v0] e0 (0,0)):=(hbel.block rb hrl).trans hrb
   letI:þ:=⟨fun _=>False,[],none⟩
   have hst:=ru (P:=Tryz.prog) (w:=W) (t:=35) (u:=.int .i64 x) (n:=1) (b:=rb) (o:=0) (by kernel_rfl) rfl hW (by simp) (by simp[Value.cells,Value.oneCell'])
   have hst':(storeVar 35 ⟨rb,0,none⟩ (.int .i64 x)).run Tryz.prog W=.ok () (W.setRow rb #[.int .i64 x]):=by simpa[Value.cells] using hst
   have t52:(T.setIfInBounds 52 (.int .i64 x)).getD 52 undef=.int .i64 x:=by rw[jT,if_pos ⟨rfl,by omega⟩]
   have t2':(T.setIfInBounds 52 (.int .i64 x)).getD 2 undef=.pointer (some ⟨rb,0,none⟩):=by rw[jT,if_neg (by simp),t2]
   have e6:(execOp (Act.eval {tmps:=T.setIfInBounds 52 (.int .i64 x),defers:=[]}) {dst:=none,op:=.store 35 (.tmp 2) (.tmp 52),type:=0,pos:=r,after:=#[{on:=0,ground:=.data},{on:=0,ground:=.phase}],guard:=none}).run Tryz.prog W=.ok .skip (W.setRow rb #[.int .i64 x]):=by
    show((do Instr.storeAt 35 ((T.setIfInBounds 52 (.int .i64 x)).getD 2 undef) ((T.setIfInBounds 52 (.int .i64 x)).getD 52 undef); pure .skip):Sem Next).run Tryz.prog W=_;rw[t52,t2'];simp[Instr.storeAt,Instr.sureAddr,hst']
   refine aik (w':=W.setRow rb #[.int .i64 x]) hT rfl rfl rfl (by simp) e6 ?_;refine wpIn_ret ?_;simp only[Exit.inBlock,ownPostK];refine⟨⟨by simp,fun k o hk ho=>?_⟩,trivial,pre,x,rfl,h1,hx,hbel.os,hbel.tape,hbel.output,by simpa using hbel.size,fun k hk hne=>(setRow_other _ _ _ _ hne).trans (hbel.block k hk),⟨_,setRow_heap _ _ _ _ _ _ hW⟩⟩
   by_cases hk2:k=rb
   ·subst hk2; rw[hW] at hk; cases hk; simp[Obj.isCells] at ho
   ·rw[setRow_other _ _ _ _ hk2]; exact hk
 case hdone =>
  intro D xs W hD hS ⟨h1,hbel⟩ hDo;subst hS;exact hdone D W h1 hbel hD hDo
 case hstop =>
  intro D c pre W hD hS ⟨hc,pre',x,h3,h4,h5,h6⟩ hDo;subst hc;refine wpIn_ret (hstop D W x ?_ h6 hD hDo);obtain⟨t,rfl⟩:=hS;rw[h3,dl,List.find?_append]
  have:List.find? (fun e=>e != 0) pre'=none:=eA.2 fun y hy=>by simp[h4 y hy]
  rw[this];simp[h5]
end Go.Proofs.ZzM
end

noncomputable section
set_option maxRecDepth 100000
namespace Go.Proofs.ZzM
open Go Go.Am Go.RowKit
def fstC:Code→Code
 |.seq a _=>a
 |c=>c
def sndC:Code→Code
 |.seq _ b=>b
 |c=>c
def aki:Nat→Code→Code
 |0,c=>fstC c
 |n+1,c=>aki n (sndC c)
def anO:Nat→Code→Code
 |0,c=>c
 |n+1,c=>anO n (sndC c)
def ckB:Code:=Tryz.f66.body.getD .skip
def ckA5:Code:=fstC (anO 5 ckB |> fstC)
def ckRF:Code:=sndC (anO 5 ckB |> fstC)
def WE:Code:=sndC (anO 5 ckB)
def ckPre:Code:=.seq (aki 0 ckB) (.seq (aki 1 ckB) (.seq (aki 2 ckB) (.seq (aki 3 ckB) (.seq (aki 4 ckB) ckA5))))
def aoT:Tryz.f66.body=some (.seq (aki 0 ckB) (.seq (aki 1 ckB) (.seq (aki 2 ckB) (.seq (aki 3 ckB) (.seq (aki 4 ckB) (.seq (.seq ckA5 ckRF) WE)))))):=by kernel_rfl
def ck_pt:List (Nat×Ü):=[(135,FG),(133,DX),(131,tX),(132,yv)]
def ckE (ρ:Type):Env ρ:=Ý ck_pt []
abbrev ckR:Type:=Int ⊕ (List AV×List Blk)
def alC (S:St):Option Int:=match qo Tryz.prog Tryz.f66 S with
 |some v=>Ċ [tI] S.h v
 |none=>none
def ckK (e:Exit) (S:St):Option ckR:=match e with
 |.ret=>match alC S with
  |some n=>some (.inl n)
  |none=>none
 |.normal=>match decide (78≤S.t.length) with
  |true=>some (.inr ([lk S.t 1,lk S.t 2,lk S.t 48],S.h))
  |false=>none
 |_=>none
def ckH (x:Val Å) (s:Val (.map tI Ó)) (n:Int):List Blk :=
 [.cells (flat Å x),.cells [.int .i64 n],.cells (flat Å x),.cells [.mp tI Ó s],.cells [.fn (.func 188) [] [.box 3 0]]]
def ckM (x:Val Å):Option ckR :=
 Ã (ε x.1 (0:Int) (1000000:Int)) fun r1=>ifb (!r1) (some (.inl 1)) (ifb (igt (Û x.2.1) (12:Int)) (some (.inl 2)) (ifb (igt (Û x.2.2.1) (40:Int)) (some (.inl 2)) (ifb (igt (Û x.2.2.2.1) (12:Int)) (some (.inl 2)) (ifb (igt (Û x.2.2.2.2.1) (40:Int)) (some (.inl 2)) (ifb (igt (Û x.2.2.2.2.2) (10:Int)) (some (.inl 2))
  (Ã (Κ x) fun r2=>ifb (ine r2 (0:Int)) (some (.inl r2)) (Ã (hO x) fun r3=>some (.inr ([.box 0 0,.box 1 0,.fn (.func 191) [] [.box 2 0,.box 4 0,.box 3 0]],ckH x r3 0)))))))))
def ck_pre (x:Val Å):goC (ckE ckR) (kr (ckE ckR) 10) 66 [] 0 0 ckPre {t:=ą [Å] x++List.replicate 77 .any,h:=[]} ckK=ckM x:=by kernel_rfl
def an1 (ρ:Type):Env ρ:={ckE ρ with inl:=fun _=>false}
def ckS (x:Val Å):Option Int :=
 Ã (re x) fun r5=>ifb (igt (Û r5) (59:Int)) (some (2:Int)) (ck ((2:Int)*(Û x.2.1)) fun n6=>ck ((Û r5)-(Û x.2.1)) fun n7=>ck ((2:Int)*n7) fun n8=>ck (n6+n8) fun n9=>ck ((2:Int)*(Û x.2.2.2.2.1)) fun n10=>ck (n9+n10) fun n11=>ifb (igt n11 (300:Int)) (some (2:Int)) (some (0:Int)))
def ckK2 (e:Exit) (S:St):Option Int:=match e with
 |.ret=>match lk S.t 2 with
  |.box 1 0=>match lkB S.h 1 with
   |.cells [.int .i64 n]=>some n
   |_=>none
  |_=>none
 |_=>none
def ck_suf (x:Val Å) (s:Val (.map tI Ó)):goC (an1 Int) (kr (an1 Int) 10) 66 [] 0 0 WE {t:=[.any,.box 0 0,.box 1 0]++List.replicate 75 .any,h:=ckH x s 0} ckK2=ckS x:=by kernel_rfl
def an0 (x:Val Å):Ą x=match ckM x with
 |none=>none
 |some (.inl n)=>some n
 |some (.inr _)=>Ã (hO x) fun s=>aaM (om x s) some (ckS x):=by
 unfold Ą RO ckM ckS
 cases ε x.1 (0:Int) (1000000:Int) with
 |none=>rfl
 |some r1 =>
 cases r1 with
 |false=>rfl
 |true =>
 simp only[Ã,ifb,eo]
 cases igt (Û x.2.1) (12:Int) with
 |true=>rfl
 |false =>
 cases igt (Û x.2.2.1) (40:Int) with
 |true=>rfl
 |false =>
 cases igt (Û x.2.2.2.1) (12:Int) with
 |true=>rfl
 |false =>
 cases igt (Û x.2.2.2.2.1) (40:Int) with
 |true=>rfl
 |false =>
 cases igt (Û x.2.2.2.2.2) (10:Int) with
 |true=>rfl
 |false =>
 cases Κ x with
 |none=>rfl
 |some r2 =>
 simp only
 cases ine r2 (0:Int) with
 |true=>rfl
 |false =>
 cases hO x with
 |none=>rfl
 |some r3=>rfl
def apO {x:Val Å} {q:List AV×List Blk} (h:ckM x=some (.inr q)):((x.2.2.1:List (Val Ä)).length≤1000∧(x.2.2.2.1:List (Val ő)).length≤1000∧(x.2.2.2.2.1:List (Val Ê)).length≤1000∧(x.2.2.2.2.2:List (Val Ä)).length≤1000) ∧
 ∃s,hO x=some s∧q=([.box 0 0,.box 1 0,.fn (.func 191) [] [.box 2 0,.box 4 0,.box 3 0]],ckH x s 0):=by
 unfold ckM at h
 cases h0:ε x.1 (0:Int) (1000000:Int) with
 |none=>rw[h0] at h; cases h
 |some r1 =>
 rw[h0] at h
 cases r1 with
 |false=>cases h
 |true =>
 simp only[Ã,ifb,eo] at h
 cases h1:igt (Û x.2.1) (12:Int) with
 |true=>rw[h1] at h; cases h
 |false =>
 rw[h1] at h
 cases h2:igt (Û x.2.2.1) (40:Int) with
 |true=>rw[h2] at h; cases h
 |false =>
 rw[h2] at h
 cases h3:igt (Û x.2.2.2.1) (12:Int) with
 |true=>rw[h3] at h; cases h
 |false =>
 rw[h3] at h
 cases h4:igt (Û x.2.2.2.2.1) (40:Int) with
 |true=>rw[h4] at h; cases h
 |false =>
 rw[h4] at h
 cases h5:igt (Û x.2.2.2.2.2) (10:Int) with
 |true=>rw[h5] at h; cases h
 |false =>
 rw[h5] at h
 cases h6:Κ x with
 |none=>rw[h6] at h; cases h
 |some r2 =>
 rw[h6] at h;simp only at h
 cases h7:ine r2 (0:Int) with
 |true=>rw[h7] at h; cases h
 |false =>
 rw[h7] at h
 cases h8:hO x with
 |none=>rw[h8] at h; cases h
 |some r3 =>
 rw[h8] at h
 have lt:∀{α:Type} (l:List α) (n:Nat),igt (Û l) (n:Int)=false→l.length≤n:=by
  intro α l n h;unfold Û at h;rw[Px] at h;simp only[igt,gt_iff_lt,decide_eq_false_iff_not] at h;omega
 simp only[Option.some.injEq,Sum.inr.injEq] at h;exact⟨⟨by have:=lt x.2.2.1 40 h2; omega,by have:=lt x.2.2.2.1 12 h3; omega,by have:=lt x.2.2.2.2.1 40 h4; omega,by have:=lt x.2.2.2.2.2 10 h5; omega⟩,r3,rfl,h.symm⟩
def FR {α β:Type} {f:α→Option β}:∀{l:List α} {m:List β},PB f l=some m→m.length=l.length∧∀(i:Nat) (a:α),l[i]?=some a→∃b,m[i]?=some b∧f a=some b
 |[],m,h=>by cases h; exact⟨rfl,fun i a ha=>by simp at ha⟩
 |a::l,m,h=>by
  unfold PB at h
  cases ha:f a with
  |none=>rw[ha] at h; cases h
  |some b =>
   rw[ha] at h
   cases hl:PB f l with
   |none=>rw[hl] at h; cases h
   |some m' =>
    rw[hl] at h;cases h;obtain⟨h1,h2⟩:=FR hl;refine⟨by simp[h1],fun i c hc=>?_⟩
    cases i with
    |zero=>simp at hc; subst hc; exact⟨b,by simp,ha⟩
    |succ i=>simpa using h2 i c (by simpa using hc)
def Oc (l:List Int):upE (fun j=>l[j]?.getD 0) l.length=l:=by
 unfold upE;refine List.ext_getElem (by simp) fun i h1 h2=>?_;simp at h1;simp[h1]
def CR.below {n₀:Nat} {w W:World} {av:Nat→Prop} (hb:Below n₀ w W) (hn:w.heap.size≤n₀) {t:Ty} {x:Val t} {vs:List Value} (h:CR w av t x vs):CR W av t x vs :=
 h.keep fun b hlt ha=>⟨hb.block b (dC hlt hn),ha⟩
def OY {w:World} {av:Nat→Prop} {xs:List (Int×Int)} {v:Value} (h:CR w av (.slice Ä) xs [v]):∃base cap b off,v=.slice base xs.length cap∧(0<xs.length→base=some ⟨b,off,none⟩∧b<w.heap.size) ∧
 ∀j,j<xs.length→w.cell? ⟨b,off+j*2,none⟩=some (.int .i64 (xs[j]?.getD (0,0)).1)∧w.cell? ⟨b,off+j*2+1,none⟩=some (.int .i64 (xs[j]?.getD (0,0)).2):=by
 obtain⟨base,cap,e,hc,hx⟩:=h;cases e;rcases hx with hx|⟨b,off,hb,hav,hlt,hx⟩
 ·refine⟨base,cap,0,0,rfl,fun h=>?_,fun j hj=>?_⟩
  ·rw[show xs=[] from hx] at h; simp at h
  ·rw[show xs=[] from hx] at hj; simp at hj
 ·refine⟨base,cap,b,off,rfl,fun _=>⟨hb,hlt⟩,fun j hj=>?_⟩;obtain⟨us,h1,h2⟩:=hx j xs[j] (cO hj);obtain⟨u1,u2,e1,h3,h4⟩:=h1;have e3:u1=[.int .i64 xs[j].1]:=h3;have e4:u2=[.int .i64 xs[j].2]:=h4;subst e3 e4 e1;have s:(Ä).size=2:=rfl;rw[s] at h2;have c1:=h2 0 _ rfl;have c2:=h2 1 _ rfl;rw[cO hj];exact⟨by simpa using c1,by simpa[fg] using c2⟩
end Go.Proofs.ZzM
end

noncomputable section
set_option maxRecDepth 100000
namespace Go.Proofs.ZzM
open Go Go.Am Go.RowKit
section
variable {w W W':World}
abbrev noG:Nat→Prop:=fun _=>False
def Zx (w:World) (n:Int):lp w noG tI n (.int .i64 n):=⟨[.int .i64 n],rfl,rfl⟩
def apq {sb:Nat} {mv:Value} {e:TypeId} {s:Val (.map tI Ó)} (h:w.heap[sb]?=some (.cells #[mv] e (0,0))) (hm:CR w noG (.map tI Ó) s [mv]):lp w noG (.ptr (.map tI Ó)) s (.pointer (some ⟨sb,0,none⟩)):=by
 letI:þ:=⟨fun _=>False,[],none⟩
 exact⟨[.pointer (some ⟨sb,0,none⟩)],⟨sb,0,[mv],rfl,id,Ĝ h,hm,Ő.of_cells h⟩,rfl⟩
def ao9 {y:Int} {u:Value} (h:RR w noG [tI] y u):u=.int .i64 y:=by
 obtain⟨us,h1,rfl⟩:=h;have:us=[.int .i64 y]:=h1;rw[this]; rfl
def anD (h1:∀b,b<W.heap.size→W'.heap[b]?=W.heap[b]?) (h2:W.heap.size≤W'.heap.size) (h3:W'.os=W.os) (h4:W'.tape=W.tape) (h5:W'.output=W.output):W.grownBy W' none :=
 ⟨h3,h4,h5,h2,fun b hb _=>h1 b hb⟩
def ZQ {f:Nat} {p:Ü} (hp:Ò Tryz.prog f p) (hrs:p.rs=[tI]) {x:Val (tyL p.ts)} {y:Int} (hF:p.F x=some (hrs▸(show Val (tyL [tI]) from y))) {vals:List Value} (ha:AL W noG p.ts x vals) :
 CallsIn Fence.wide 0 Tryz.prog f vals.toArray W fun e W''=>e=.returned (.int .i64 y)∧W.grownBy W'' none:=by
 obtain⟨ts,rs,F⟩:=p;dsimp only at hrs hF ha x;subst hrs;refine(hp noG x y hF W vals (fun _ h=>h.elim) ha).2.mono fun e w' ⟨u,h0,h1,h2,h3,h4,h5,h6⟩=>⟨?_,anD h2 h3 h4 h5 h6⟩;rw[h0,ao9 h1]
def aai {s:Val (.map tI Ó)} {a b y:Int} (hF:ŋ a b s=some y) {sb:Nat} {mv:Value} {e:TypeId} (h:W.heap[sb]?=some (.cells #[mv] e (0,0))) (hm:CR W noG (.map tI Ó) s [mv]) :
 CallsIn Fence.wide 0 Tryz.prog 188 #[.int .i64 a,.int .i64 b,.pointer (some ⟨sb,0,none⟩)] W fun e W''=>e=.returned (.int .i64 y)∧W.grownBy W'' none :=
 ZQ af0 rfl (x:=(a,b,s)) (y:=y) hF (vals:=[.int .i64 a,.int .i64 b,.pointer (some ⟨sb,0,none⟩)]) ⟨_,_,rfl,Zx _ _,_,_,rfl,Zx _ _,_,rfl,apq h hm⟩
def akB {mv:Value} {s:Val (.map tI Ó)} (hm:CR W noG (.map tI Ó) s [mv]):lp W noG (.map tI Ó) s mv:=⟨[mv],hm,rfl⟩
def ahI {x:Val Å} {cs:Array Value} (hb:CR W noG Å x cs.toList):lp W noG Å x (.agg cs):=⟨cs.toList,hb,by show Value.agg cs=Value.agg cs.toList.toArray; rw[Array.toArray_toList]⟩
def akN {x:Val Å} {s:Val (.map tI Ó)} {i y:Int} (hF:κ x s i=some y) {mv:Value} {cs:Array Value} (hb:CR W noG Å x cs.toList) (hm:CR W noG (.map tI Ó) s [mv]) :
 CallsIn Fence.wide 0 Tryz.prog 192 #[.agg cs,mv,.int .i64 i] W fun e W''=>e=.returned (.int .i64 y)∧W.grownBy W'' none :=
 ZQ ZW rfl (x:=(x,s,i)) (y:=y) hF (vals:=[.agg cs,mv,.int .i64 i]) ⟨_,_,rfl,ahI hb,_,_,rfl,akB hm,_,rfl,Zx _ _⟩
def adv {x:Val Å} {s:Val (.map tI Ó)} {i y:Int} (hF:ō x s i=some y) {mv:Value} {cs:Array Value} (hb:CR W noG Å x cs.toList) (hm:CR W noG (.map tI Ó) s [mv]) :
 CallsIn Fence.wide 0 Tryz.prog 193 #[.agg cs,mv,.int .i64 i] W fun e W''=>e=.returned (.int .i64 y)∧W.grownBy W'' none :=
 ZQ N7 rfl (x:=(x,s,i)) (y:=y) hF (vals:=[.agg cs,mv,.int .i64 i]) ⟨_,_,rfl,ahI hb,_,_,rfl,akB hm,_,rfl,Zx _ _⟩
end
def ql {w:World} {av:Nat→Prop} {t:Ty} {xs:List (Val t)} {vs:List Value} (h:CR w av (.slice t) xs vs):∃base cap,vs=[.slice base xs.length cap]:=by
 obtain⟨base,cap,e,_⟩:=h;exact⟨base,cap,e⟩
def am3 {x:Val Å} {s:Val (.map tI Ó)} {l1 l2 l3 l4:List Int} (h1:PB (fun u=>ŋ u.1 u.2 s) (x.2.2.1:List (Int×Int))=some l1) (h2:PB (fun i=>κ x s i) (yi (x.2.2.2.1:List (Val ő)).length)=some l2)
 (h3:PB (fun i=>ō x s i) (yi (x.2.2.2.2.1:List (Val Ê)).length)=some l3) (h4:PB (fun u=>ŋ u.1 u.2 s) (x.2.2.2.2.2:List (Int×Int))=some l4)
 (hlen:(x.2.2.1:List (Val Ä)).length≤1000∧(x.2.2.2.1:List (Val ő)).length≤1000∧(x.2.2.2.2.1:List (Val Ê)).length≤1000∧(x.2.2.2.2.2:List (Val Ä)).length≤1000)
 {w:World} {bb tb sb:Nat} {te te2 te3:TypeId} {cb:Array Value} {mv:Value} (hbb:w.heap[bb]?=some (.cells cb te (0,0))) (hbk:CR w noG Å x cb.toList) (htb:w.heap[tb]?=some (.cells #[.func (.func 188) #[] #[.pointer (some ⟨sb,0,none⟩)]] te2 (0,0)))
 (hsb:w.heap[sb]?=some (.cells #[mv] te3 (0,0))) (hmv:CR w noG (.map tI Ó) s [mv]) :
 SeqStopsK Fence.wide 1 Tryz.prog 191 #[.pointer (some ⟨bb,0,none⟩),.pointer (some ⟨tb,0,none⟩),.pointer (some ⟨sb,0,none⟩)] (fun x:Int=>#[.int .i64 x]) (Below w.heap.size) (fun xs=>xs=l1++(l2++(l3++l4))) (fun pre=>pre <+: (l1++(l2++(l3++l4)))) (l1++(l2++(l3++l4))).length w:=by
 intro l J Jx W hbel hJ hJx hY h0;obtain⟨fl,r0,e0,hfl,hr0⟩:=id hbk;obtain⟨ga,r1,e1,hga,hr1⟩:=hr0;obtain⟨us,r2,e2,hus,hr2⟩:=hr1;obtain⟨lo,r3,e3,hlo,hr3⟩:=hr2;obtain⟨co,ko,e4,hco,hko⟩:=hr3;obtain⟨f1,f2,e5,hf1,hf2⟩:=hfl;have e6:f1=[.int .i64 x.1.1]:=hf1;have e7:f2=[.int .i64 x.1.2]:=hf2;obtain⟨gab,gac,e8⟩:=ql hga;obtain⟨lob,loc,e9⟩:=ql hlo;obtain⟨cob,coc,e10⟩:=ql hco;obtain⟨usb0,usc0,e11⟩:=ql hus;obtain⟨kob0,koc0,e12⟩:=ql hko;rw[e11] at hus;rw[e12] at hko;obtain⟨usb,usc,ub,uo,e13,hub,hU⟩:=OY hus;obtain⟨kob,koc,kb,kof,e14,hkb,hK⟩:=OY hko;rw[e13] at e11;rw[e14] at e12
 have hcb:cb=#[.int .i64 x.1.1,.int .i64 x.1.2,.slice gab (x.2.1:List (Val Ó)).length gac,.slice usb (x.2.2.1:List (Val Ä)).length usc,.slice lob (x.2.2.2.1:List (Val ő)).length loc,.slice cob (x.2.2.2.2.1:List (Val Ê)).length coc,.slice kob (x.2.2.2.2.2:List (Val Ä)).length koc]:=by
  rw[←dU,e0,e1,e2,e3,e4,e5,e6,e7,e8,e9,e10,e11,e12];rfl
 obtain⟨g1,q1⟩:=FR h1;obtain⟨g2,q2⟩:=FR h2;obtain⟨g3,q3⟩:=FR h3;obtain⟨g4,q4⟩:=FR h4
 have gl2:l2.length=(x.2.2.2.1:List (Val ő)).length:=by rw[g2]; simp[yi]
 have gl3:l3.length=(x.2.2.2.2.1:List (Val Ê)).length:=by rw[g3]; simp[yi]
 have up1:upE (fun j=>l1[j]?.getD 0) (x.2.2.1:List (Val Ä)).length=l1:=by rw[←g1]; exact Oc l1
 have up2:upE (fun j=>l2[j]?.getD 0) (x.2.2.2.1:List (Val ő)).length=l2:=by rw[←gl2]; exact Oc l2
 have up3:upE (fun j=>l3[j]?.getD 0) (x.2.2.2.2.1:List (Val Ê)).length=l3:=by rw[←gl3]; exact Oc l3
 have up4:upE (fun j=>l4[j]?.getD 0) (x.2.2.2.2.2:List (Val Ä)).length=l4:=by rw[←g4]; exact Oc l4
 have at1:∀{xs:List (Int×Int)} {ls:List Int},(∀(i:Nat) (a:Int×Int),xs[i]?=some a→∃b,ls[i]?=some b∧ŋ a.1 a.2 s=some b)→∀j,j<xs.length→ŋ (xs[j]?.getD (0,0)).1 (xs[j]?.getD (0,0)).2 s=some (ls[j]?.getD 0):=by
  intro xs ls hq j hj;obtain⟨b,hb,hf⟩:=hq j xs[j] (cO hj);rw[cO hj,hb];exact hf
 have at2:∀{n:Nat} {ls:List Int} {f:Int→Option Int},(∀(i:Nat) (a:Int),(yi n)[i]?=some a→∃b,ls[i]?=some b∧f a=some b)→∀j,j<n→f (j:Int)=some (ls[j]?.getD 0):=by
  intro n ls f hq j hj;obtain⟨b,hb,hf⟩:=hq j j (by simp[yi,hj]);rw[hb]; exact hf
 have hbel':∀{W':World},Below w.heap.size W W'→Below w.heap.size w W':=fun h=>hbel.trans h;have hcell:∀{W':World} {p:Addr} {v:Value},Below w.heap.size w W'→w.cell? p=some v→p.block<w.heap.size→W'.cell? p=some v:=fun {W'} {p} {v} h hc hp=>(h.cell (p:=p) hp).trans hc;have lb:=Ĝ hbb;have lt:=Ĝ htb;have ls:=Ĝ hsb
 have:=ane te 1 (by omega) l w.heap.size bb tb sb (.int .i64 x.1.1) (.int .i64 x.1.2) (.slice gab (x.2.1:List (Val Ó)).length gac) mv lb lt ls
  ub uo (x.2.2.1:List (Val Ä)).length usc kb kof (x.2.2.2.2.2:List (Val Ä)).length koc usb kob lob cob (x.2.2.2.1:List (Val ő)).length loc (x.2.2.2.2.1:List (Val Ê)).length coc hub hkb
  (fun j=>(x.2.2.1:List (Int×Int))[j]?.getD (0,0)) (fun j=>(x.2.2.2.2.2:List (Int×Int))[j]?.getD (0,0)) (fun j=>l1[j]?.getD 0) (fun j=>l2[j]?.getD 0) (fun j=>l3[j]?.getD 0) (fun j=>l4[j]?.getD 0)
  hlen.1 hlen.2.1 hlen.2.2.1 hlen.2.2.2 W ((hbel.block bb lb).trans (by rw[hbb,hcb])) (hcell hbel (by simp[World.cell?,htb]) lt) (hcell hbel (by simp[World.cell?,hsb]) ls)
  (fun j hj=>⟨hcell hbel (hU j hj).1 (hub (by omega)).2,hcell hbel (hU j hj).2 (hub (by omega)).2⟩) (fun j hj=>⟨hcell hbel (hK j hj).1 (hkb (by omega)).2,hcell hbel (hK j hj).2 (hkb (by omega)).2⟩)
  (fun j hj W' hW=>aai (at1 q1 j hj) (((hbel' hW).block sb ls).trans hsb) (CR.below (hbel' hW) (cQ _) hmv))
  (fun j hj W' hW=>aai (at1 q4 j hj) (((hbel' hW).block sb ls).trans hsb) (CR.below (hbel' hW) (cQ _) hmv))
  (fun j hj W' hW=>akN (at2 q2 j hj) (by have:=CR.below (hbel' hW) (cQ _) hbk; rwa [hcb] at this) (CR.below (hbel' hW) (cQ _) hmv))
  (fun j hj W' hW=>adv (at2 q3 j hj) (by have:=CR.below (hbel' hW) (cQ _) hbk; rwa [hcb] at this) (CR.below (hbel' hW) (cQ _) hmv))
  J Jx (fun pre W1 W2 hj hg=>hJ pre W1 W2 none hj hg (fun r e=>by cases e)) (fun pre W1 W2 hj hg=>hJx pre W1 W2 none hj hg (fun r e=>by cases e))
  (fun pre y W1 hj hl=>hY pre y W1 hj (by simp only[cW]; omega)) h0 hbel.size
 rw[up1,up2,up3,up4] at this;exact this
end Go.Proofs.ZzM
end

noncomputable section
set_option maxRecDepth 100000
namespace Go.Proofs.ZzM
open Go Go.Am Go.RowKit
section
variable [þ] {ρ:Type} {ν:Nat→Value} {w:World}
def peel (hq:þ.Q=none) {E:Env ρ} {call:List Nat→Bool→Nat→List AV→List Blk→(AV→List Blk→Option ρ)→Option ρ} {L:Nat} (hE:mg E L call) (hD:mA E L call) (hj:E.joins=fun _ _ _ _=>none) {fid:Nat} {path:List Nat} (hp:path.length+2=L) {x y c:Code} {bid n:Nat} {S:St} {K:Exit→St→Option ρ} {r:ρ} {a:Act} {Q:Exit→Act→World→Prop}
 (hL:∀z∈ö bid x,pd E path fid z.1 z.2) (e:goC E call fid path 0 bid (.seq x y) S K=some r) (H:Sim ν S a w)
 (hn:∀ν' S' a' w',Sim ν' S' a' w'→Ev 0 ν S.h w ν' S'.h w'→goC E call fid path 0 bid y S' K=some r→c.wpIn Fence.wide n E.P Q a' w')
 (hx:∀ν' S' a' w' e,e≠.normal→Sim ν' S' a' w'→Ev 0 ν S.h w ν' S'.h w'→K e S'=some r→Q e a' w'):(Code.seq x c).wpIn Fence.wide n E.P Q a w:=by
 simp only[goC,hj] at e;have hgo:=lY hE hD hp x bid S _ ν a w hL e H (ej _);rw[Ix hq] at hgo;refine wpIn_seq (wpIn_wide.2 (wpIn_wide.1 (wpIn_mono hgo fun e' a' w' ha=>?_)));obtain⟨ν',S',h1,h2,h3,h4,h5⟩:=ha
 cases e' with
 |normal=>exact hn ν' S' a' w' h1 h2 h5
 |exit id=>exact hx ν' S' a' w' _ (by simp) h1 h2 h5
 |goto l=>exact hx ν' S' a' w' _ (by simp) h1 h2 h5
 |ret=>exact hx ν' S' a' w' _ (by simp) h1 h2 h5
 |panic ch=>exact hx ν' S' a' w' _ (by simp) h1 h2 h5
 |outgrown=>exact hx ν' S' a' w' _ (by simp) h1 h2 h5
end
def ajY {T:Array Value} {rb:Nat} {n:Int} {e:TypeId} {W:World} (h2:T.getD 2 undef=.pointer (some ⟨rb,0,none⟩)) (hc:W.heap[rb]?=some (.cells #[.int .i64 n] e (0,0))):(results Tryz.f66 T).run Tryz.prog W=.ok (.int .i64 n) W:=by
 letI:þ:=⟨fun _=>False,[],none⟩
 have hl:(loadVar 35 ⟨rb,0,none⟩).run Tryz.prog W=.ok (.int .i64 n) W:=by
  have:=vC (P:=Tryz.prog) (w:=W) (t:=35) (agg:=false) (n:=1) (by kernel_rfl) (us:=[.int .i64 n]) rfl (fun _=>rfl) (a:=⟨rb,0,none⟩) (fun j v hj=>by
   have:=Ő.of_cells hc j v (by simpa using hj)
   cases j with
   |zero=>simpa[Addr.add] using this
   |succ j=>simp at hj)
  exact this
 have hr:Tryz.f66.results=#[.cell 2 35]:=by kernel_rfl
 unfold results;rw[hr,Array.mapM_eq_mapM_toList];simp only[Sem.run_bind,Sem.run_map,List.mapM_cons,List.mapM_nil,h2,asAddr,Sem.run_pure,Result.andThen_ok,hl];rfl
def HR_ghost {G:Nat→Prop} {D D':List Deferred} {Q Q':Option Nat} {ν:Nat→Value} {h:List Blk} {w:World} (H:@HR ⟨G,D,Q⟩ ν h w):@HR ⟨G,D',Q'⟩ ν h w :=
 @HR.mk ⟨G,D',Q'⟩ ν h w (@HR.blk ⟨G,D,Q⟩ ν h w H) (@HR.inj ⟨G,D,Q⟩ ν h w H) (@HR.ghlt ⟨G,D,Q⟩ ν h w H) (@HR.ghne ⟨G,D,Q⟩ ν h w H)
def apV [þ] {ν:Nat→Value} {h:List Blk} {w:World} {x:Val Å} {us:List Value} (hv:č (VRc ν h w) (flat Å x) us):CR w noG Å x us:=by
 have h1:ì Å (flat Å x)=some x:=rfl;have h2:č (VRs w (Av ν h)) (flat Å x) us:=hv.mono fun c u hu=>hu.1.data;exact CR.mono (fun _ hf=>hf.elim) (Ż h1 h2)
def DD (G:Nat→Prop) (y:Int) (w:World) (e:Ending) (w':World):Prop :=
 ∃u,e=.returned u∧RR w' G [tI] y u∧(∀b,b<w.heap.size→w'.heap[b]?=w.heap[b]?)∧w.heap.size≤w'.heap.size∧w'.os=w.os∧w'.tape=w.tape∧w'.output=w.output
def ahw {G:Nat→Prop} {y:Int} {w0 w:World} {a:Act} {D rb:Nat} {e:TypeId} (hd:a.defers=[ag6 D]) (hD:w.heap[D]?=some (.deferred (some []))) (h2:a.tmps.getD 2 undef=.pointer (some ⟨rb,0,none⟩)) (hc:w.heap[rb]?=some (.cells #[.int .i64 y] e (0,0)))
 (hb:∀b,b<w0.heap.size→w.heap[b]?=w0.heap[b]?) (hDl:w0.heap.size≤D) (hsz:w0.heap.size≤w.heap.size) (h3:w.os=w0.os) (h4:w.tape=w0.tape) (h5:w.output=w0.output):LeavesInM Fence.wide 2 Tryz.prog Tryz.f66 a.tmps (DD G y w0) a.defers .returning w:=by
 rw[hd]
 have hne:rb≠D:=fun h=>by rw[h,hD] at hc; cases hc
 have ho:∀b,b≠D→(w.putObj D (.deferred none)).heap[b]?=w.heap[b]?:=fun b hb=>by
  simp only[World.putObj,fh];rw[if_neg (fun h=>hb h.symm)]
 refine⟨by simp,.inl ⟨D,_,rfl,run_takeDeferred hD,?_⟩⟩;refine⟨.int .i64 y,ajY h2 ((ho rb hne).trans hc),.int .i64 y,rfl,⟨[.int .i64 y],rfl,rfl⟩,fun b hlt=>(ho b (by omega)).trans (hb b hlt),by simpa[World.putObj] using hsz,h3,h4,h5⟩
def apP (S:St):ckK .ret S=(alC S).map .inl:=by
 unfold ckK
 cases alC S<;>rfl
def aiZ (S:St):ckK .normal S=if decide (78≤S.t.length)=true then some (.inr ([lk S.t 1,lk S.t 2,lk S.t 48],S.h)) else none:=by
 unfold ckK
 cases decide (78≤S.t.length)<;>rfl
def jN [þ] {ρ:Type} {E:Env ρ} (h0:E.loops=pz []) {path:List Nat} {fid bid:Nat} {b:Code}:pd E path fid bid b:=fun m S K r ν a w e=>by
 rw[h0] at e;cases e
def apd:Code→String
 | .region _ ops _ => ((ops[0]?).map fun o => o.pos).getD ""
 | _ => ""
def rfA:Code→Code
 |.block _ (.rangeFunc _ _ a _)=>a
 |_=>.skip
def rfB:Code→Code
 |.block _ (.rangeFunc _ _ _ (.block _ (.seq a _)))=>a
 |_=>.skip
def rfC:Code→Code
 |.block _ (.rangeFunc _ _ _ (.block _ (.seq _ (.cond _ (.seq a _) _))))=>a
 |_=>.skip
def apN:ckRF=Code.block 0 (Code.rangeFunc (.tmp 48) #[49] (agI (apd (rfA ckRF))) (aoC (apd (rfB ckRF)) (apd (rfC ckRF)))):=by kernel_rfl
def aoS:∀e∈ck_pt,Ò Tryz.prog e.1 e.2:=Á SX (Á SW (Á BF (Á SZ Ç)))
def alD {e:Exit} {S:St} {n:Int} (h:ckK2 e S=some n):e=.ret∧lk S.t 2=.box 1 0∧lkB S.h 1=.cells [.int .i64 n]:=by
 unfold ckK2 at h
 split at h
 ·split at h
  ·rename_i h2
   split at h
   ·rename_i h3;cases h;exact⟨rfl,h2,h3⟩
   ·cases h
  ·cases h
 ·cases h
def ac2 [þ] {ν:Nat→Value} {h:List Blk} {w:World} {n:Int} {id:Nat} (H:HR ν h w) (hl:lkB h id=.cells [.int .i64 n]):∃b e,ν id=.pointer (some ⟨b,0,none⟩)∧w.heap[b]?=some (.cells #[.int .i64 n] e (0,0)):=by
 have hB:=H.blk id;rw[hl] at hB;obtain⟨b,c,e,h1,h2,h3⟩:=hB;obtain⟨u,h4,h5⟩:=h3.one;have h6:u=.int .i64 n:=h5.1;refine⟨b,e,h1,?_⟩;rw[h2]
 have:c=#[.int .i64 n]:=by rw[←dU,h4,h6]
 rw[this]
def AH [þ] {ν:Nat→Value} {h:List Blk} {w:World} {id off:Nat} {v:Value} {b:Nat} (hv:VR ν h w (.box id off) v) (hb:ν id=.pointer (some ⟨b,0,none⟩)):v=.pointer (some ⟨b,off,none⟩):=by
 obtain⟨cs,b',h1,h2,h3⟩:=hv;rw[hb] at h2;cases h2;exact h3
def apM {G:Nat→Prop} {x:Val Å} {s:Val (.map tI Ó)} {y:Int} (hS:ckS x=some y) {ν:Nat→Value} {w0 w6 W:World} {a:Act} {D:Nat} (H:@HR ⟨G,[],none⟩ ν (ckH x s 0) w6) (hb:Below w6.heap.size w6 W) (hD:w6.heap.size≤D) (hDo:W.heap[D]?=some (.deferred (some []))) (hd:a.defers=[ag6 D]) (hlen:78≤a.tmps.size)
 (t1:@VR ⟨G,[],none⟩ ν (ckH x s 0) w6 (.box 0 0) (a.tmps.getD 1 undef)) (t2:@VR ⟨G,[],none⟩ ν (ckH x s 0) w6 (.box 1 0) (a.tmps.getD 2 undef))
 (h0:∀b,b<w0.heap.size→w6.heap[b]?=w0.heap[b]?∧¬agd ν (ckH x s 0) b) (hsz:w0.heap.size≤w6.heap.size) (h3:w6.os=w0.os) (h4:w6.tape=w0.tape) (h5:w6.output=w0.output) :
 WE.wpIn Fence.wide 2 Tryz.prog (bodyPostM Fence.wide 2 Tryz.prog Tryz.f66 (DD G y w0)) a W:=by
 have hlive:∀b,agd ν (ckH x s 0) b→b<w6.heap.size:=fun b hl=>@HR.ltA ⟨G,[],none⟩ _ _ _ H b (.inl hl)
 have t1':∃b,ν 0=.pointer (some ⟨b,0,none⟩)∧a.tmps.getD 1 undef=.pointer (some ⟨b,0,none⟩):=by
  obtain⟨cs,b,_,h2,h3⟩:=t1;exact⟨b,h2,h3⟩
 have t2':∃b,ν 1=.pointer (some ⟨b,0,none⟩)∧a.tmps.getD 2 undef=.pointer (some ⟨b,0,none⟩):=by
  obtain⟨cs,b,_,h2,h3⟩:=t2;exact⟨b,h2,h3⟩
 letI:þ:=⟨G,[ag6 D],none⟩
 have H1:HR ν (ckH x s 0) w6:=HR_ghost H;have H2:HR ν (ckH x s 0) W:=(H1.grow (fun b hlt=>hb.block b hlt) hb.size hb.os hb.tape hb.output 0).2;have hlib:Oa (an1 Int):=RT aoS (an1 Int) rfl rfl rfl rfl rfl (iB rfl);have hdraw:∀L call,mg (an1 Int) L call→mA (an1 Int) L call:=EU hmix;have hl0:(an1 Int).loops=pz []:=rfl;have hcall:=m9 (.inr fun _=>rfl) hlib hdraw (fun n hn hE path f fn c _ _ _ z _=>jN hl0) 10 (cQ _);have hEnv:mg (an1 Int) 2 (kr (an1 Int) 10):=⟨.inr (ri 9),hcall,hlib.plain,hlib.clone,hlib.joins⟩;have law:=ck_suf x s;rw[hS] at law
 have sim:Sim ν {t:=[.any,.box 0 0,.box 1 0]++List.replicate 75 .any,h:=ckH x s 0} a W:=by
  refine⟨hd,by simpa using hlen,fun i=>?_,H2⟩;simp only[RQ];rcases i with _|_|_|i
  ·trivial
  ·obtain⟨b,g1,g2⟩:=t1';exact⟨_,b,rfl,g1,g2⟩
  ·obtain⟨b,g1,g2⟩:=t2';exact⟨_,b,rfl,g1,g2⟩
  ·trivial
 refine wpIn_wide.2 (wpIn_wide.1 (wpIn_mono (lY hEnv (hdraw _ _ hEnv) rfl WE 0 _ _ ν a W (fun z _=>jN hl0) law sim (ej _)) fun e a' w' ha=>?_));obtain⟨ν',S',g1,g2,_,_,g5⟩:=ha;obtain⟨rfl,k2,k3⟩:=alD g5;obtain⟨rb,te,r1,r2⟩:=ac2 g1.heap k3;have r3:=g1.tmps 2;rw[k2] at r3;have r4:=AH r3 r1;have hDlt:=Ĝ hDo;refine ahw (w:=w') (a:=a') (G:=G) (y:=y) (w0:=w0) (D:=D) (rb:=rb) g1.defers ((g2.keep D hDlt fun hl=>by have:=hlive D hl; omega).1.trans hDo) r4 r2 (fun b hlt=>?_) (by omega) (by have:=g2.size; have:=hb.size; omega) (g2.os.trans (hb.os.trans h3)) (g2.tape.trans (hb.tape.trans h4)) (g2.output.trans (hb.output.trans h5));have h01:=h0 b hlt
 have hlt6:b<w6.heap.size:=by omega
 have hltW:b<W.heap.size:=by have:=hb.size; omega
 exact(g2.keep b hltW h01.2).1.trans ((hb.block b hlt6).trans h01.1)
set_option maxHeartbeats 2000000 in
def ai0 (G:Nat→Prop) (x:Val Å) (y:Int) (hF':Ą x=some y) (w:World) (vals:List Value) (hG:∀b,G b→b<w.heap.size) (hAL:AL w G [Å] x vals) :
 (∃fn c,Tryz.prog.funcs[66]?=some fn∧fn.body=some c)∧CallsIn Fence.wide 0 Tryz.prog 66 vals.toArray w (DD G y w):=by
 rw[an0] at hF'
 letI:þ:=⟨G,[],none⟩
 have hpt:=aoS;have hlib:Oa (ckE ckR):=RT hpt (ckE ckR) rfl rfl rfl rfl rfl (iB rfl);have hdraw:∀L call,mg (ckE ckR) L call→mA (ckE ckR) L call:=EU hmix;have h0:(ckE ckR).loops=pz []:=rfl;have hcall:=m9 (.inl ⟨rfl,rfl⟩) hlib hdraw (fun n hn hE path f fn c _ _ _ z _=>jN h0) 10 (cQ _);have hEnv:mg (ckE ckR) 2 (kr (ckE ckR) 10):=⟨.inr (ri 9),hcall,hlib.plain,hlib.clone,hlib.joins⟩;have hD:=hdraw _ _ hEnv;have H:HR (fun _=>undef) [] w:=⟨fun _=>trivial,fun _ _ _ h=>(by cases h),hG,fun _ _ h=>(by cases h)⟩;have hav:∀b,Av (fun _=>undef) [] b→G b:=fun b hb=>hb.elim (fun⟨_,h,_⟩=>by cases h) id;have hargs:č (VR (fun _=>undef) [] w) (ą [Å] x) vals:=AL.VR (hAL.mono hav);refine⟨⟨Tryz.f66,_,Tryz.func66,aoT⟩,?_⟩
 have hlen:vals.length=1:=by
  have:=hargs.length;simpa[ą,aln] using this.symm
 cases hM:ckM x with
 |none=>rw[hM] at hF'; cases hF'
 |some r0 =>
 rw[hM] at hF';have law:=ck_pre x;rw[hM] at law;refine callsIn_wide.2 (callsIn_wide.1 (callsIn_of_wp_marks (n:=2) Tryz.func66 aoT trivial ?_ (R:=DD G y w)))
 have hS:Sim (fun _=>undef) {t:=ą [Å] x++List.replicate 77 .any,h:=[]} {tmps:=vals.toArray++Array.replicate (Tryz.f66.ntmps-vals.toArray.size) undef,defers:=[]} w:=by
  refine⟨rfl,?_,fun i=>?_,H⟩
  ·have:Tryz.f66.ntmps=78:=by kernel_rfl
   have hl2:(ą [Å] x).length=1:=rfl;simp[this,hlen,hl2]
  ·simp only[RQ];rcases dn i (ą [Å] x).length with hi|hi
   ·have:=č.lk (R:=VR (fun _=>undef) [] w) (fun _=>trivial) i hargs
    have hv:i<vals.length:=by rw[←hargs.length]; exact hi
    have h2:(vals.toArray++Array.replicate (Tryz.f66.ntmps-vals.toArray.size) undef).getD i undef=vals.getD i undef:=by
     simp[dP,eY,hv]
    rw[h2]; exact this
   ·rw[akR _ _ hi]; trivial
 -- the ways out ahead of the loop
 have out:∀ν' S' a' w' e,e≠.normal→Sim ν' S' a' w'→Ev 0 (fun _=>undef) [] w ν' S'.h w'→ckK e S'=some r0→bodyPostM Fence.wide 2 Tryz.prog Tryz.f66 (DD G y w) e a' w':=by
  intro ν' S' a' w' e hne hS' hE' hk
  cases e with
  |normal=>exact(hne rfl).elim
  |ret =>
   rw[apP] at hk
   cases hr:alC S' with
   |none=>rw[hr] at hk; cases hk
   |some n =>
    rw[hr,dQ] at hk;cases hk
    have hyn:n=y:=by simpa using hF'
    subst hyn;unfold alC at hr
    split at hr
    ·rename_i v hv;obtain⟨u,q1,q2⟩:=Jm hS' hv;show LeavesInM _ _ _ _ _ _ a'.defers _ _;rw[show a'.defers=[] from hS'.defers];exact⟨u,q1,u,rfl,Xc hS'.heap [tI] q2 hr,fun b hb=>(hE'.keep b hb fun⟨_,h,_⟩=>by cases h).1,hE'.size,hE'.os,hE'.tape,hE'.output⟩
    ·cases hr
  |exit id=>cases hk
  |goto l=>cases hk
  |panic ch=>cases hk
  |outgrown=>cases hk
 have outT:∀{ν₁:Nat→Value} {h₁:List Blk} {w₁:World},Ev 0 (fun _=>undef) [] w ν₁ h₁ w₁→∀ν' S' a' w' e,e≠.normal→Sim ν' S' a' w'→Ev 0 ν₁ h₁ w₁ ν' S'.h w'→ckK e S'=some r0→bodyPostM Fence.wide 2 Tryz.prog Tryz.f66 (DD G y w) e a' w' :=
  fun hE ν' S' a' w' e hne hS' hE' hk=>out ν' S' a' w' e hne hS' (hE.trans hE' (cQ _)) hk
 refine peel rfl hEnv hD rfl rfl (fun z _=>jN h0) law hS (fun ν1 S1 a1 w1 s1 e1 k1=>?_) out;refine peel rfl hEnv hD rfl rfl (fun z _=>jN h0) k1 s1 (fun ν2 S2 a2 w2 s2 e2 k2=>?_) (outT e1);have t2:=e1.trans e2 (cQ _);refine peel rfl hEnv hD rfl rfl (fun z _=>jN h0) k2 s2 (fun ν3 S3 a3 w3 s3 e3 k3=>?_) (outT t2);have t3:=t2.trans e3 (cQ _);refine peel rfl hEnv hD rfl rfl (fun z _=>jN h0) k3 s3 (fun ν4 S4 a4 w4 s4 e4 k4=>?_) (outT t3);have t4:=t3.trans e4 (cQ _);refine peel rfl hEnv hD rfl rfl (fun z _=>jN h0) k4 s4 (fun ν5 S5 a5 w5 s5 e5 k5=>?_) (outT t4);have t5:=t4.trans e5 (cQ _);refine wpIn_seq (wpIn_seq (wpIn_wide.2 (wpIn_wide.1 (wpIn_mono (lY hEnv hD rfl ckA5 0 S5 _ ν5 a5 w5 (fun z _=>jN h0) k5 s5 (ej _)) fun e' a6 w6 ha=>?_))));obtain⟨ν,S,s6,e6,_,_,k6⟩:=ha;have t6:=t5.trans e6 (cQ _)
 have other:∀e,e≠.normal→ckK e S=some r0→Exit.then (Code.wpIn Fence.wide 2 Tryz.prog WE (bodyPostM Fence.wide 2 Tryz.prog Tryz.f66 (DD G y w))) (bodyPostM Fence.wide 2 Tryz.prog Tryz.f66 (DD G y w)) e a6 w6:=by
  intro e hne hk;have:=out ν S a6 w6 e hne s6 t6 hk
  cases e<;>first|exact(hne rfl).elim|exact this
 cases e' with
 |exit id=>exact other _ (by simp) k6
 |goto l=>exact other _ (by simp) k6
 |ret=>exact other _ (by simp) k6
 |panic ch=>exact other _ (by simp) k6
 |outgrown=>exact other _ (by simp) k6
 |normal =>
 clear other;rw[aiZ] at k6
 split at k6<;>try (cases k6; done)
 rename_i h78
 have h78':78≤S.t.length:=by simpa using h78
 cases k6;obtain⟨hlens,s,hs,hq⟩:=apO hM;simp only[Prod.mk.injEq,List.cons.injEq,and_true] at hq;obtain⟨⟨q1,q2,q48⟩,qh⟩:=hq
 have hF2:aaM (om x s) some (ckS x)=some y:=by
  simp only at hF';rw[hs] at hF';exact hF'
 -- what the errors are
 obtain⟨L,hL,hLy⟩:∃L,om x s=some L∧(match L.find? (fun e=>e != 0) with|some e=>some e|none=>ckS x)=some y:=by
  unfold aaM at hF2
  cases hl:om x s with
  |none=>rw[hl] at hF2; cases hF2
  |some L=>rw[hl] at hF2; exact⟨L,rfl,hF2⟩
 obtain⟨l1,l2,l3,l4,m1,m2,m3,m4,rfl⟩:∃l1 l2 l3 l4,PB (fun u=>ŋ u.1 u.2 s) (x.2.2.1:List (Int×Int))=some l1∧PB (fun i=>κ x s i) (yi (x.2.2.2.1:List (Val ő)).length)=some l2 ∧
  PB (fun i=>ō x s i) (yi (x.2.2.2.2.1:List (Val Ê)).length)=some l3∧PB (fun u=>ŋ u.1 u.2 s) (x.2.2.2.2.2:List (Int×Int))=some l4∧L=l1++(l2++(l3++l4)):=by
  unfold om at hL
  cases m1:PB (fun u=>ŋ u.1 u.2 s) (x.2.2.1:List (Int×Int)) with
  |none=>rw[m1] at hL; cases hL
  |some l1 =>
  rw[m1] at hL
  cases m2:PB (fun i=>κ x s i) (yi (x.2.2.2.1:List (Val ő)).length) with
  |none=>simp only[Ã,m2] at hL; cases hL
  |some l2 =>
  cases m3:PB (fun i=>ō x s i) (yi (x.2.2.2.2.1:List (Val Ê)).length) with
  |none=>simp only[Ã,m2,m3] at hL; cases hL
  |some l3 =>
  cases m4:PB (fun u=>ŋ u.1 u.2 s) (x.2.2.2.2.2:List (Int×Int)) with
  |none=>simp only[Ã,m2,m3,m4] at hL; cases hL
  |some l4 =>
  simp only[Ã,m2,m3,m4] at hL;cases hL;exact⟨l1,l2,l3,l4,rfl,rfl,rfl,rfl,rfl⟩
 -- the blocks
 obtain⟨T,Hh⟩:=S;dsimp only at q1 q2 q48 qh h78';subst qh;have p1:=s6.tmps 1;have p2:=s6.tmps 2;have p48:=s6.tmps 48;dsimp only at p1 p2 p48;rw[q1] at p1;rw[q2] at p2;rw[q48] at p48;obtain⟨rb,te1,n1,hrb⟩:=ac2 (id:=1) (n:=0) s6.heap rfl;have hB2:BR ν (ckH x s 0) w6 2 (.cells (flat Å x)):=s6.heap.blk 2;have hB3:BR ν (ckH x s 0) w6 3 (.cells [.mp tI Ó s]):=s6.heap.blk 3;have hB4:BR ν (ckH x s 0) w6 4 (.cells [.fn (.func 188) [] [.box 3 0]]):=s6.heap.blk 4;obtain⟨bb,cb,te,n2,hbb,hb2⟩:=hB2;obtain⟨sb,cs3,te3,n3,hsb,hb3⟩:=hB3;obtain⟨tb,cs4,te2,n4,htb,hb4⟩:=hB4;obtain⟨mv,z3,hm3⟩:=hb3.one;obtain⟨fv,z4,hm4⟩:=hb4.one;have hmv:CR w6 noG (.map tI Ó) s [mv]:=CR.mono (fun _ hf=>hf.elim) (show CR w6 (Av ν (ckH x s 0)) (.map tI Ó) s [mv] from hm3.1)
 have hc3:cs3=#[mv]:=by rw[←dU,z3]
 have hfv:fv=.func (.func 188) #[] #[.pointer (some ⟨sb,0,none⟩)]:=by
  obtain⟨fs,cs,h1,h2,h3⟩:=hm4.1
  have e1:fs=#[]:=by rw[←dU]; exact h2.nil_left
  obtain⟨u,e2,h4⟩:=h3.one;have e3:u=.pointer (some ⟨sb,0,none⟩):=AH (w:=w6) (id:=3) (off:=0) h4 n3
  have e4:cs=#[.pointer (some ⟨sb,0,none⟩)]:=by rw[←dU,e2,e3]
  rw[h1,e1,e4]
 have hc4:cs4=#[fv]:=by rw[←dU,z4]
 rw[hc3] at hsb;rw[hc4,hfv] at htb
 have hg:a6.tmps.getD 48 undef=.func (.func 191) #[] #[.pointer (some ⟨bb,0,none⟩),.pointer (some ⟨tb,0,none⟩),.pointer (some ⟨sb,0,none⟩)]:=by
  obtain⟨fs,cs,h1,h2,h3⟩:=p48
  have e1:fs=#[]:=by rw[←dU]; exact h2.nil_left
  have hl:=h3.length
  obtain⟨u1,u2,u3,e2⟩:∃u1 u2 u3,cs.toList=[u1,u2,u3]:=by
   rcases hcs:cs.toList with _|⟨u1,_|⟨u2,_|⟨u3,_|⟨u4,t⟩⟩⟩⟩<;>rw[hcs] at hl<;>simp at hl
   exact⟨u1,u2,u3,rfl⟩
  rw[e2] at h3;have e3:u1=.pointer (some ⟨bb,0,none⟩):=AH (w:=w6) (id:=2) (off:=0) h3.1 n2;have e4:u2=.pointer (some ⟨tb,0,none⟩):=AH (w:=w6) (id:=4) (off:=0) h3.2.1 n4;have e5:u3=.pointer (some ⟨sb,0,none⟩):=AH (w:=w6) (id:=3) (off:=0) h3.2.2.1 n3;rw[h1,e1];congr 1;rw[←dU,e2,e3,e4,e5]
 have hseq:=am3 m1 m2 m3 m4 hlens hbb (apV hb2) htb hsb hmv;have h2:=AH p2 n1;have hsz:78≤a6.tmps.size:=dG h78' s6.len
 have hkeep:∀b,b<w.heap.size→w6.heap[b]?=w.heap[b]?∧¬agd ν (ckH x s 0) b:=fun b hb=>t6.keep b hb fun⟨_,h,_⟩=>by cases h
 have hdef:a6.defers=[]:=s6.defers;show ckRF.wpIn Fence.wide 2 Tryz.prog (Exit.then (WE.wpIn Fence.wide 2 Tryz.prog (bodyPostM Fence.wide 2 Tryz.prog Tryz.f66 (DD G y w))) (bodyPostM Fence.wide 2 Tryz.prog Tryz.f66 (DD G y w))) a6 w6;rw[apN];refine wpIn_block (ao8 hseq hg h2 hsz hrb (fun D W hall hbel hDl hDo=>?_) (fun D W z hz hput hDl hDo=>?_))
 ·have hck:ckS x=some y:=by
   have:(l1++(l2++(l3++l4))).find? (fun e=>e != 0)=none:=eA.2 fun z hz=>by rw[hall z hz]; simp
   rw[this] at hLy;exact hLy
  exact apM (s:=s) hck s6.heap hbel hDl hDo (by show ag6 D::a6.defers=_; rw[hdef]) hsz p1 p2 hkeep t6.size t6.os t6.tape t6.output
 ·have hzy:z=y:=by
   rw[hz] at hLy;simpa using hLy
  subst hzy;obtain⟨te5,hcell⟩:=hput.cell;have hlb:=Ĝ hrb;have hlive:agd ν (ckH x s 0) rb:=⟨1,rfl,by rw[n1]; rfl⟩
  exact ahw (a:={a6 with defers:=ag6 D::a6.defers}) (w:=W) (by show ag6 D::a6.defers=_; rw[hdef]) hDo h2 hcell
   (fun b hb=>(hput.block b (by have:=t6.size; omega) (fun e=>(hkeep b hb).2 (e▸hlive))).trans (hkeep b hb).1) (by have:=t6.size; omega) (by have:=t6.size; have:=hput.size; omega) (hput.os.trans t6.os) (hput.tape.trans t6.tape) (hput.output.trans t6.output)
def ť:Ò Tryz.prog 66 ş:=fun G x y hF w vals hG hAL=>ai0 G x y hF w vals hG hAL
end Go.Proofs.ZzM
end

noncomputable section
set_option maxRecDepth 100000
namespace Go.Proofs.ZzM
open Go Go.Am Go.RowKit
abbrev cP:Type:=Val (tyL jf)
abbrev cV:Type:=Val (tyL mV)
abbrev cS (p:cP) (v:cV):St:=jq un jf mV p v
abbrev cU (p:cP) (v:cV) (x:Val Ó):St:=jq QM jf A6 p (Ep v x)
def anU (im:List (Int×Bool)) (n:Int):oP Tryz.prog [.map tI .bool im] 184 (.omp 0) (.int .i64 n) false some=(match (t7 (k:=tI) (v:=.bool) n im:Option Bool) with|some y=>some (.bool y)|none=>some (.bool false)):=by kernel_rfl
noncomputable def MapAt (W:World) (mb:Nat) (im:List (Int×Bool)):Prop:=∃(entries:Array MapEntry) (clock:Nat),W.heap[mb]?=some (.map entries clock)∧entries.size=im.length∧∀(i:Nat) (e:Int×Bool),im[i]?=some e→∃m,entries[i]?=some m∧m.key=.int .i64 e.1∧m.val=.bool e.2
noncomputable def M5 (im:List (Int×Bool)) (n:Int):Bool:=((t7 (k:=tI) (v:=.bool) n im:Option Bool)).getD false
def anr {W:World} {mb:Nat} {im:List (Int×Bool)} (h:MapAt W mb im) (n:Int):(Instr.lookup 184 (.map (some mb)) (.int .i64 n) false).run Tryz.prog W=.ok (.bool (M5 im n)) W:=by
 letI:þ:=⟨fun _=>False,[],none⟩
 obtain⟨entries,clock,h1,h2,h3⟩:=h
 have H:HR (fun _=>.map (some mb)) [.map tI .bool im] W:=by
  refine⟨fun id=>?_,fun i j b hi hj _ _=>?_,fun b hb=>hb.elim,fun id b _ _ hb=>hb.elim⟩
  ·rcases id with _|id
   ·refine⟨mb,entries,clock,rfl,h1,h2,fun i e he=>?_⟩;obtain⟨m,q1,q2,q3⟩:=h3 i e he;exact⟨m,[.bool e.2],q1,by rw[q2]; rfl,rfl,by rw[q3]; rfl⟩
   ·rw[Wd _ _ (by simp)]; trivial
  ·have one:∀i,(lkB [Blk.map tI .bool im] i).live=true→i=0:=fun i hi=>by
    rcases i with _|i
    ·rfl
    ·rw[Wd _ _ (by simp)] at hi; cases hi
   rw[one i hi,one j hj]
 have hom:VR (fun _=>.map (some mb)) [.map tI .bool im] W (.omp 0) (.map (some mb)):=⟨rfl,_,_,_,rfl,rfl⟩
 have hk:oP Tryz.prog [.map tI .bool im] 184 (.omp 0) (.int .i64 n) false some=some (.bool (M5 im n)):=by
  rw[anU];unfold M5
  cases(t7 (k:=tI) (v:=.bool) n im:Option Bool)<;>rfl
 obtain⟨u,q1,q2⟩:=acT H hk hom (ui:=.int .i64 n) rfl;rw[q1];have:u=.bool (M5 im n):=q2;rw[this]
noncomputable def gz (l:List (Val Ó)) (j:Nat):Val Ó:=l[j]?.getD (0,0,0,(0,0),(0,0),0)
def afD {w:World} {av:Nat→Prop} {g:Val Ó} {us:List Value} (h:CR w av Ó g us) :
 us=[.int .i64 g.1,.int .i64 g.2.1,.int .i64 g.2.2.1,.int .i64 g.2.2.2.1.1,.int .i64 g.2.2.2.1.2,.int .i64 g.2.2.2.2.1.1,.int .i64 g.2.2.2.2.1.2,.int .i64 g.2.2.2.2.2]:=by
 obtain⟨a1,r1,rfl,h1,a2,r2,rfl,h2,a3,r3,rfl,h3,a4,r4,rfl,⟨b1,b2,rfl,h4,h5⟩,⟨b3,r5,rfl,⟨b5,b6,rfl,h6,h7⟩,h8⟩⟩:=h;have e1:a1=[.int .i64 g.1]:=h1;have e2:a2=[.int .i64 g.2.1]:=h2;have e3:a3=[.int .i64 g.2.2.1]:=h3;have e4:b1=[.int .i64 g.2.2.2.1.1]:=h4;have e5:b2=[.int .i64 g.2.2.2.1.2]:=h5;have e6:b5=[.int .i64 g.2.2.2.2.1.1]:=h6;have e7:b6=[.int .i64 g.2.2.2.2.1.2]:=h7;have e8:r5=[.int .i64 g.2.2.2.2.2]:=h8;subst e1 e2 e3 e4 e5 e6 e7 e8;rfl
noncomputable def KNd (w1:World) (R:Nat→Prop) (tb:Nat) (im:List (Int×Bool)) (W:World):Prop:=w1.heap.size≤W.heap.size∧(∀b,R b→W.heap[b]?=w1.heap[b]?)∧tb<w1.heap.size∧∃mb,mb<w1.heap.size∧W.cell? ⟨tb,0,none⟩=some (.map (some mb))∧MapAt W mb im
def KNd.below {w1 W W':World} {R:Nat→Prop} {tb:Nat} {im:List (Int×Bool)} (hR:∀b,R b→b<w1.heap.size) (h:KNd w1 R tb im W) (hz:W.heap.size≤W'.heap.size) (hb:∀b,b<w1.heap.size→W'.heap[b]?=W.heap[b]?):KNd w1 R tb im W':=by
 obtain⟨h1,h2,h3,mb,h4,h5,en,cl,h6,h7,h8⟩:=h;exact⟨dG h1 hz,fun b hr=>(hb b (hR b hr)).trans (h2 b hr),h3,mb,h4,by rw[World.cell?_of_block (w:=W) (hb tb h3)]; exact h5,en,cl,(hb mb h4).trans h6,h7,h8⟩
def KNd.grown {w1 W W':World} {R:Nat→Prop} {tb:Nat} {im:List (Int×Bool)} (hR:∀b,R b→b<w1.heap.size) (h:KNd w1 R tb im W) (hg:W.grownBy W' none):KNd w1 R tb im W' :=
 h.below hR hg.size fun b hb=>hg.block b (dC hb h.1) (by simp)
def acW {f:AV→Bool} (h0:f .any=true):∀(l:List AV),l.all f=true→∀i,f (lk l i)=true
 |[],_,i=>by cases i<;>exact h0
 |x::l,h,0=>by simp only[fZ,cR] at h; exact h.1
 |x::l,h,i+1=>by simp only[fZ,cR] at h; exact acW h0 l h.2 i
def Zt {f:Blk→Bool} (h0:f .dead=true):∀(l:List Blk),l.all f=true→∀i,f (lkB l i)=true
 |[],_,i=>by cases i<;>exact h0
 |x::l,h,0=>by simp only[fZ,cR] at h; exact h.1
 |x::l,h,i+1=>by simp only[fZ,cR] at h; exact Zt h0 l h.2 i
def cS_mf (p:cP) (v:cV):(cS p v).h.all mfB=true:=by kernel_rfl
def cU_mf (p:cP) (v:cV) (x:Val Ó):(cU p v x).h.all mfB=true:=by kernel_rfl
def cU_mft (p:cP) (v:cV) (x:Val Ó):(cU p v x).t.all mfV3=true:=by kernel_rfl
def cR_mf (y:Val Å):(jq qF [] jS () (kY y)).h.all mfB=true:=by kernel_rfl
def cR_mft (y:Val Å):(jq qF [] jS () (kY y)).t.all mfV3=true:=by kernel_rfl
noncomputable def pin0 (m:Nat):AV→Bool
 |.any=>true
 |.box id _=>Nat.blt id m
 |_=>false
noncomputable def pin3 (m:Nat):AV→Bool
 |.fn _ a b=>a.all (pin0 m)&&b.all (pin0 m)
 |a=>pin0 m a
section
variable [þ] {ν ν':Nat→Value} {h h':List Blk} {w w':World} {m:Nat}
def VR0.pin (e:Ev m ν h w ν' h' w') {a:AV} {v:Value} (hp:pin0 m a=true) (hv:VR0 ν h w a v):VR0 ν' h' w' a v:=by
 cases a with
 |any=>trivial
 |box id off =>
  obtain⟨cs,b,hl,h1,h2⟩:=hv;have hlt:id<m:=fY hp;have hb:=e.blk id hlt;rw[hl] at hb;obtain⟨⟨cs',hl'⟩,he⟩:=hb;exact⟨cs',b,hl',by rw[he]; exact h1,h2⟩
 |_=>cases hp
def VR.pin (e:Ev m ν h w ν' h' w') {a:AV} {v:Value} (hp:pin3 m a=true) (hv:VR ν h w a v):VR ν' h' w' a v:=by
 cases a with
 |fn f fa fb =>
  obtain⟨fs,cs,h1,h2,h3⟩:=hv;simp only[pin3,cR,dI] at hp;exact⟨fs,cs,h1,h2.mem fun a ha _=>VR0.pin e (hp.1 a ha),h3.mem fun a ha _=>VR0.pin e (hp.2 a ha)⟩
 |any=>trivial
 |box id off=>exact VR0.pin (a:=.box id off) e (show pin0 m (.box id off)=true from hp) hv
 |_=>cases hp
end
def aoU (p:cP) (v:cV):(cS p v).t.all (pin3 9)=true:=by kernel_rfl
def cS_len (p:cP) (v:cV):(cS p v).h.length=10:=by kernel_rfl
def cU_len (p:cP) (v:cV) (x:Val Ó):(cU p v x).h.length=11:=by kernel_rfl
def cS_t (p:cP) (v:cV) (z:List (Val Ó)):(cS p (ħ v z)).t=(cS p v).t:=by kernel_rfl
def cS_5 (p:cP) (v:cV):∃a b us lo co ko,lkB (cS p v).h 5=.cells [.int .i64 a,.int .i64 b,.slc Ó (ü v),.slc Ä us,.slc ő lo,.slc Ê co,.slc Ä ko]:=⟨_,_,_,_,_,_,rfl⟩
def cS_6 (p:cP) (v:cV):lkB (cS p v).h 6=.cells [.omp 7]:=by kernel_rfl
def cS_7 (p:cP) (v:cV):lkB (cS p v).h 7=.map tI .bool (Ū v):=by kernel_rfl
def cS_59 (p:cP) (v:cV):lk (cS p v).t 59=.fn (.func 186) [] [.box 5 0,.box 6 0]:=by kernel_rfl
noncomputable def ac0:Blk→Bool
 |.map _ _ _=>true
 |_=>false
def af3 (p:cP) (v:cV):(cS p v).h.map ac0=[false,false,false,false,false,false,false,true,true,false]:=by kernel_rfl
def apS (p:cP) (v:cV) (x:Val Ó):(cU p v x).h.map ac0=[false,false,false,false,false,false,false,true,true,false,false]:=by kernel_rfl
def KK:∀(l:List Blk) (i:Nat),ac0 (lkB l i)=true→(l.map ac0)[i]?=some true
 |[],i,h=>by cases i<;>cases h
 |x::l,0,h=>by have:ac0 x=true:=h; simp[this]
 |x::l,i+1,h=>by simpa using KK l i h
def ag7 {l:List Blk} {t:List Bool} (hl:l.map ac0=[false,false,false,false,false,false,false,true,true]++t) (ht:∀b∈t,b=false) {id:Nat} {k u:Ty} {es:List (Val k×Val u)} (h:lkB l id=.map k u es):id=7∨id=8:=by
 have:=KK l id (by rw[h]; rfl);rw[hl] at this
 rcases id with _|_|_|_|_|_|_|_|_|id<;>simp at this ⊢
 have:=ht _ (cZ this);cases this
noncomputable def aoN {ρ:Type}:List (Val Ó)→Option ρ→Option ρ
 |[],x=>x
 |_::_,_=>none
def afP {ρ:Type} {l:List (Val Ó)} {x:Option ρ} {r:ρ} (h:aoN l x=some r):l=[]∧x=some r:=by
 cases l with
 |nil=>exact⟨rfl,h⟩
 |cons=>cases h
noncomputable def cutK (p:cP) (v:cV):Option (Val Å):=aoN (vZ v) (Ã (Bh (ü v) (Ū v)) fun z=>oa p (ħ v z) some)
def ak0 {l:List (Val Ó)} {im:List (Int×Bool)} {z:List (Val Ó)} (h:Bh l im=some z):î l.length=true∧z=(Ts (fun j=>M5 im (gz l j).1) l.length).map (gz l):=by
 unfold Bh at h;simp only[ë] at h
 split at h
 ·rename_i ho;cases h;refine⟨ho,?_⟩
  have key:∀(n:Nat),n≤l.length→(l.take n).filter (fun g=>((t7 (k:=tI) (v:=.bool) g.1 im:Option Bool)).getD false)=(Ts (fun j=>M5 im (gz l j).1) n).map (gz l):=by
   intro n
   induction n with
   |zero=>intro _; rfl
   |succ n ih =>
    intro hn
    have hg:l[n]?=some (gz l n):=by simp[gz,cO (show n<l.length from hn)]
    rw[List.take_succ,gH,ih (by omega),Fk,hg];have:((t7 (k:=tI) (v:=.bool) (gz l n).1 im:Option Bool)).getD false=M5 im (gz l n).1:=rfl;simp only[Option.toList_some,dV,d8,this]
    split<;>simp
  have:=key l.length (cQ _)
  rwa [List.take_length] at this
 ·cases h
def anh {n m:Nat} (h:î n=true) (hm:m≤n):î m=true:=by
 unfold î at h ⊢;simp only[Bool.and_eq_true,decide_eq_true_eq] at h ⊢
 first|omega|(constructor<;>omega)
def ahQ {G:Nat→Prop} {D D':List Deferred} {Q Q':Option Nat} {ν:Nat→Value} {h:List Blk} {w:World} {a:AV} {v:Value} (hv:@VR ⟨G,D,Q⟩ ν h w a v):@VR ⟨G,D',Q'⟩ ν h w a v:=hv
def A5 [þ] {ν2 ν':Nat→Value} {h1 h':List Blk} {w1 W:World} (H1:HR ν2 h1 w1) (ev:Ev 9 ν2 h1 w1 ν' h' W) (hl1:∀id,id=7∨id=8→∃k u es,lkB h1 id=.map k u es)
 {t:List Bool} (hl:h'.map ac0=[false,false,false,false,false,false,false,true,true]++t) (ht:∀b∈t,b=false):amv w1.heap.size ν' h':=by
 intro id k u es b hm hν
 have h9:id<9:=by rcases ag7 hl ht hm with rfl|rfl<;>omega
 obtain⟨k1,u1,es1,h7⟩:=hl1 id (ag7 hl ht hm);have hb:=ev.blk id h9;rw[h7] at hb;obtain⟨_,he⟩:=hb;have hB:=H1.blk id;rw[h7] at hB;obtain⟨b0,_,_,q1,q2,_⟩:=hB;rw[he,q1] at hν;cases hν;exact Ĝ q2
def aoi (p:cP) (v:cV):∀id,id=7∨id=8→∃k u es,lkB (cS p v).h id=.map k u es:=by
 rintro id (rfl|rfl)
 ·exact⟨_,_,_,rfl⟩
 ·exact⟨_,_,_,rfl⟩
noncomputable def CI (G:Nat→Prop) (p:cP) (v:cV) (ν2:Nat→Value) (w1:World) (pre:List Nat) (W:World):Prop :=
 ∃ν',@HR ⟨G,[],none⟩ ν' (cS p (ħ v (pre.map (gz (ü v))))).h W∧Ev 9 ν2 (cS p v).h w1 ν' (cS p (ħ v (pre.map (gz (ü v))))).h W
def CI.own {G:Nat→Prop} {p:cP} {v:cV} {ν2:Nat→Value} {w1:World} (H1:@HR ⟨G,[],none⟩ ν2 (cS p v).h w1):OwnFrom w1.heap.size (CI G p v ν2 w1):=by
 intro pre W W' row hI hg hr
 letI:þ:=⟨G,[],none⟩
 obtain⟨ν',H,ev⟩:=hI;have hml:=A5 H1 ev (aoi p v) (af3 _ _) (t:=[false]) (by simp);refine⟨ν',H.ckeep (SK hg hr) (fun id k u es b hl hν=>?_) (Zt rfl _ (cS_mf _ _)),ev.own hg fun r e=>(hr r e).1⟩;have hb:=hml id k u es b hl hν
 exact hg.block b (dC hb ev.size) fun e=>by have:=(hr b e.symm).1; omega
def CI.nd {G:Nat→Prop} {p:cP} {v:cV} {ν2:Nat→Value} {w1 W:World} {pre:List Nat} {R:Nat→Prop} {tb:Nat} (H1:@HR ⟨G,[],none⟩ ν2 (cS p v).h w1) (hR:∀b,R b→b<w1.heap.size∧¬agd ν2 (cS p v).h b) (htb:ν2 6=.pointer (some ⟨tb,0,none⟩)) (hI:CI G p v ν2 w1 pre W):KNd w1 R tb (Ū v) W:=by
 letI:þ:=⟨G,[],none⟩
 obtain⟨ν',H,ev⟩:=hI;have h6:=H1.blk 6;rw[cS_6] at h6;obtain⟨b6,_,_,q1,q2,_⟩:=h6;rw[htb] at q1;cases q1;have h7:=H1.blk 7;rw[cS_7] at h7;obtain⟨mb,_,_,r1,r2,_⟩:=h7;have e6:=ev.blk 6 (by omega);rw[cS_6] at e6;have e7:=ev.blk 7 (by omega);rw[cS_7] at e7;have k6:=H.blk 6;rw[show lkB (cS p (ħ v (pre.map (gz (ü v))))).h 6=.cells [.omp 7] from cS_6 _ _] at k6;obtain⟨b,c,e,s1,s2,s3⟩:=k6;rw[e6.2,htb] at s1;cases s1;obtain⟨mv,s4,s5⟩:=s3.one;obtain⟨_,k,u,es,_,s6⟩:=s5.1;have k7:=H.blk 7;rw[show lkB (cS p (ħ v (pre.map (gz (ü v))))).h 7=.map tI .bool (Ū v) from cS_7 _ _] at k7;obtain⟨mb',en,cl,t1,t2,t3,t4⟩:=k7;have e1:mv=.map (some mb'):=s6.trans t1
 have e2:mb'=mb:=by rw[e7.2,r1] at t1; cases t1; rfl
 subst e2;refine⟨ev.size,fun b hb=>(ev.keep b (hR b hb).1 (hR b hb).2).1,Ĝ q2,mb',Ĝ r2,?_,en,cl,t2,t3,fun i x hx=>?_⟩
 ·have hc:c=#[mv]:=by rw[←dU,s4]
  rw[hc,e1] at s2;simp[World.cell?,s2]
 ·obtain⟨m,us,u1,u2,u3,u4⟩:=t4 i x hx;have v1:[m.key]=[.int .i64 x.1]:=u2;have v2:us=[.bool x.2]:=u3;refine⟨m,u1,by simpa using v1,?_⟩;rw[u4,v2];rfl
def aiU:drawn (Am.rfA (Am.rfC 7 Ĩ))=false:=by kernel_rfl
def aiT:drawn (Am.rfB (Am.rfC 7 Ĩ))=false:=by kernel_rfl
def aiS:ö 4 (Am.rfA (Am.rfC 7 Ĩ))=[]:=by kernel_rfl
def aiR:ö 4 (Am.rfB (Am.rfC 7 Ĩ))=[]:=by kernel_rfl
def ZN [þ] (ρ:Type):mg (Ĥ ρ) 2 (kr (Ĥ ρ) 10):=by
 have hlib:Oa (Ĥ ρ):=RT QL (Ĥ ρ) rfl rfl rfl rfl rfl (iB rfl);have hdraw:∀L call,mg (Ĥ ρ) L call→mA (Ĥ ρ) L call:=EU hmix;have hcall:=m9 (.inr fun _=>rfl) hlib hdraw (fun n hn hE path f fn c hp hf hc=>Ig (tab:=sa ρ) rfl L9 hn hE (hdraw _ _ hE) hp hf hc) 10 (cQ _);exact⟨.inr (ri 9),hcall,hlib.plain,hlib.clone,hlib.joins⟩
def alx {G:Nat→Prop} {p:cP} {v:cV} {ν2:Nat→Value} {a:Act} {w1:World} (H1:@Sim ⟨G,[],none⟩ ν2 (cS p v) a w1) (l:Nat) (pre:List Nat) (x:Nat) (W:World) (hl:w1.heap.size≤l) (hI:CI G p v ν2 w1 pre W) (hok:î (pre.length+1)=true) {u:Value} (hu:∀[þ] (ν:Nat→Value) (h:List Blk) (w:World),VR ν h w (.agg (flat Ó (gz (ü v) x))) u) :
 (Am.rfA (Am.rfC 7 Ĩ)).wpIn (Fence.wide.inRound l) 0 Tryz.prog (Exit.then (fun a' Wa=>KeepsFrom w1.heap.size W Wa∧∀r',(∃r,Wa.heap[l]?=some (.loop r)) →
  (Am.rfB (Am.rfC 7 Ĩ)).wpIn (Fence.wide.inRound l) 0 Tryz.prog (Exit.then (fun _ W3=>KeepsFrom w1.heap.size (Wa.putObj l (.loop r')) W3∧CI G p v ν2 w1 (pre++[x]) W3) (fun _ _ _=>False)) a' (Wa.putObj l (.loop r'))) (fun _ _ _=>False)) {tmps:=a.tmps.setIfInBounds 60 u,defers:=[]} W:=by
 letI:þ:=⟨G,[],some l⟩
 have H1h:HR ν2 (cS p v).h w1:=HR_ghost (@Sim.heap ⟨G,[],none⟩ _ _ _ _ H1);obtain⟨ν',H0,ev⟩:=hI;have H:HR ν' (cS p (ħ v (pre.map (gz (ü v))))).h W:=HR_ghost H0;obtain⟨v',hv'⟩:∃v',v'=ħ v (pre.map (gz (ü v))):=⟨_,rfl⟩;rw[←hv'] at H ev
 have ht:(cS p v').t=(cS p v).t:=by rw[hv']; exact cS_t _ _ _
 have hml:=A5 H1h ev (aoi p v) (af3 _ _) (t:=[false]) (by simp)
 have simA:Sim ν' (cS p v') {tmps:=a.tmps,defers:=[]} W:=by
  refine⟨rfl,?_,fun i=>?_,H⟩
  ·rw[ht]; show _≤a.tmps.size; exact @Sim.len ⟨G,[],none⟩ _ _ _ _ H1
  ·rw[ht]; exact VR.pin ev (acW rfl _ (aoU p v) i) (ahQ (@Sim.tmps ⟨G,[],none⟩ _ _ _ _ H1 i))
 have sim0:=simA.put (Ev.refl _ _ _ _) H (some 60) (hu ν' _ W);have hEnv:=ZN (cP×Val (tyL A6));have hgo:=KU hEnv (path:=[]) rfl (Am.rfA (Am.rfC 7 Ĩ)) 4 _ _ ν' _ W (fun h=>by rw[aiU] at h; cases h) (fun z hz=>by rw[aiS] at hz; cases hz) (aiv p v' (gz (ü v) x) fun p u=>some (p,u)) sim0 (dG (show 9≤10 by decide) (Nat.le_of_eq (cS_len p v').symm));refine wpIn_mono hgo fun e a' Wa ha=>?_;obtain⟨νa,Sa,sA,evA,lenA,ddA,kA⟩:=ha;obtain⟨rfl,p',u',hm',hk'⟩:=FP kA;cases hk';obtain⟨νb,sB,evB,lB,dB⟩:=FM _ _ _ _ _ _ _ νa a' Wa hm' sA;have evAB:Ev 9 ν' (cS p v').h W νb (cU p v' (gz (ü v) x)).h Wa:=evA.trans evB (cQ _);have evT:=ev.trans evAB (cQ _);have hmu:=A5 H1h evT (aoi p v) (apS _ _ _) (t:=[false,false]) (by simp);refine⟨ML H hml evAB,fun r' ⟨r,hr⟩=>?_⟩;have hlt:l<Wa.heap.size:=Ĝ hr
 have K:ο Wa (Wa.putObj l (.loop r')):=⟨by simp[World.putObj],fun b c e q hb=>by
  rw[World.putObj_heap_other (fun e'=>by subst e'; rw[hr] at hb; cases hb)]; exact hb⟩
 have sC:Sim νb (cU p v' (gz (ü v) x)) a' (Wa.putObj l (.loop r')):=sB.ckeep K (fun id k q es b hb hν=>World.putObj_heap_other (by have:=hmu id k q es b hb hν; omega)) (Zt rfl _ (cU_mf _ _ _)) (acW rfl _ (cU_mft _ _ _))
 have evO:Ev 9 ν2 (cS p v).h w1 νb (cU p v' (gz (ü v) x)).h (Wa.putObj l (.loop r')):=evT.own (grownBy_putObj' Wa l _) fun q e=>by cases e; exact hl
 have hEnv2:=ZN (cP×cV);have law:=aiu p v' (gz (ü v) x) fun p v=>some (p,v)
 have hrow:vZ v'=pre.map (gz (ü v)):=by rw[hv']; rfl
 rw[hrow] at law;simp only[dY,df,dt,du,hok,ë] at law;have hgo2:=KU hEnv2 (path:=[]) rfl (Am.rfB (Am.rfC 7 Ĩ)) 4 _ _ νb _ _ (fun h=>by rw[aiT] at h; cases h) (fun z hz=>by rw[aiR] at hz; cases hz) law sC (dG (show 9≤11 by decide) (Nat.le_of_eq (cU_len p v' (gz (ü v) x)).symm));refine wpIn_mono hgo2 fun e a3 W3 hb=>?_;obtain⟨νc,Sc,sD,evC,lenC,ddC,kC⟩:=hb;obtain⟨rfl,p',u',hm',hk'⟩:=FP kC;cases hk';obtain⟨νd,sE,evD,lD,dD⟩:=FM _ _ _ _ _ _ _ νc a3 W3 hm' sD;have evCD:=evC.trans evD (cQ _);refine⟨ML sC.heap hmu evCD,νd,?_⟩
 have hput:ħ v' (pre.map (gz (ü v))++[gz (ü v) x])=ħ v ((pre++[x]).map (gz (ü v))):=by
  rw[hv',gU]; rfl
 rw[←hput];exact⟨HR_ghost sE.heap,evO.trans evCD (cQ _)⟩
noncomputable def age (G:Nat→Prop) (y:Val Å) (w:World) (e:Ending) (w':World):Prop :=
 ∃u,e=.returned u∧RR w' G [Å] y u∧(∀b,b<w.heap.size→w'.heap[b]?=w.heap[b]?)∧w.heap.size≤w'.heap.size∧w'.os=w.os∧w'.tape=w.tape∧w'.output=w.output
noncomputable def afQ (u:Val (tyL jS)):Val Å:=((u.1,u.2.1),u.2.2.1,u.2.2.2.1,u.2.2.2.2.1,u.2.2.2.2.2.1,u.2.2.2.2.2.2)
def anW (p:cP) (v:cV):oa p v (fun y=>(fun u=>some (afQ u)) (kY y))=oa p v some:=by kernel_rfl
def alw (u:Val (tyL jS)):kY (afQ u)=u:=by kernel_rfl
def apT (y:Val Å):(jq qF [] jS () (kY y)).h.map ac0=[false]:=by kernel_rfl
def anT {G:Nat→Prop} {p:cP} {v:cV} {y:Val Å} {ν:Nat→Value} {a:Act} {w0 W:World} {D:Nat} (H:@Sim ⟨G,[],none⟩ ν (cS p v) a W) (hB:oa p v some=some y) (hD:W.heap[D]?=some (.deferred (some []))) (hnl:¬agd ν (cS p v).h D)
 (hev:Ev 0 (fun _=>undef) [] w0 ν (cS p v).h W) (hDl:w0.heap.size≤D) :
 (Am.postC 7 Ĩ).wpIn Fence.wide 2 Tryz.prog (bodyPostM Fence.wide 2 Tryz.prog Tryz.f62 (age G y w0)) {a with defers:=ag6 D::a.defers} W:=by
 have hdf:a.defers=[]:=@Sim.defers ⟨G,[],none⟩ _ _ _ _ H
 letI:þ:=⟨G,[ag6 D],none⟩
 have sim:Sim ν (cS p v) {a with defers:=ag6 D::a.defers} W:=⟨by show ag6 D::a.defers=[ag6 D]; rw[hdf],(show _≤a.tmps.size from @Sim.len ⟨G,[],none⟩ _ _ _ _ H),fun i=>ahQ (@Sim.tmps ⟨G,[],none⟩ _ _ _ _ H i),HR_ghost (@Sim.heap ⟨G,[],none⟩ _ _ _ _ H)⟩;have hEnv:=ZN (Val Å);have hdraw:∀L call,mg (Ĥ (Val Å)) L call→mA (Ĥ (Val Å)) L call:=EU hmix;have law:=ab7 p v fun u=>some (afQ u);rw[anW,hB] at law
 have hL:∀z∈ö 0 (Am.postC 7 Ĩ),pd (Ĥ (Val Å)) [] 62 z.1 z.2:=fun z hz =>
  Ig (E:=Ĥ (Val Å)) (tab:=sa _) rfl L9 (n:=10) (cQ _) hEnv (hdraw _ _ hEnv) rfl Tryz.func62 sc z (aha 7 Ĩ 0 GV hz)
 have hgo:=lY hEnv (hdraw _ _ hEnv) rfl (Am.postC 7 Ĩ) 0 _ _ ν _ W hL law sim (ej _);rw[Ix rfl] at hgo;refine wpIn_wide.2 (wpIn_wide.1 (wpIn_mono hgo fun e a' W' ha=>?_));obtain⟨νa,Sa,sA,evA,_,_,kA⟩:=ha;obtain⟨rfl,u,hm,hk⟩:=akz kA;cases hk;obtain⟨νb,sB,evB,_,_⟩:=FM _ _ _ _ _ _ _ νa a' W' hm sA
 have hu:jq qF [] jS () u=jq qF [] jS () (kY (afQ u)):=by rw[alw]
 rw[hu] at sB evB;have evT:=(evA.trans evB (cQ _));have hD':W'.heap[D]?=some (.deferred (some [])):=(evT.keep D (Ĝ hD) hnl).1.trans hD;have hd':a'.defers=[ag6 D]:=sB.defers;show LeavesInM _ _ _ _ _ _ a'.defers _ _;rw[hd'];refine⟨by simp,.inl ⟨D,_,rfl,run_takeDeferred hD',?_⟩⟩;have hlt:=Ĝ hD'
 have K:ο W' (W'.putObj D (.deferred none)):=⟨by simp[World.putObj],fun b c e q hb=>by
  rw[World.putObj_heap_other (fun e'=>by subst e'; rw[hD'] at hb; cases hb)]; exact hb⟩
 have sC:=sB.ckeep K (fun id k q es b hb hν=>by
  have:=KK _ id (by rw[hb]; rfl);rw[apT] at this
  rcases id with _|id<;>simp at this) (Zt rfl _ (cR_mf _)) (acW rfl _ (cR_mft _))
 obtain⟨uu,q1,q2⟩:=Jm sC (ae4 (afQ u));have hall:=hev.trans evT (cQ _);refine⟨uu,q1,uu,rfl,Xc sC.heap [Å] q2 (show Ċ [Å] _ (enc Å (afQ u))=some (afQ u) from rfl),fun b hb=>?_,?_,hall.os,hall.tape,hall.output⟩
 ·rw[World.putObj_heap_other (by omega)];exact(hall.keep b hb fun⟨_,h,_⟩=>by cases h).1
 ·have:=hall.size;simpa[World.putObj] using this
def anX (x:Val (.pair Å (.pair (.slice Ä) (.slice Ä)))):GW x.1 x.2.1 x.2.2 cutK=qr.F x:=by kernel_rfl
noncomputable def encG (g:Val Ó):Value:=.agg #[.int .i64 g.1,.int .i64 g.2.1,.int .i64 g.2.2.1,.int .i64 g.2.2.2.1.1,.int .i64 g.2.2.2.1.2,.int .i64 g.2.2.2.2.1.1,.int .i64 g.2.2.2.2.1.2,.int .i64 g.2.2.2.2.2]
def apD [þ] (g:Val Ó) (ν:Nat→Value) (h:List Blk) (w:World):VR ν h w (.agg (flat Ó g)) (encG g) :=
 ⟨_,rfl,⟨rfl,rfl⟩,⟨rfl,rfl⟩,⟨rfl,rfl⟩,⟨rfl,rfl⟩,⟨rfl,rfl⟩,⟨rfl,rfl⟩,⟨rfl,rfl⟩,⟨rfl,rfl⟩,trivial⟩
def anV (G:Nat→Prop) (x:Val (tyL qr.ts)) (y:Val Å) (hF:qr.F x=some y) (w:World) (vals:List Value) (hG:∀b,G b→b<w.heap.size) (hAL:AL w G qr.ts x vals) :
 (∃fn c,Tryz.prog.funcs[62]?=some fn∧fn.body=some c)∧CallsIn Fence.wide 0 Tryz.prog 62 vals.toArray w (age G y w):=by
 letI:þ:=⟨G,[],none⟩
 have hlib:Oa (Η (Val Å)):=RT QL _ rfl rfl rfl rfl rfl (iB rfl);have hdraw:∀L call,mg (Η (Val Å)) L call→mA (Η (Val Å)) L call:=EU hmix;have hloops:agc (Η (Val Å)):=fun n hn hE hD path f fn c hp hf hc=>Ig (tab:=Eo _) rfl ae6 hn hE hD hp hf hc;have hcall:=m9 (.inl ⟨rfl,rfl⟩) hlib hdraw (fun n hn hE=>hloops n hn hE (hdraw _ _ hE)) 10 (cQ _);have hEnv:mg (Η (Val Å)) 2 (kr (Η (Val Å)) 10):=⟨.inr (ri 9),hcall,hlib.plain,hlib.clone,hlib.joins⟩;have H:HR (fun _=>undef) [] w:=⟨fun _=>trivial,fun _ _ _ h=>(by cases h),hG,fun _ _ h=>(by cases h)⟩;have hav:∀b,Av (fun _=>undef) [] b→G b:=fun b hb=>hb.elim (fun⟨_,h,_⟩=>by cases h) id;have hargs:č (VR (fun _=>undef) [] w) (ą qr.ts x) vals:=AL.VR (hAL.mono hav);refine⟨⟨Tryz.f62,_,Tryz.func62,sc⟩,?_⟩;have hlen:vals.length=3:=hargs.length.symm;refine callsIn_wide.2 (callsIn_wide.1 (callsIn_of_wp_marks (n:=2) Tryz.func62 sc trivial ?_ (R:=age G y w)))
 have hS:Sim (fun _=>undef) {t:=ą qr.ts x++List.replicate 127 .any,h:=[]} {tmps:=vals.toArray++Array.replicate (Tryz.f62.ntmps-vals.toArray.size) undef,defers:=[]} w:=by
  refine⟨rfl,?_,fun i=>?_,H⟩
  ·have:Tryz.f62.ntmps=130:=by kernel_rfl
   have hl2:(ą qr.ts x).length=3:=rfl;simp[this,hlen,hl2]
  ·simp only[RQ];rcases dn i (ą qr.ts x).length with hi|hi
   ·have:=č.lk (R:=VR (fun _=>undef) [] w) (fun _=>trivial) i hargs
    have hv:i<vals.length:=by rw[←hargs.length]; exact hi
    have h2:(vals.toArray++Array.replicate (Tryz.f62.ntmps-vals.toArray.size) undef).getD i undef=vals.getD i undef:=by
     simp[dP,eY,hv]
    rw[h2]; exact this
   ·rw[akR _ _ hi]; trivial
 have law:=(ae5 x cutK).trans ((anX x).trans hF);refine peelN rfl hEnv (hdraw _ _ hEnv) rfl (path:=[]) rfl (fun e S hne h=>hne (FP h).1) 7 Ĩ _ _ _ _ GV (fun z hz=>hloops 10 (cQ _) hEnv (hdraw _ _ hEnv) [] 62 Tryz.f62 Ĩ rfl Tryz.func62 sc z hz) law hS (fun ν1 S1 a1 w1 s1 e1 k1=>?_);obtain⟨_,p,v,hm,hk⟩:=FP k1;obtain⟨hrow,hk⟩:=afP hk
 cases hz:Bh (ü v) (Ū v) with
 |none=>rw[hz] at hk; cases hk
 |some z =>
 rw[hz] at hk;have hB:oa p (ħ v z) some=some y:=hk;obtain⟨hzl,hzs⟩:=ak0 hz;obtain⟨ν2,s2,e2,_,_⟩:=FM _ _ _ _ _ _ _ ν1 a1 w1 hm s1;have evw:=e1.trans e2 (cQ _)
 have hv0:ħ v []=v:=by rw[←hrow]; rfl
 have s2':Sim ν2 (cS p v) a1 w1:=s2
 -- the blocks
 obtain⟨fa,fb,us,lo,co,ko,h5⟩:=cS_5 p v;have hB5:=s2'.heap.blk 5;rw[h5] at hB5;obtain⟨bb,cb,te,n5,hbb,hc5⟩:=hB5;have hB6:=s2'.heap.blk 6;rw[cS_6] at hB6;obtain⟨tb,ct,tt,n6,htb,hc6⟩:=hB6;have hl5:=hc5.length
 obtain⟨u1,u2,u3,u4,u5,u6,u7,hcb⟩:∃u1 u2 u3 u4 u5 u6 u7,cb.toList=[u1,u2,u3,u4,u5,u6,u7]:=by
  rcases hcs:cb.toList with _|⟨u1,_|⟨u2,_|⟨u3,_|⟨u4,_|⟨u5,_|⟨u6,_|⟨u7,_|⟨u8,t⟩⟩⟩⟩⟩⟩⟩⟩<;>rw[hcs] at hl5<;>simp at hl5
  exact⟨u1,u2,u3,u4,u5,u6,u7,rfl⟩
 rw[hcb] at hc5;obtain⟨_,_,hc3,_⟩:=hc5;have hg3:CR w1 (Av ν2 (cS p v).h) (.slice Ó) (ü v) [u3]:=hc3.1;obtain⟨base,cap,eu3,hcap,hgl⟩:=hg3
 have eu3:u3=.slice base (ü v).length cap:=by simpa using eu3
 obtain⟨gb,go,hgb⟩:∃gb go,0<(ü v).length→base=some ⟨gb,go,none⟩∧¬Av ν2 (cS p v).h gb∧gb<w1.heap.size∧∀(i:Nat) (g:Val Ó),(ü v)[i]?=some g→∃us,CR w1 (Av ν2 (cS p v).h) Ó g us∧Ő w1 gb (go+i*8) us:=by
  rcases hgl with hgl|⟨gb,go,q1,q2,q3,q4⟩
  ·exact⟨0,0,fun h=>by rw[show(ü v)=[] from hgl] at h; simp at h⟩
  ·exact⟨gb,go,fun _=>⟨q1,q2,q3,q4⟩⟩
 obtain⟨gl,hgle⟩:∃gl,gl=ü v:=⟨_,rfl⟩;rw[←hgle] at hgb eu3
 have hR:∀b,(0<gl.length∧b=gb)→b<w1.heap.size∧¬agd ν2 (cS p v).h b:=fun b ⟨h,e⟩=>by subst e; obtain⟨_,q2,q3,_⟩:=hgb h; exact⟨q3,fun hl=>q2 (.inl hl)⟩
 have hnd:∀pre W,CI G p v ν2 w1 pre W→KNd w1 (fun b=>0<gl.length∧b=gb) tb (Ū v) W:=fun pre W hI=>hI.nd s2'.heap hR n6
 have hI0:CI G p v ν2 w1 [] w1:=by
  refine⟨ν2,?_,?_⟩
  ·rw[show ħ v (([]:List Nat).map (gz (ü v)))=v from hv0]; exact s2'.heap
  ·rw[show ħ v (([]:List Nat).map (gz (ü v)))=v from hv0]; exact Ev.refl _ _ _ _
 have hp59:=s2'.tmps 59;rw[cS_59] at hp59
 have hg:a1.tmps.getD 59 undef=.func (.func 186) #[] #[.pointer (some ⟨bb,0,none⟩),.pointer (some ⟨tb,0,none⟩)]:=by
  obtain⟨fs,cs,h1,h2,h3⟩:=hp59
  have e1:fs=#[]:=by rw[←dU]; exact h2.nil_left
  have hl:=h3.length
  obtain⟨v1,v2,e2⟩:∃v1 v2,cs.toList=[v1,v2]:=by
   rcases hcs:cs.toList with _|⟨v1,_|⟨v2,_|⟨v3,t⟩⟩⟩<;>rw[hcs] at hl<;>simp at hl
   exact⟨v1,v2,rfl⟩
  rw[e2] at h3;have e3:v1=.pointer (some ⟨bb,0,none⟩):=AH (w:=w1) (id:=5) (off:=0) h3.1 n5;have e4:v2=.pointer (some ⟨tb,0,none⟩):=AH (w:=w1) (id:=6) (off:=0) h3.2.1 n6;rw[h1,e1];congr 1;rw[←dU,e2,e3,e4]
 have hcbe:cb=#[u1,u2,.slice base gl.length cap,u4,u5,u6,u7]:=by rw[←dU,hcb,eu3]
 have hseq:SeqStopsK Fence.wide 1 Tryz.prog 186 #[.pointer (some ⟨bb,0,none⟩),.pointer (some ⟨tb,0,none⟩)] (fun j:Nat=>#[encG (gz gl j)]) (fun A B=>KNd w1 (fun b=>0<gl.length∧b=gb) tb (Ū v) A→KNd w1 (fun b=>0<gl.length∧b=gb) tb (Ū v) B)
  (fun xs=>xs=Ts (fun j=>M5 (Ū v) (gz gl j).1) gl.length) (fun _=>True) (Ts (fun j=>M5 (Ū v) (gz gl j).1) gl.length).length w1:=by
  intro l J Jx W hbel hJ hJx hY h0
  refine apt te 1 (by omega) l bb tb u1 u2 u4 u5 u6 u7 gb go gl.length cap base (fun h=>(hgb h).1) (fun j=>(gz gl j).1) (fun j=>(gz gl j).2.1) (fun j=>(gz gl j).2.2.1) (fun j=>(gz gl j).2.2.2.1.1) (fun j=>(gz gl j).2.2.2.1.2) (fun j=>(gz gl j).2.2.2.2.1.1) (fun j=>(gz gl j).2.2.2.2.1.2) (fun j=>(gz gl j).2.2.2.2.2)
   (fun j=>M5 (Ū v) (gz gl j).1) ?len (KNd w1 (fun b=>0<gl.length∧b=gb) tb (Ū v)) W ((hbel.block bb (Ĝ hbb)).trans (by rw[hbb,hcbe])) ?cells ?maps (fun W1 W2 h hg=>h.grown (fun b hb=>(hR b hb).1) hg) ((hnd [] w1 hI0).below (fun b hb=>(hR b hb).1) hbel.size hbel.block)
   J Jx (fun pre W1 W2 hj hg=>hJ pre W1 W2 none hj hg (fun r e=>by cases e)) (fun pre W1 W2 hj hg=>hJx pre W1 W2 none hj hg (fun r e=>by cases e)) (fun pre j W1 hj hl=>hY pre j W1 hj hl) h0
  case len =>
   have:=hzl;rw[←hgle] at this;simp only[î,decide_eq_true_eq] at this;omega
  case cells =>
   intro W' hW j hj;obtain⟨q1,q2,q3,q4⟩:=hgb (by omega);obtain⟨vs,r1,r2⟩:=q4 j (gz gl j) (by simp[gz,cO hj]);have r2:=r2.keep (w':=W') (hW.2.1 gb ⟨by omega,rfl⟩);rw[afD r1] at r2;refine⟨?_,?_,?_,?_,?_,?_,?_,?_⟩
   ·simpa using r2 0 _ rfl
   ·simpa[fg] using r2 1 _ rfl
   ·simpa[fg] using r2 2 _ rfl
   ·simpa[fg] using r2 3 _ rfl
   ·simpa[fg] using r2 4 _ rfl
   ·simpa[fg] using r2 5 _ rfl
   ·simpa[fg] using r2 6 _ rfl
   ·simpa[fg] using r2 7 _ rfl
  case maps =>
   intro W' hW;obtain⟨_,_,h3,mb,h4,h5,h6⟩:=id hW;refine⟨.map (some mb),fun W'' hg=>?_⟩;obtain⟨k1,_,k3,mb',k4,k5,k6⟩:=hW.grown (fun b hb=>(hR b hb).1) hg
   have:mb'=mb:=by
    have e:=World.cell?_of_block (a:=⟨tb,0,none⟩) (hg.block tb (dC h3 hW.1) (by simp));rw[e,h5] at k5;cases k5; rfl
   subst this;exact⟨k5,fun j _=>anr k6 _⟩
 rw[ait];refine wpIn_block (Tu (n:=2) rfl (by omega) hg trivial (fun args w=>?eg) hseq (fun h k=>fun q=>k (h q)) (fun W l o o' hl ho _ _ hW=>?kb) (Below.refl _ _) (fun _=>rfl) (CI G p v ν2 w1) (CI.own s2'.heap) hI0 (fun l pre j W hl _ hI hlt=>?round) (fun D xs W hD hxs hI hDo=>?done))
 case eg=>simp[callFunc,Sem.run_bind,run_program,Result.andThen_ok,Tryz.func186,plain 186 _ Tryz.func186,show Tryz.f186.body.isNone=false from rfl]; rfl
 case kb=>exact hW.below (fun b hb=>(hR b hb).1) (by simp[World.putObj]) fun b hb=>World.putObj_heap_other (by omega)
 case round =>
  have hf:∀u:Value,((#[60]:Array Tmp).zip #[u]).foldl (fun t (p,v)=>t.setIfInBounds p v) a1.tmps=a1.tmps.setIfInBounds 60 u:=fun u=>by simp
  show Code.wpIn (Fence.wide.inRound l) 0 Tryz.prog _ _ ⟨((#[60]:Array Tmp).zip #[encG (gz gl j)]).foldl (fun t (p,v)=>t.setIfInBounds p v) a1.tmps,[]⟩ W;rw[hf];refine wpIn_mono (alx s2' l pre j W hl hI ?_ (u:=encG (gz gl j)) (by rw[hgle]; exact fun ν h w=>apD _ ν h w)) fun e a' Wa ha=>?_
  ·refine anh hzl ?_;have:=aet (fun j=>M5 (Ū v) (gz gl j).1) gl.length;rw[←hgle];omega
  ·cases e with
   |normal =>
    refine⟨ha.1,fun r' hr=>wpIn_mono (ha.2 r' hr) fun e a3 W3 hb=>?_⟩
    cases e with
    |normal=>exact⟨hb.1,fun _=>hnd _ _ hb.2,hb.2⟩
    |_=>exact hb
   |_=>exact ha
 case done =>
  subst hxs;obtain⟨ν',Hd,evd⟩:=hI
  have hzz:(Ts (fun j=>M5 (Ū v) (gz gl j).1) gl.length).map (gz (ü v))=z:=by rw[hzs,hgle]
  rw[hzz] at Hd evd;have hml:=A5 s2'.heap evd (aoi p v) (af3 _ _) (t:=[false]) (by simp);have ht:(cS p (ħ v z)).t=(cS p v).t:=cS_t _ _ _
  have simD:Sim ν' (cS p (ħ v z)) a1 W:=by
   refine⟨s2'.defers,?_,fun i=>?_,Hd⟩
   ·rw[ht]; exact s2'.len
   ·rw[ht]; exact VR.pin evd (acW rfl _ (aoU p v) i) (s2'.tmps i)
  exact anT simD hB hDo (We Hd hml hD hDo rfl) (evw.trans (evd.mono (ej _)) (cQ _)) (dG evw.size hD)
def alS:Ò Tryz.prog 62 qr:=fun G x y hF w vals hG hAL=>anV G x y hF w vals hG hAL
end Go.Proofs.ZzM
end

noncomputable section
set_option maxRecDepth 100000
namespace Go.Proofs.ZzM
open Go Go.Am
def WF:Ò Tryz.prog 30 Jr:=É (LI _) (fun {_}=>ē Ç _) hmix (tab:=Ci _) rfl Ç (Æ fun x=>Tz x some)
def an5:Ò Tryz.prog 10 agN:=É (JD _) (fun {_}=>ē (Á WF Ç) _) hmix (tab:=LH _) rfl (Á Tx Ç) (Æ fun x=>abz x some)
def jI:Ò Tryz.prog 136 Γ:=É (ů _) (fun {_}=>ē Ç _) hmix (tab:=iw _) rfl (Á lE Ç) (Æ fun x=>mJ x some)
def jJ:Ò Tryz.prog 67 jv:=É (RM _) (fun {_}=>ē (Á ť (Á SX (Á jI Ç))) _) hmix (tab:=If _) rfl Ç (Æ fun x=>Zp x some)
def nf:Ò Tryz.prog 50 kG:=É (Gv _) (fun {_}=>ē (Á jJ Ç) _) hmix (tab:=zt _) rfl Ç (Æ fun x=>QE x some)
def AE:Ò Tryz.prog 117 rA:=É (χ _) (fun {_}=>ē Ç _) hmix (tab:=xL _) rfl (Á Hn (Á Hm (Á Hk (Á Hl (Á Hj Ç))))) (Æ fun x=>NP x some)
def ZT:Ò Tryz.prog 139 Oj:=É (VY _) (fun {_}=>ē Ç _) hmix (tab:=Mi _) rfl Ç (Æ fun x=>acl x some)
def AF:Ò Tryz.prog 138 tV:=É (EA _) (fun {_}=>ē (Á ZT Ç) _) hmix (tab:=Ht _) rfl (Á Q8 Ç) (Æ fun x=>YR x some)
def alV:Ò Tryz.prog 112 aa9:=É (Ez _) (fun {_}=>ē (Á AE (Á AF (Á ZT Ç))) _) hmix (tab:=Hq _) rfl (Á Q0 Ç) (Æ fun x=>YP x some)
def ajf:Ò Tryz.prog 120 VE:=É (jA _) (fun {_}=>ē Ç _) hmix (tab:=C2 _) rfl (Á NV (Á NU (Á NT (Á NR (Á NS Ç))))) (Æ fun x=>UC x some)
def SU:Ò Tryz.prog 114 FC:=É (Rf _) (fun {_}=>ē (Á alV (Á ajf Ç)) _) hmix (tab:=Hx _) rfl Ç (Æ fun x=>YT x some)
def nz:Ò Tryz.prog 51 j9:=É (xA _) (fun {_}=>ē (Á SU Ç) _) hmix (tab:=rX _) rfl Ç (Æ fun x=>Gu x some)
def DA:Ò Tryz.prog 64 sV:=É (xz _) (fun {_}=>ē (Á nf (Á nz Ç)) _) hmix (tab:=rW _) rfl Ç (Æ fun x=>Gt x some)
def vy:Ò Tryz.prog 65 mF:=É (qB _) (fun {_}=>ē (Á nf (Á nz Ç)) _) hmix (tab:=n0 _) rfl Ç (Æ fun x=>zr x some)
def nc:Ò Tryz.prog 48 jM:=É (kM _) (fun {_}=>RT (Á DA (Á vy Ç)) (kM _) rfl rfl rfl rfl rfl (iB rfl)) hmix (tab:=nZ _) rfl Ç (Æ fun x=>zq x some)
def MU:Ò Tryz.prog 198 yu:=É (Dr _) (fun {_}=>ē (Á jI Ç) _) hmix (tab:=xT _) rfl Ç (Æ fun x=>NZ x some)
def N6:Ò Tryz.prog 263 xo:=É (su _) (fun {_}=>ē Ç _) hmix (tab:=oX _) rfl Ç (Æ fun x=>B0 x some)
def AG:Ò Tryz.prog 266 tW:=É (EB _) (fun {_}=>ē (Á I2 Ç) _) hmix (tab:=Hy _) rfl (Á Rh Ç) (Æ fun x=>YU x some)
def SV:Ò Tryz.prog 294 DW:=É (Hz _) (fun {_}=>ē (Á ahB (Á alY Ç)) _) hmix (tab:=zV _) rfl Ç (Æ fun x=>Rj x some)
def apR:Ò Tryz.prog 283 aj2:=É (acy _) (fun {_}=>ē (Á AG (Á SV Ç)) _) hmix (tab:=Rq _) rfl Ç (Æ fun x=>afk x some)
def ZV:Ò Tryz.prog 264 FF:=É (zY _) (fun {_}=>ē (Á apR Ç) _) hmix (tab:=uQ _) rfl Ç (Æ fun x=>Ky x some)
def afZ:Ò Tryz.prog 300 aeG:=É (acw _) (fun {_}=>ē Ç _) hmix (tab:=Rn _) rfl Ç (Æ fun x=>afi x some)
def DB:Ò Tryz.prog 295 Cg:=É (xQ _) (fun {_}=>ē (Á AG (Á afZ Ç)) _) hmix (tab:=sr _) rfl Ç (Æ fun x=>HD x some)
def al0:Ò Tryz.prog 298 aj3:=É (acA _) (fun {_}=>ē (Á AG (Á SV Ç)) _) hmix (tab:=Rs _) rfl Ç (Æ fun x=>afm x some)
def alZ:Ò Tryz.prog 284 abc:=aaN (ED _) (acz _) (fun {_}=>RT (Á I2 (Á DB (Á al0 (Á afZ Ç)))) (ED _) rfl rfl rfl rfl rfl (iB rfl)) (fun {_}=>ē (Á I2 (Á DB (Á al0 (Á afZ Ç)))) _) rfl hmix (tab:=wu _) rfl Ç (us:=Mr) rfl (Á (by kernel_rfl) Ç) (Æ fun x=>YZ x some)
def ZU:Ò Tryz.prog 265 FE:=É (zX _) (fun {_}=>ē (Á alZ Ç) _) hmix (tab:=uP _) rfl Ç (Æ fun x=>Kx x some)
def WL:Ò Tryz.prog 238 Jy:=É (MB _) (fun {_}=>ē (Á SW (Á I3 (Á N6 (Á ZV (Á ZU Ç))))) _) hmix (tab:=Du _) rfl Ç (Æ fun x=>UW x some)
def adO:Ò Tryz.prog 239 Pp:=É (RJ _) (fun {_}=>ē Ç _) hmix (tab:=HZ _) rfl Ç (Æ fun x=>Zg x some)
def adM:Ò Tryz.prog 267 Pm:=É (Rm _) (fun {_}=>ē Ç _) hmix (tab:=HA _) rfl Ç (Æ fun x=>YX x some)
def ahC:Ò Tryz.prog 240 Xn:=É (V7 _) (fun {_}=>ē (Á AG (Á adM Ç)) _) hmix (tab:=Mu _) rfl Ç (Æ fun x=>acC x some)
def adN:Ò Tryz.prog 241 Pn:=É (Rt _) (fun {_}=>ē (Á AG (Á adM Ç)) _) hmix (tab:=HE _) rfl Ç (Æ fun x=>Y0 x some)
def ahD:Ò Tryz.prog 203 Xo:=É (V8 _) (fun {_}=>ē (Á WL (Á adO (Á ahC (Á adN Ç)))) _) hmix (tab:=Mw _) rfl Ç (Æ fun x=>acF x some)
def aof:Ò Tryz.prog 235 agX:=É (Bc _) (fun {_}=>ē (Á ng Ç) _) hmix (tab:=My _) rfl (Á UQ (Á UP Ç)) (Æ fun x=>acI x some)
def ahE:Ò Tryz.prog 137 Xp:=É (uR _) (fun {_}=>ē (Á SX (Á ahF (Á MU (Á I3 (Á ahD (Á aof Ç)))))) _) hmix (tab:=Mx _) rfl (Á UN (Á UO (Á UM Ç))) (Æ fun x=>acH x some)
def ŭ:Ò Tryz.prog 68 ũ:=É (MF _) (fun {_}=>ē (Á ť (Á ahE Ç)) _) hmix (tab:=Dv _) rfl Ç (Æ fun x=>U1 x some)
def pK:Ò Tryz.prog 110 pf:=É (KH _) (fun {_}=>ē (Á ť Ç) _) hmix (tab:=MH _) rfl (Á U3 Ç) (Æ fun x=>acQ x some)
def ŝ:Ò Tryz.prog 111 Ś:=É (xN _) (fun {_}=>ē (Á AE (Á AF Ç)) _) hmix (tab:=si _) rfl Ç (Æ fun x=>Hr x some)
def adK:Ò Tryz.prog 12 LG:=É (ta _) (fun {_}=>ē (Á nc (Á ť (Á jJ (Á ŭ (Á pK (Á ŝ Ç)))))) _) hmix (tab:=xD _) rfl (Á G7 Ç) (Æ fun x=>NL x some)
def afY:Ò Tryz.prog 14 Pk:=É (wj _) (fun {_}=>ē (Á nf (Á nz (Á ť (Á jJ (Á ŭ (Á pK (Á ŝ Ç))))))) _) hmix (tab:=zI _) rfl (Á Kj Ç) (Æ fun x=>QW x some)
def EX:Ò Tryz.prog 57 DS:=É (Gs _) (fun {_}=>ē Ç _) hmix (tab:=zo _) rfl Ç (Æ fun x=>QC x some)
def alT:Ò Tryz.prog 21 aa7:=É (Et _) (fun {_}=>ē (Á nc (Á EX (Á ť (Á jJ (Á ŭ (Á pK (Á ŝ Ç))))))) _) hmix (tab:=G6 _) rfl (Á QQ Ç) (Æ fun x=>YH x some)
def adL:Ò Tryz.prog 122 Pl:=É (Kn _) (fun {_}=>ē Ç _) hmix (tab:=acm _) rfl (Á afe (Á afc (Á afb (Á afd Ç)))) (Æ fun x=>akD x some)
def alX:Ò Tryz.prog 61 abb:=É (qH _) (fun {_}=>ē (Á SU (Á adL Ç)) _) hmix (tab:=Hw _) rfl (Á Rc (Á Ra (Á Rb Ç))) (Æ fun x=>YS x some)
def ZS:Ò Tryz.prog 60 FB:=É (zH _) (fun {_}=>ē (Á nf (Á alX Ç)) _) hmix (tab:=uE _) rfl Ç (Æ fun x=>Ki x some)
def SQ:Ò Tryz.prog 63 DT:=É (vU _) (fun {_}=>ē (Á ŭ Ç) _) hmix (tab:=zp _) rfl (Á J2 Ç) (Æ fun x=>QD x some)
def afX:Ò Tryz.prog 24 Pj:=É (lV _) (fun {_}=>RT (Á ZS (Á alS (Á SQ (Á DA (Á vy (Á ť (Á jJ (Á ŭ (Á pK (Á ŝ Ç)))))))))) (lV _) rfl rfl rfl rfl rfl (iB rfl)) hmix (tab:=zG _) rfl (Á Kh (Á Kg Ç)) (Æ fun x=>QV x some)
def SS:Ò Tryz.prog 140 DU:=É (wo _) (fun {_}=>ē Ç _) hmix (tab:=zK _) rfl (Á Km Ç) (Æ fun x=>QY x some)
def ahA:Ò Tryz.prog 141 Xl:=É (Kk _) (fun {_}=>ē Ç _) hmix (tab:=Mh _) rfl (Á UA Ç) (Æ fun x=>ack x some)
def Vb:Ò Tryz.prog 69 Cf:=É (xP _) (fun {_}=>ē (Á AF (Á ZT (Á SS (Á ahA Ç)))) _) hmix (tab:=sl _) rfl Ç (Æ fun x=>Hv x some)
def I1:Ò Tryz.prog 25 vG:=É (zF _) (fun {_}=>ē (Á ť (Á jJ (Á ŭ (Á Vb Ç)))) _) hmix (tab:=uD _) rfl Ç (Æ fun x=>Kf x some)
def ahG:Ò Tryz.prog 147 Xs:=É (KE _) (fun {_}=>ē (Á ť Ç) _) hmix (tab:=ME _) rfl (Á U0 Ç) (Æ fun x=>acO x some)
def al2:Ò Tryz.prog 200 abe:=É (Rx _) (fun {_}=>ē (Á WL (Á adO (Á ahC (Á adN Ç)))) _) hmix (tab:=HG _) rfl Ç (Æ fun x=>Y4 x some)
def af2:Ò Tryz.prog 146 Pq:=É (Ib _) (fun {_}=>ē (Á SU (Á ahE (Á ahG (Á MU (Á I3 (Á al2 Ç)))))) _) hmix (tab:=Af _) rfl Ç (Æ fun x=>RL x some)
def al1:Ò Tryz.prog 202 abd:=É (Rv _) (fun {_}=>ē (Á ť Ç) _) hmix (tab:=HF _) rfl Ç (Æ fun x=>Y3 x some)
def aoh:Ò Tryz.prog 148 agZ:=É (V9 _) (fun {_}=>ē (Á al1 (Á ahD Ç)) _) hmix (tab:=MG _) rfl Ç (Æ fun x=>acP x some)
def WM:Ò Tryz.prog 149 Jz:=É (MI _) (fun {_}=>ē (Á I3 (Á WK Ç)) _) hmix (tab:=Dw _) rfl Ç (Æ fun x=>U4 x some)
def adI:Ò Tryz.prog 150 LF:=É (CU _) (fun {_}=>ē (Á nf Ç) _) hmix (tab:=xC _) rfl Ç (Æ fun x=>NH x some)
def adH:Ò Tryz.prog 151 LD:=É (CT _) (fun {_}=>ē (Á nz Ç) _) hmix (tab:=xB _) rfl Ç (Æ fun x=>NG x some)
def BD:Ò Tryz.prog 76 A1:=É (rZ _) (fun {_}=>RT (Á nf (Á ŭ (Á af2 (Á ahG (Á aoh (Á WM (Á adI (Á adH Ç)))))))) (rZ _) rfl rfl rfl rfl rfl (iB rfl)) hmix (tab:=CS _) rfl (Á NF Ç) (Æ fun x=>Un x some)
def xe:Ò Tryz.prog 82 vF:=É (zz _) (fun {_}=>ē Ç _) hmix (tab:=uj _) rfl Ç (Æ fun x=>J6 x some)
def ajd:Ò Tryz.prog 154 VC:=É (L8 _) (fun {_}=>ē Ç _) hmix (tab:=CV _) rfl Ç (Æ fun x=>Uo x some)
def tF:Ò Tryz.prog 86 sT:=É (xx _) (fun {_}=>ē (Á ajd Ç) _) hmix (tab:=rU _) rfl Ç (Æ fun x=>Gq x some)
def tG:Ò Tryz.prog 88 sU:=É (ky _) (fun {_}=>ē Ç _) hmix (tab:=rV _) rfl (Á BV (Á BW Ç)) (Æ fun x=>Gr x some)
def AD:Ò Tryz.prog 77 qq:=É (mQ _) (fun {_}=>ē (Á Ŭ (Á xe (Á tF (Á tG Ç)))) _) hmix (tab:=qw _) rfl (Á zn Ç) (Æ fun x=>Ei x some)
def adJ:Ò Tryz.prog 31 Pg:=É (Er _) (fun {_}=>ē (Á ť (Á jJ (Á ŭ (Á BD (Á AD (Á pK (Á ŝ Ç))))))) _) hmix (tab:=GX _) rfl (Á QN Ç) (Æ fun x=>YE x some)
def I0:Ò Tryz.prog 83 FA:=É (zC _) (fun {_}=>ē Ç _) hmix (tab:=uA _) rfl Ç (Æ fun x=>Kd x some)
def IZ:Ò Tryz.prog 84 Fz:=É (zA _) (fun {_}=>ē Ç _) hmix (tab:=uk _) rfl Ç (Æ fun x=>J7 x some)
def afW:Ò Tryz.prog 35 Ph:=aaN (wa _) (Ę _) (fun {_}=>RT (Á EX (Á ť (Á jJ (Á ŭ (Á BD (Á Ŭ (Á xe (Á I0 (Á IZ (Á tF (Á tG (Á pK (Á ŝ Ç))))))))))))) (wa _) rfl rfl rfl rfl rfl (iB rfl)) (fun {_}=>RT (Á EX (Á ť (Á jJ (Á ŭ (Á BD (Á Ŭ (Á xe (Á I0 (Á IZ (Á tF (Á tG (Á pK (Á ŝ Ç))))))))))))) (Ę _) rfl rfl rfl rfl rfl (iB rfl)) rfl hmix (tab:=qG _) rfl (Á Kc (Á Kb Ç)) (us:=s8) rfl (Á (by kernel_rfl) Ç) (Æ fun x=>QP x some)
def alW:Ò Tryz.prog 91 aba:=É (kP _) (fun {_}=>ē (Á AE (Á adL (Á AF Ç))) _) hmix (tab:=Hs _) rfl (Á Q6 (Á Q2 (Á Q3 (Á Q4 (Á Q5 Ç))))) (Æ fun x=>YQ x some)
def alU:Ò Tryz.prog 38 aa8:=É (QT _) (fun {_}=>ē (Á alS (Á SQ (Á ŭ (Á alW Ç)))) _) hmix (tab:=G8 _) rfl Ç (Æ fun x=>YI x some)
def adz:Ò Tryz.prog 44 LA:=É (Ch _) (fun {_}=>ē Ç _) hmix (tab:=xp _) rfl Ç (Æ fun x=>M8 x some)
def aob:Ò Tryz.prog 106 agT:=É (VX _) (fun {_}=>ē (Á WM Ç) _) hmix (tab:=L6 _) rfl Ç (Æ fun x=>ab3 x some)
def alR:Ò Tryz.prog 107 aa6:=É (QJ _) (fun {_}=>ē Ç _) hmix (tab:=GU _) rfl Ç (Æ fun x=>Yw x some)
def alQ:Ò Tryz.prog 108 aa5:=É (En _) (fun {_}=>ē (Á Ŭ Ç) _) hmix (tab:=GS _) rfl (Á QF Ç) (Æ fun x=>Yu x some)
def aod:Ò Tryz.prog 45 agV:=É (A8 _) (fun {_}=>ē (Á nc (Á ť (Á jJ (Á ŭ (Á aob (Á alR (Á alQ (Á pK (Á ŝ Ç))))))))) _) hmix (tab:=Me _) rfl (Á Uu (Á Ut Ç)) (Æ fun x=>acg x some)
def Va:Ò Tryz.prog 92 Ce:=É (xO _) (fun {_}=>ē (Á AF (Á SS (Á ahA Ç))) _) hmix (tab:=sk _) rfl Ç (Æ fun x=>Hu x some)
def U9:Ò Tryz.prog 39 Cd:=É (xE _) (fun {_}=>ē (Á ť (Á ŭ (Á Va Ç))) _) hmix (tab:=sg _) rfl Ç (Æ fun x=>G9 x some)
def oS:Ò Tryz.prog 248 i9:=É (ŗ _) (fun {_}=>ē Ç _) hmix (tab:=η _) rfl (Á kI Ç) (Æ fun x=>lG x some)
def mn:Ò Tryz.prog 216 ig:=É (Ρ _) (fun {_}=>ē (Á oS Ç) _) hmix (tab:=ż _) rfl Ç (Æ fun x=>ke x some)
def tE:Ò Tryz.prog 250 j8:=É (Δ _) (fun {_}=>ē Ç _) hmix (tab:=ja _) rfl (Á mI Ç) (Æ fun x=>oJ x some)
def pJ:Ò Tryz.prog 219 jj:=É (iJ _) (fun {_}=>ē (Á tE Ç) _) hmix (tab:=il _) rfl Ç (Æ fun x=>mm x some)
def rj:Ò Tryz.prog 252 ju:=É (Ű _) (fun {_}=>ē Ç _) hmix (tab:=ix _) rfl (Á lF Ç) (Æ fun x=>mK x some)
def oz:Ò Tryz.prog 222 iH:=É (ip _) (fun {_}=>ē (Á rj Ç) _) hmix (tab:=Ο _) rfl Ç (Æ fun x=>lr x some)
def aoc:Ò Tryz.prog 109 agU:=É (Χ _) (fun {_}=>ē (Á mn (Á pJ (Á oz Ç))) _) hmix (tab:=L7 _) rfl (Á Ul (Á Ui (Á Uh (Á Uj (Á Uk (Á Ug (Á Uf (Á Ue (Á Ud (Á Uc Ç)))))))))) (Æ fun x=>ab4 x some)
def aje:Ò Tryz.prog 46 VD:=É (Md _) (fun {_}=>ē (Á I1 (Á U9 (Á ť (Á aoc Ç)))) _) hmix (tab:=CY _) rfl Ç (Æ fun x=>Us x some)
def afU:Ò Tryz.prog 11 O9:=É (FS _) (fun {_}=>ē (Á adK (Á afY (Á alT (Á afX (Á I1 (Á adJ (Á afW (Á alU (Á adz (Á aod (Á aje Ç))))))))))) _) hmix (tab:=yz _) rfl Ç (Æ fun x=>PD x some)
def sP:Ò Tryz.prog 94 nD:=É (Cn _) (fun {_}=>ē Ç _) hmix (tab:=xr _) rfl Ç (Æ fun x=>Na x some)
def SN:Ò Tryz.prog 164 Js:=É (abP _) (fun {_}=>ē Ç _) hmix (tab:=Qg _) rfl Ç (Æ fun x=>aeQ x some)
def OK:Ò Tryz.prog 100 Fy:=É (VQ _) (fun {_}=>ē (Á SN Ç) _) hmix (tab:=LV _) rfl Ç (Æ fun x=>abS x some)
def ahy:Ò Tryz.prog 209 Xj:=É (JY _) (fun {_}=>ē Ç _) hmix (tab:=L2 _) rfl (Á T7 Ç) (Æ fun x=>abZ x some)
def ahz:Ò Tryz.prog 210 Xk:=É (VW _) (fun {_}=>ē Ç _) hmix (tab:=L5 _) rfl Ç (Æ fun x=>ab2 x some)
def ajb:Ò Tryz.prog 163 VA:=É (LW _) (fun {_}=>ē (Á ahy (Á ahz Ç)) _) hmix (tab:=CN _) rfl Ç (Æ fun x=>T5 x some)
def ai9:Ò Tryz.prog 95 Vy:=É (LO _) (fun {_}=>ē (Á sP (Á OK (Á ajb (Á SN Ç)))) _) hmix (tab:=Cr _) rfl Ç (Æ fun x=>TG x some)
def IY:Ò Tryz.prog 166 yr:=É (Ef _) (fun {_}=>ē Ç _) hmix (tab:=Gi _) rfl (Á Qi Ç) (Æ fun x=>Ya x some)
def BA:Ò Tryz.prog 101 tS:=É (LQ _) (fun {_}=>ē (Á IY Ç) _) hmix (tab:=Cv _) rfl Ç (Æ fun x=>TO x some)
def alF:Ò Tryz.prog 96 aaU:=É (D5 _) (fun {_}=>ē (Á OK (Á BA Ç)) _) hmix (tab:=FV _) rfl (Á PI Ç) (Æ fun x=>XK x some)
def ai7:Ò Tryz.prog 97 Vw:=É (nV _) (fun {_}=>ē (Á sP (Á BA (Á SN Ç))) _) hmix (tab:=Cp _) rfl (Á Nc (Á Nb (Á Nf Ç))) (Æ fun x=>TE x some)
def alK:Ò Tryz.prog 165 aaZ:=É (Ea _) (fun {_}=>ē (Á SN Ç) _) hmix (tab:=Ga _) rfl (Á PZ Ç) (Æ fun x=>X0 x some)
def ai6:Ò Tryz.prog 98 Vv:=É (LK _) (fun {_}=>ē (Á sP (Á OK (Á SN (Á alK Ç)))) _) hmix (tab:=Co _) rfl Ç (Æ fun x=>TD x some)
def adE:Ò Tryz.prog 167 Pc:=É (Ec _) (fun {_}=>ē Ç _) hmix (tab:=Ge _) rfl (Á Qb Ç) (Æ fun x=>X5 x some)
def an6:Ò Tryz.prog 211 agO:=É (JP _) (fun {_}=>ē Ç _) hmix (tab:=LS _) rfl (Á TX Ç) (Æ fun x=>abQ x some)
def adF:Ò Tryz.prog 168 Pd:=É (Ed _) (fun {_}=>ē (Á an6 Ç) _) hmix (tab:=Gf _) rfl (Á Qd Ç) (Æ fun x=>X6 x some)
def ZR:Ò Tryz.prog 99 Fx:=É (jx _) (fun {_}=>ē (Á BA (Á IY (Á adE (Á adF Ç)))) _) hmix (tab:=ug _) rfl (Á D8 (Á D7 (Á D6 Ç))) (Æ fun x=>JK x some)
def OJ:Ò Tryz.prog 158 Fw:=É (VP _) (fun {_}=>ē (Á adF Ç) _) hmix (tab:=LM _) rfl Ç (Æ fun x=>abC x some)
def alG:Ò Tryz.prog 169 aaV:=É (vP _) (fun {_}=>ē (Á OJ Ç) _) hmix (tab:=F1 _) rfl (Á PQ (Á PP Ç)) (Æ fun x=>XR x some)
def BB:Ò Tryz.prog 102 tT:=É (iK _) (fun {_}=>ē (Á alG Ç) _) hmix (tab:=CB _) rfl (Á No (Á Nn (Á Nl (Á Ni (Á Nj (Á Nk Ç)))))) (Æ fun x=>TT x some)
def BC:Ò Tryz.prog 52 tU:=É (yW _) (fun {_}=>ē (Á BB Ç) _) hmix (tab:=CG _) rfl (Á Np Ç) (Æ fun x=>TW x some)
def alI:Ò Tryz.prog 212 aaX:=É (D9 _) (fun {_}=>ē Ç _) hmix (tab:=F3 _) rfl (Á PU Ç) (Æ fun x=>XT x some)
def alM:Ò Tryz.prog 170 aa1:=É (Eb _) (fun {_}=>ē (Á IY (Á adE (Á alI Ç))) _) hmix (tab:=Gc _) rfl (Á P7 Ç) (Æ fun x=>X3 x some)
def SP:Ò Tryz.prog 285 DR:=É (Gj _) (fun {_}=>ē (Á ahy (Á ahz Ç)) _) hmix (tab:=zm _) rfl Ç (Æ fun x=>Qv x some)
def aoa:Ò Tryz.prog 268 agS:=É (VV _) (fun {_}=>ē (Á SP Ç) _) hmix (tab:=L4 _) rfl Ç (Æ fun x=>ab1 x some)
def an8:Ò Tryz.prog 269 agQ:=É (VT _) (fun {_}=>ē Ç _) hmix (tab:=LZ _) rfl Ç (Æ fun x=>abX x some)
def an7:Ò Tryz.prog 242 agP:=É (VS _) (fun {_}=>ē (Á aoa (Á an8 Ç)) _) hmix (tab:=LX _) rfl Ç (Æ fun x=>abW x some)
def ai8:Ò Tryz.prog 243 Vx:=É (LN _) (fun {_}=>ē (Á IY Ç) _) hmix (tab:=Cq _) rfl Ç (Æ fun x=>TF x some)
def alP:Ò Tryz.prog 270 aa4:=É (Qy _) (fun {_}=>ē Ç _) hmix (tab:=Gl _) rfl Ç (Æ fun x=>Yg x some)
def an9:Ò Tryz.prog 271 agR:=É (VU _) (fun {_}=>ē (Á SP Ç) _) hmix (tab:=L1 _) rfl Ç (Æ fun x=>abY x some)
def ajc:Ò Tryz.prog 244 VB:=É (LY _) (fun {_}=>ē (Á alP (Á an9 Ç)) _) hmix (tab:=CO _) rfl Ç (Æ fun x=>T6 x some)
def SO:Ò Tryz.prog 205 DQ:=É (Gh _) (fun {_}=>ē (Á OJ (Á an7 (Á ai8 (Á ajc Ç)))) _) hmix (tab:=yX _) rfl Ç (Æ fun x=>Qh x some)
def WG:Ò Tryz.prog 206 Jt:=É (LU _) (fun {_}=>ē Ç _) hmix (tab:=CJ _) rfl Ç (Æ fun x=>T0 x some)
def apQ:Ò Tryz.prog 245 aj1:=É (abT _) (fun {_}=>ē Ç _) hmix (tab:=Qu _) rfl Ç (Æ fun x=>aeU x some)
def adG:Ò Tryz.prog 207 Pf:=É (QA _) (fun {_}=>ē (Á apQ Ç) _) hmix (tab:=Gn _) rfl Ç (Æ fun x=>Yp x some)
def alO:Ò Tryz.prog 246 aa3:=É (Qw _) (fun {_}=>ē Ç _) hmix (tab:=Gk _) rfl Ç (Æ fun x=>Yf x some)
def WJ:Ò Tryz.prog 208 Jv:=É (L3 _) (fun {_}=>ē (Á alO Ç) _) hmix (tab:=CP _) rfl Ç (Æ fun x=>T8 x some)
def alJ:Ò Tryz.prog 171 aaY:=É (PX _) (fun {_}=>ē (Á SO (Á WG (Á adG (Á WJ Ç)))) _) hmix (tab:=F8 _) rfl Ç (Æ fun x=>XZ x some)
def ahx:Ò Tryz.prog 103 Xi:=É (uh _) (fun {_}=>ē (Á BC (Á BB (Á OJ (Á alM (Á alJ Ç))))) _) hmix (tab:=LP _) rfl (Á TL (Á TM (Á TK Ç))) (Æ fun x=>abH x some)
def Lf:Ò Tryz.prog 41 A0:=É (kX _) (fun {_}=>ē (Á sP (Á ai9 (Á alF (Á ai7 (Á ai6 (Á ZR (Á OK (Á BA (Á BB (Á ahx Ç)))))))))) _) hmix (tab:=CL _) rfl (Á Nt (Á Nr (Á Ns (Á Nq Ç)))) (Æ fun x=>T1 x some)
def EW:Ò Tryz.prog 43 vE:=É (F7 _) (fun {_}=>ē (Á BB (Á ahx Ç)) _) hmix (tab:=yK _) rfl Ç (Æ fun x=>PW x some)
def alN:Ò Tryz.prog 53 aa2:=É (P9 _) (fun {_}=>ē (Á Lf Ç) _) hmix (tab:=Gd _) rfl Ç (Æ fun x=>X4 x some)
def WH:Ò Tryz.prog 54 Ju:=É (θ _) (fun {_}=>ē Ç _) hmix (tab:=CM _) rfl (Á NC (Á ND (Á NB (Á Ny (Á Nz (Á Nx (Á NA Ç))))))) (Æ fun x=>T3 x some)
def adA:Ò Tryz.prog 15 Pa:=É (D4 _) (fun {_}=>ē (Á Lf (Á EW (Á BC (Á alN (Á WH Ç))))) _) hmix (tab:=FU _) rfl (Á PF Ç) (Æ fun x=>XJ x some)
def aoe:Ò Tryz.prog 32 agW:=É (uF _) (fun {_}=>ē (Á ť (Á jJ (Á ŭ (Á BD (Á AD (Á vx (Á pK (Á ŝ Ç)))))))) _) hmix (tab:=Mg _) rfl (Á Uz (Á Uy (Á Ux Ç))) (Æ fun x=>acj x some)
def adC:Ò Tryz.prog 156 Pb:=É (PL _) (fun {_}=>ē Ç _) hmix (tab:=FW _) rfl Ç (Æ fun x=>XN x some)
def alH:Ò Tryz.prog 89 aaW:=É (PS _) (fun {_}=>ē (Á Lf (Á adC Ç)) _) hmix (tab:=F2 _) rfl Ç (Æ fun x=>XS x some)
def alL:Ò Tryz.prog 157 aa0:=É (vR _) (fun {_}=>ē Ç _) hmix (tab:=Gb _) rfl (Á P1 (Á P2 Ç)) (Æ fun x=>X1 x some)
def aja:Ò Tryz.prog 159 Vz:=É (LR _) (fun {_}=>ē (Á SO (Á WG (Á adG (Á WJ Ç)))) _) hmix (tab:=Cw _) rfl Ç (Æ fun x=>TP x some)
def afV:Ò Tryz.prog 160 Pe:=É (lO _) (fun {_}=>ē Ç _) hmix (tab:=zb _) rfl (Á JU (Á JS (Á JT Ç))) (Æ fun x=>Qo x some)
def adD:Ò Tryz.prog 90 LC:=É (Cx _) (fun {_}=>ē (Á EW (Á BC (Á adC (Á alL (Á OJ (Á aja (Á afV Ç))))))) _) hmix (tab:=xt _) rfl Ç (Æ fun x=>Nh x some)
def adB:Ò Tryz.prog 36 LB:=É (Cl _) (fun {_}=>ē (Á EW (Á BC (Á WH (Á alH (Á adD Ç))))) _) hmix (tab:=xq _) rfl Ç (Æ fun x=>M9 x some)
def ai5:Ò Tryz.prog 33 Vu:=É (LJ _) (fun {_}=>ē (Á adA (Á adB Ç)) _) hmix (tab:=Cj _) rfl Ç (Æ fun x=>TA x some)
def N5:Ò Tryz.prog 152 xn:=É (rH _) (fun {_}=>ē Ç _) hmix (tab:=oV _) rfl Ç (Æ fun x=>BT x some)
def Le:Ò Tryz.prog 80 tR:=É (qv _) (fun {_}=>ē (Á N5 Ç) _) hmix (tab:=nS _) rfl Ç (Æ fun x=>yE x some)
def Ld:Ò Tryz.prog 34 tQ:=É (kK _) (fun {_}=>ē (Á Le Ç) _) hmix (tab:=nR _) rfl (Á vN Ç) (Æ fun x=>yD x some)
def c_w6_SharpWorsts:Ò Tryz.prog 7 ku:=É (jl _) (fun {_}=>ē (Á an5 (Á afU (Á adA (Á WF (Á adJ (Á aoe (Á ai5 (Á Ld Ç)))))))) _) hmix (tab:=oU _) rfl (Á xY (Á xX Ç)) (Æ fun x=>BO x some)
end Go.Proofs.ZzM
end
