/- lemmas -/
import Derived.Test.YtbfmlbheofblcaaGreatAmF
import Derived.Lib.AtoiAll
import Derived.Lib.Bytealg
import Derived.Lib.ItoaNum
import Derived.Lib.Join
import Derived.Lib.Split
import Derived.Lib.Strings
set_option linter.all false
noncomputable section
variable {ρ:Type}
set_option maxRecDepth 100000
namespace Go.Proofs.ZzM
open Go Go.Am
variable [LC]
abbrev tI:Ty:=.int .i64
abbrev Â:Ty:=(.pair tI tI)
abbrev ć:Ty:=(.pair tI Â)
abbrev ú:Ty:=(.pair Â Â)
abbrev Α:Ty:=(.pair Â tI)
abbrev Ĵ:Ty:=(.pair tI Α)
abbrev AG:Ty:=(.pair ú tI)
abbrev ye:Ty:=(.pair (.slice ć) (.slice Â))
abbrev Î:Ty:=(.pair tI (.slice ć))
abbrev iA:Ty:=(.pair Â (.pair ć ć))
abbrev È:Ty:=(.pair tI (.pair tI (.pair tI (.pair Â Α))))
abbrev É:Ty:=(.pair tI (.pair tI (.pair (.slice tI) (.pair (.slice tI) (.pair tI ć)))))
abbrev Å:Ty:=(.pair Â (.pair (.slice È) (.pair (.slice Â) (.pair (.slice Ĵ) (.pair (.slice É) (.slice Â))))))
abbrev ş:Ty:=(.pair Å (.pair Â (.pair .bool (.pair tI (.slice tI)))))
abbrev tyroom:Ty:=(.pair Å Î)
abbrev zA:Ty:=(.pair Å (.pair (.slice Â) (.pair Î (.slice Â))))
abbrev aa:Ty:=(.slice Â)
abbrev ae:Ty:=(.slice É)
abbrev af:Ty:=(.slice È)
abbrev ah:Ty:=(.slice Ĵ)
abbrev ai:Ty:=(.slice tI)
abbrev aj:Ty:=(.pair tI (.pair tI (.pair (.fsl tI) (.pair (.fsl tI) (.pair tI ć)))))
abbrev ak:Ty:=(.pair tI (.pair tI (.pair af (.pair aa (.pair ah (.pair ae aa))))))
abbrev am:Ty:=(.pair tI (.pair tI (.pair af (.pair aa (.pair ah (.pair ae (.pair aa (.pair tI (.pair tI (.pair af (.pair aa (.pair ah (.pair (.slice aj) (.pair aa (.pair tI (.pair tI (.pair af (.pair aa (.pair ah (.pair ae (.pair aa (.pair (.map tI .bool) (.pair (.map tI .bool) af)))))))))))))))))))))))
abbrev ao:Ty:=(.slice ć)
abbrev aq:Ty:=(.map tI .bool)
abbrev ar:Ty:=(.pair ai (.pair tI (.pair tI (.pair tI (.pair af (.pair aa (.pair ah (.pair ae (.pair aa (.pair tI (.pair tI (.pair tI (.pair tI (.pair tI (.pair tI (.pair ai (.pair ai (.pair tI (.pair tI (.pair tI (.pair tI (.pair aa (.pair tI (.pair tI (.pair af (.pair aa (.pair ah (.pair ae (.pair aa (.pair tI (.pair ao (.pair tI (.pair tI (.pair tI (.pair tI (.pair tI (.pair tI (.pair tI (.pair tI (.pair (.slice ai) (.pair (.slice ai) (.slice ai))))))))))))))))))))))))))))))))))))))))))
abbrev au:Ty:=(.slice ai)
abbrev aw:Ty:=(.pair (.fsl È) (.pair aa (.pair ah (.pair (.fsl aj) aa))))
abbrev ax:Ty:=(.pair tI (.pair tI (.pair tI (.pair tI (.pair tI ć)))))
abbrev ay:Ty:=(.map tI È)
abbrev az:Ty:=(.pair tI (.pair tI (.pair af (.pair aa (.pair ah (.pair ae (.pair aa (.pair tI (.pair tI (.pair ai (.pair ai (.pair tI (.pair tI (.pair tI (.pair tI ai)))))))))))))))
abbrev aB:Ty:=(.pair tI (.pair tI (.pair tI (.pair af (.pair aa (.pair ah (.pair ae (.pair aa (.pair tI (.pair tI (.pair tI (.pair tI (.pair tI (.pair tI (.pair ai (.pair ai (.pair tI (.pair tI (.pair tI (.pair tI aa))))))))))))))))))))
abbrev aD:Ty:=(.slice .bool)
abbrev aE:Ty:=(.pair tI ai)
abbrev aF:Ty:=(.ptr tyroom)
abbrev aG:Ty:=(.pair tI (.pair tI (.pair tI (.pair af (.pair aa (.pair ah (.pair ae (.pair aa ax))))))))
abbrev aH:Ty:=(.pair tI ak)
abbrev aI:Ty:=(.pair tI (.pair tI (.pair tI (.pair af (.pair aa (.pair ah (.pair ae (.pair aa (.pair tI ć)))))))))
abbrev aJ:Ty:=(.pair tI aa)
abbrev aK:Ty:=(.pair (.pair Â aw) (.pair Â (.pair .bool (.pair tI (.fsl tI)))))
abbrev aL:Ty:=(.slice aj)
abbrev aM:Ty:=(.pair Å É)
abbrev aO:Ty:=(.pair tI Î)
abbrev aP:Ty:=(.pair tI (.pair tI aE))
abbrev aQ:Ty:=(.pair tI ye)
abbrev aR:Ty:=(.pair aD ai)
abbrev aS:Ty:=(.pair ai (.pair aD (.pair ai ai)))
abbrev aT:Ty:=(.slice au)
abbrev aU:Ty:=(.pair .str tI)
abbrev aV:Ty:=(.pair Å Â)
abbrev aW:Ty:=(.pair tI aJ)
abbrev aX:Ty:=(.pair ai tI)
abbrev aY:Ty:=(.pair tI (.pair tI .bool))
abbrev aZ:Ty:=(.pair Â É)
abbrev ba:Ty:=(.pair (.fsl tI) tI)
abbrev bc:Ty:=(.pair Å tI)
abbrev bf:Ty:=(.pair Å (.pair Â .bool))
abbrev bg:Ty:=(.pair Â aw)
abbrev bh:Ty:=(.pair .bool tI)
abbrev bi:Ty:=(.pair tI (.pair tI ć))
abbrev bj:Ty:=(.pair Å (.pair ay tI))
abbrev ag:=Val ai
abbrev an:=Val Â
abbrev a7:=Val aa
abbrev a8:=Val Å
abbrev bx:=Val ae
abbrev cT:=Val ah
abbrev c8:=Val af
abbrev c9:=Val È
abbrev ew:=Val É
abbrev ey:=Val Î
abbrev fx:=Val ao
abbrev fy:=Val aE
abbrev f4:=Val Α
abbrev ge:=Val aH
abbrev io:=Val aq
abbrev i4:=Val (.pair tI (.slice tI))
abbrev js:=Val (.map tI È)
abbrev ly:=Val ú
abbrev nm:=Val ak
abbrev nn:=Val au
abbrev nR:=Val aF
abbrev pc:=Val (.pair tI (.pair ai aR))
abbrev pi:=Val (.pair (.int .u64) (.int .u64))
abbrev pl:=Val (.pair aF Â)
abbrev px:=Val (.pair tI aq)
abbrev py:=Val ć
abbrev qs:=Val ay
abbrev rd:=Val (.pair ai ai)
abbrev rm:=Val Ĵ
abbrev rn:=Val aJ
abbrev rx:=Val ş
abbrev ry:=Val (.pair (.fsl tI) .bool)
abbrev so:=Val (.pair Ĵ .bool)
abbrev th:=Val am
abbrev uf:=Val (.pair tI .str)
abbrev v8:=Val aQ
abbrev xt:=Val aU
abbrev xK:=Val aD
abbrev x9:=Val (.pair Å ú)
abbrev y5:=Val (.pair iA tI)
abbrev y7:=Val (.pair tI aE)
abbrev y8:=Val (.pair aa Â)
abbrev y9:=Val (.pair tI aR)
abbrev z7:=Val (.pair Î Â)
abbrev An:=Val (.pair tI ae)
abbrev At:=Val aM
variable [LC]
def Ğ (d:nn) (e:Int) (b:Int) (a:Int) (f:Int->Int->AN ρ) (g:Int->AN ρ):AN ρ :=
  ifb (ilt a e) (ø d a fun h=>ck (b+(Ö h)) fun c=>ifb (ilt c 0) (none) (ck (a+(1:Int)) fun i=>f c i)) (g b)
def è (d:nn) (e:Int) (a:Int) (b:ag) (f:Int->ag->AN ρ) (g:ag->AN ρ):AN ρ :=
  ifb (ilt a e) (ø d a fun c=>æ (Û ((List.length b)+(List.length c))) (ck (a+(1:Int)) fun h=>f h (b++c))) (g b)
def ks (a:nn) (k:ag->AN ρ):AN ρ :=
  Ì (fun(c:an) g=>Ğ a (Ö a) c.1 c.2 (fun h i=>g (h,i)) (fun d=>ifb (ilt d 0) (none) (ck (d-(0:Int)) fun b=>ifb (igt b 0) (æ ((ilt 0 b)&&(Û (Int.toNat b))) (æ (ile 0 (Ġ (List.replicate (Int.toNat b) (0:Int)))) (Ì (fun(e:fy) j=>è a (Ö a) e.1 e.2 (fun l m=>j (l,m)) (fun n=>k n)) ((0:Int),(List.take 0 (List.replicate (Int.toNat b) (0:Int))))))) (Ì (fun(f:fy) o=>è a (Ö a) f.1 f.2 (fun p q=>o (p,q)) (fun r=>k r)) ((0:Int),[]))))) ((0:Int),(0:Int))
def ç (a:nn):AN (ag):=ks a some
def xh (l:AS c9) (m:AS (Int×Bool)):AN (AS c9) :=
  æ (Û l.length) (some (l.filter fun g=>(qT (k:=tI) (v:=.bool) g.1 m).getD false))
def rt (c:ag) (d:Int) (a:Int) (b:io) (e:Int->io->AN ρ) (f:io->AN ρ):AN ρ :=
  ifb (ilt a d) (ø c a fun g=>ck (a+(1:Int)) fun h=>e h (Hf (k:=tI) (v:=.bool) g true b)) (f b)
def xa (j:a7) (l:Int) (f:c8) (g:bx) (b:Int) (c:io) (d:io) (e:Int->io->io->AN ρ) (m:(Val (.pair aq aq))->AN ρ):AN ρ :=
  ifb (ilt b l) (ø j b fun a=>ifb (ig a.1 0) (none) (ifb (ig a.1 1) (ø f a.2 fun n=>ck (b+(1:Int)) fun o=>e o (Hf (k:=tI) (v:=.bool) n.1 true c) d) (ifb (ig a.1 2) (ø f a.2 fun p=>ck (b+(1:Int)) fun q=>e q (Hf (k:=tI) (v:=.bool) p.1 true c) d) (æ (ig a.1 3) (ø g a.2 fun r=>ø g a.2 fun s=>Ä (ç ([r.2.2.1,s.2.2.2.1])) fun h=>Ì (fun(i:px) t=>rt h (Ö h) i.1 i.2 (fun u w=>t (u,w)) (fun x=>ck (b+(1:Int)) fun y=>e y x (Hf (k:=tI) (v:=.bool) a.2 true d))) ((0:Int),c)))))) (m (c,d))
def rr (c:a7) (d:Int) (a:Int) (b:io) (e:Int->io->AN ρ) (f:io->AN ρ):AN ρ :=
  ifb (ilt a d) (ø c a fun g=>ck (a+(1:Int)) fun h=>e h (Hf (k:=tI) (v:=.bool) g.1 true b)) (f b)
def rq (e:a7) (f:Int) (g:io) (a:Int) (b:a7) (c:Int->a7->AN ρ) (h:a7->AN ρ):AN ρ :=
  ifb (ilt a f) (ø e a fun d=>Re (k:=tI) (v:=.bool) d.1 g (fun i=>ifb i (æ (Û ((List.length b)+(List.length ([d])))) (ck (a+(1:Int)) fun j=>c j (b++([d])))) (ck (a+(1:Int)) fun l=>c l b)) (ck (a+(1:Int)) fun m=>c m b)) (h b)
def ro (e:cT) (f:Int) (g:io) (a:Int) (b:cT) (c:Int->cT->AN ρ) (h:cT->AN ρ):AN ρ :=
  ifb (ilt a f) (ø e a fun d=>Re (k:=tI) (v:=.bool) d.1 g (fun i=>ifb i (æ (Û ((List.length b)+(List.length ([d])))) (ck (a+(1:Int)) fun j=>c j (b++([d])))) (ck (a+(1:Int)) fun l=>c l b)) (ck (a+(1:Int)) fun m=>c m b)) (h b)
def rl (e:bx) (f:Int) (g:io) (a:Int) (b:Val aL) (d:Int->Val aL->AN ρ) (h:Val aL->AN ρ):AN ρ :=
  ifb (ilt a f) (ø e a fun c=>Re (k:=tI) (v:=.bool) a g (fun i=>ifb i (æ (Û (List.length c.2.2.1)) (æ (Û (List.length c.2.2.2.1)) (æ (Û ((List.length b)+(List.length ([c])))) (ck (a+(1:Int)) fun j=>d j (b++([c])))))) (ck (a+(1:Int)) fun l=>d l b)) (ck (a+(1:Int)) fun m=>d m b)) (h b)
def mh (p:Val aW) (v:th) (k:Val bg->AN ρ):AN ρ :=
  Ì (fun(a:rn) d=>rq v.2.2.2.1 (Ö v.2.2.2.1) v.2.2.2.2.2.2.2.2.2.2.2.2.2.2.2.2.2.2.2.2.2.1 a.1 a.2 (fun e f=>d (e,f)) (fun g=>Ì (fun(b:(Val (.pair tI ah))) h=>ro v.2.2.2.2.1 (Ö v.2.2.2.2.1) v.2.2.2.2.2.2.2.2.2.2.2.2.2.2.2.2.2.2.2.2.2.1 b.1 b.2 (fun i j=>h (i,j)) (fun l=>Ì (fun(c:(Val (.pair tI aL))) m=>rl v.2.2.2.2.2.1 (Ö v.2.2.2.2.2.1) v.2.2.2.2.2.2.2.2.2.2.2.2.2.2.2.2.2.2.2.2.2.2.1 c.1 c.2 (fun n o=>m (n,o)) (fun q=>k ((p.1,p.2.1),v.2.2.2.2.2.2.2.2.2.2.2.2.2.2.2.2.2.2.2.2.2.2.2,g,l,q,p.2.2))) ((0:Int),[]))) ((0:Int),[]))) ((0:Int),[])
def B0 (a:a8) (d:a7) (b:a7) (kA:Val aW->th->AN ρ):AN ρ :=
  Ì (fun(c:(Val (.pair tI (.pair aq aq)))) g=>xa d (Ö d) a.2.1 a.2.2.2.2.1 c.1 c.2.1 c.2.2 (fun h i j=>g (h,i,j)) (fun e=>Ì (fun(f:px) k=>rr b (Ö b) f.1 f.2 (fun l m=>k (l,m)) (fun n=>kA (a.1.1,a.1.2,b) (a.1.1,a.1.2,a.2.1,a.2.2.1,a.2.2.2.1,a.2.2.2.2.1,a.2.2.2.2.2,(0:Int),(0:Int),[],[],[],[],[],a.1.1,a.1.2,a.2.1,a.2.2.1,a.2.2.2.1,a.2.2.2.2.1,a.2.2.2.2.2,n,e.2,[]))) ((0:Int),e.1))) ((0:Int),[],[])
def acP (a:a8) (b:a7) (c:a7) (k:Val bg->AN ρ):AN ρ :=
  B0 a b c fun p v=>Ä (xh v.2.2.2.2.2.2.2.2.2.2.2.2.2.2.2.2.1 v.2.2.2.2.2.2.2.2.2.2.2.2.2.2.2.2.2.2.2.2.2.1) fun z=>mh p (v.1,v.2.1,v.2.2.1,v.2.2.2.1,v.2.2.2.2.1,v.2.2.2.2.2.1,v.2.2.2.2.2.2.1,v.2.2.2.2.2.2.2.1,v.2.2.2.2.2.2.2.2.1,v.2.2.2.2.2.2.2.2.2.1,v.2.2.2.2.2.2.2.2.2.2.1,v.2.2.2.2.2.2.2.2.2.2.2.1,v.2.2.2.2.2.2.2.2.2.2.2.2.1,v.2.2.2.2.2.2.2.2.2.2.2.2.2.1,v.2.2.2.2.2.2.2.2.2.2.2.2.2.2.1,v.2.2.2.2.2.2.2.2.2.2.2.2.2.2.2.1,v.2.2.2.2.2.2.2.2.2.2.2.2.2.2.2.2.1,v.2.2.2.2.2.2.2.2.2.2.2.2.2.2.2.2.2.1,v.2.2.2.2.2.2.2.2.2.2.2.2.2.2.2.2.2.2.1,v.2.2.2.2.2.2.2.2.2.2.2.2.2.2.2.2.2.2.2.1,v.2.2.2.2.2.2.2.2.2.2.2.2.2.2.2.2.2.2.2.2.1,v.2.2.2.2.2.2.2.2.2.2.2.2.2.2.2.2.2.2.2.2.2.1,v.2.2.2.2.2.2.2.2.2.2.2.2.2.2.2.2.2.2.2.2.2.2.1,z) k
def KD (a:a8) (b:a7) (c:a7):AN ((Val bg)):=acP a b c some
def Oa (a:an) (b:Int) (c:Int) (k:Bool->AN ρ):AN ρ :=
  ifb (ile b a.1) (ifb (ile a.1 a.2) (k (ile a.2 c)) (k false)) (k false)
def Ū (a:an) (b:Int) (c:Int):AN (Bool):=Oa a b c some
def N8 (a:Int) (b:Int) (c:Int) (k:Bool->AN ρ):AN ρ :=
  ifb (ile b a) (k (ile a c)) (k false)
def Ĉ (a:Int) (b:Int) (c:Int):AN (Bool):=N8 a b c some
def T1 (a:Int) (k:Bool->AN ρ):AN ρ :=
  Ä (Ĉ a (0:Int) (20000:Int)) fun b=>k b
def mF (a:Int):AN (Bool):=T1 a some
def Yw (a:Int) (k:Int->AN ρ):AN ρ :=
  ifb (ilt a 0) (k (IntKind.wrap .u64 (0-(IntKind.wrap .u64 a)))) (k (IntKind.wrap .u64 a))
def qd (a:Int):AN (Int):=Yw a some
def xd (b:Int) (a:Int) (c:Int->Int->AN ρ) (d:Int->AN ρ):AN ρ :=
  ifb (ine a 0) (ifb (ig a 0) (none) (c a (Int.tmod b a))) (d b)
def acS (b:Int) (c:Int) (k:Int->AN ρ):AN ρ :=
  Ì (fun(a:pi) d=>xd a.1 a.2 (fun e f=>d (e,f)) (fun g=>k g)) (b,c)
def KJ (a:Int) (b:Int):AN (Int):=acS a b some
def TW (a:an) (k:Bool->AN ρ):AN ρ :=
  ifb (ige a.2 1) (ifb (ile a.2 2147483647) (Ä (qd a.1) fun b=>ifb (ile b 2147483647) (Ä (qd a.1) fun c=>Ä (qd a.2) fun d=>Ä (KJ c d) fun e=>k (ieq e 1)) (k false)) (k false)) (k false)
def rV (a:an):AN (Bool):=TW a some
def Ak (a:c9) (k:Bool->AN ρ):AN ρ :=
  Ä (rV a.2.2.2.2.1) fun b=>ifb b (Ä (Ĉ a.2.2.2.2.1.1 (-1000:Int) (1000:Int)) fun c=>ifb c (Ä (Ĉ a.1 (1:Int) (1099511627776:Int)) fun d=>ifb d (Ä (mF a.2.1) fun e=>ifb e (Ä (Ĉ a.2.2.1 (1:Int) (1125899906842624:Int)) fun f=>ifb f (Ä (Ū a.2.2.2.1 (-1073741824:Int) (1073741824:Int)) fun g=>ifb g (ifb (ile a.2.2.2.2.1.2 100) (Ä (Ĉ a.2.2.2.2.2 (0:Int) (1048576:Int)) fun h=>k h) (k false)) (k false)) (k false)) (k false)) (k false)) (Ä (Ĉ a.1 (1:Int) (1099511627776:Int)) fun i=>ifb i (Ä (mF a.2.1) fun j=>ifb j (Ä (Ĉ a.2.2.1 (1:Int) (1125899906842624:Int)) fun l=>ifb l (Ä (Ū a.2.2.2.1 (-1073741824:Int) (1073741824:Int)) fun m=>ifb m (k false) (k false)) (k false)) (k false)) (k false))) (Ä (Ĉ a.1 (1:Int) (1099511627776:Int)) fun n=>ifb n (Ä (mF a.2.1) fun o=>ifb o (Ä (Ĉ a.2.2.1 (1:Int) (1125899906842624:Int)) fun p=>ifb p (Ä (Ū a.2.2.2.1 (-1073741824:Int) (1073741824:Int)) fun q=>ifb q (k false) (k false)) (k false)) (k false)) (k false))
def tO (a:c9):AN (Bool):=Ak a some
def iw (e:c8) (f:Int) (g:c8) (a:Int) (b:Int->AN ρ) (c:Int->AN ρ) (h:Unit->AN ρ):AN ρ :=
  ifb (ilt a f) (ø e a fun d=>Ä (tO d) fun i=>ifb (!i) (c (1:Int)) (ifb (igt a 0) (ck (a-(1:Int)) fun j=>ø g j fun k=>ifb (ile d.1 k.1) (c (6:Int)) (ck (a+(1:Int)) fun l=>b l)) (ck (a+(1:Int)) fun m=>b m))) (h ())
def we (a:a8) (k:Int->AN ρ):AN ρ :=
  Ì (fun(b:Int) c=>iw a.2.1 (Ö a.2.1) a.2.1 b (fun d=>c d) (fun e=>k e) (fun _=>k (0:Int))) (0:Int)
def ŝ (a:a8):AN (Int):=we a some
def lV (d:c8) (e:Int) (a:Int) (b:qs) (f:Int->qs->AN ρ) (g:qs->AN ρ):AN ρ :=
  ifb (ilt a e) (ø d a fun c=>ck (a+(1:Int)) fun h=>f h (Hf (k:=tI) (v:=È) c.1 c b)) (g b)
def JS (a:a8) (k:qs->AN ρ):AN ρ :=
  Ì (fun(b:(Val (.pair tI ay))) c=>lV a.2.1 (Ö a.2.1) b.1 b.2 (fun d e=>c (d,e)) (fun f=>k f)) ((0:Int),[])
def Ÿ (a:a8):AN (qs):=JS a some
def Δ (b:ag) (c:Int) (d:Int) (a:Int) (e:Int->AN ρ) (f:Int->AN ρ) (g:Unit->AN ρ):AN ρ :=
  ifb (ilt a d) (ø b a fun h=>ifb (ieq c h) (f a) (ck (a+(1:Int)) fun i=>e i)) (g ())
def qW (a:ag) (b:Int) (k:Int->AN ρ):AN ρ :=
  Ì (fun(c:Int) d=>Δ a b (Ö a) c (fun e=>d e) (fun f=>k f) (fun _=>k (-1:Int))) (0:Int)
def jb (a:ag) (b:Int):AN (Int):=qW a b some
def mW (a:ag) (b:Int) (k:Bool->AN ρ):AN ρ :=
  Ä (jb a b) fun c=>k (ige c 0)
def ď (a:ag) (b:Int):AN (Bool):=mW a b some
def s9 (f:bx) (g:Int) (d:Int) (a:Int) (b:ag) (e:Int->ag->AN ρ) (h:ag->AN ρ):AN ρ :=
  ifb (ilt a g) (ø f a fun c=>Ä (ď c.2.2.1 d) fun i=>Ä (ď c.2.2.2.1 d) fun j=>ifb (!(i==j)) (æ (Û ((List.length b)+(List.length ([c.2.1])))) (ck (a+(1:Int)) fun k=>e k (b++([c.2.1])))) (ck (a+(1:Int)) fun l=>e l b)) (h b)
def s8 (e:a7) (f:Int) (g:Int) (a:Int) (b:ag) (d:Int->ag->AN ρ) (h:ag->AN ρ):AN ρ :=
  ifb (ilt a f) (ø e a fun c=>ifb (ieq c.1 g) (æ (Û ((List.length b)+(List.length ([c.2])))) (ck (a+(1:Int)) fun i=>d i (b++([c.2])))) (ck (a+(1:Int)) fun j=>d j b)) (h b)
def YC (a:a8) (b:c9) (k:ag->AN ρ):AN ρ :=
  Ì (fun(d:fy) f=>s9 a.2.2.2.2.1 (Ö a.2.2.2.2.1) b.1 d.1 d.2 (fun g h=>f (g,h)) (fun i=>Ì (fun(e:fy) j=>s8 a.2.2.2.2.2 (Ö a.2.2.2.2.2) b.1 e.1 e.2 (fun l m=>j (l,m)) (fun c=>æ (Û (List.length c)) (æ (Û (List.length (Lx c))) (k (xG (Lx c)))))) ((0:Int),i))) ((0:Int),[b.2.1])
def nT (a:a8) (b:c9):AN (ag):=YC a b some
def pR (e:ag) (f:Int) (c:Int) (a:Int) (b:a7) (g:Int->a7->AN ρ) (h:a7->AN ρ):AN ρ :=
  ifb (ilt a f) (ø e a fun d=>æ (Û ((List.length b)+(List.length ([(c,d)])))) (ck (a+(1:Int)) fun i=>g i (b++([(c,d)])))) (h b)
def pS (f:c8) (g:Int) (h:Int) (i:Int) (j:c8) (k:a7) (l:cT) (m:bx) (n:a7) (a:Int) (b:a7) (o:Int->a7->AN ρ) (p:a7->AN ρ):AN ρ :=
  ifb (ilt a g) (ø f a fun c=>Ä (nT ((h,i),j,k,l,m,n) c) fun d=>Ì (fun(e:rn) q=>pR d (Ö d) c.1 e.1 e.2 (fun r s=>q (r,s)) (fun t=>ck (a+(1:Int)) fun u=>o u t)) ((0:Int),b)) (p b)
def T0 (a:a8) (k:a7->AN ρ):AN ρ :=
  Ì (fun(b:rn) c=>pS a.2.1 (Ö a.2.1) a.1.1 a.1.2 a.2.1 a.2.2.1 a.2.2.2.1 a.2.2.2.2.1 a.2.2.2.2.2 b.1 b.2 (fun d e=>c (d,e)) (fun f=>k f)) ((0:Int),[])
def oX (a:a8):AN (a7):=T0 a some
def zh (a:qs) (b:Int) (c:Int) (k:Int->AN ρ):AN ρ :=
  Re (k:=tI) (v:=È) b a (fun d=>ifb (ilt c d.2.1) (k (4:Int)) (k (0:Int))) (k (5:Int))
def il (a:qs) (b:Int) (c:Int):AN (Int):=zh a b c some
def JV (b:Int) (a:Int) (c:(Val (.ptr ay))) (k:Int->AN ρ):AN ρ :=
  Ä (mF a) fun d=>ifb (!d) (k (1:Int)) (Ä (il c b a) fun e=>k e)
def ĥ (a:Int) (b:Int) (c:(Val (.ptr ay))):AN (Int):=JV a b c some
def jD (d:cT) (e:Int) (f:Int) (g:Int) (h:Int) (a:Int) (b:Int->AN ρ) (i:Int->AN ρ) (j:Unit->AN ρ):AN ρ :=
  ifb (ilt a e) (ø d a fun c=>ifb (ieq c.1 f) (ifb (ile c.2.1.1 h) (ifb (ile g c.2.1.2) (i a) (ck (a+(1:Int)) fun k=>b k)) (ck (a+(1:Int)) fun l=>b l)) (ck (a+(1:Int)) fun m=>b m)) (j ())
def ũ (d:a7) (e:Int) (f:Int) (g:Int) (h:Int) (a:Int) (b:Int->AN ρ) (i:Int->AN ρ) (j:Unit->AN ρ):AN ρ :=
  ifb (ilt a e) (ø d a fun c=>ifb (ieq c.1 f) (Ä (Ĉ c.2 g h) fun k=>ifb k (i a) (ck (a+(1:Int)) fun l=>b l)) (ck (a+(1:Int)) fun m=>b m)) (j ())
def ta (b:a8) (e:qs) (c:Int) (k:Int->AN ρ):AN ρ :=
  ø b.2.2.2.1 c fun a=>Ä (Ū a.2.1 (0:Int) (20000:Int)) fun f=>ifb (!f) (k (1:Int)) (Ä (Ĉ a.2.2 (0:Int) (1048576:Int)) fun g=>ifb (!g) (k (1:Int)) (Ä (il e a.1 a.2.1.1) fun d=>ifb (ine d 0) (k d) (æ ((ile 0 c)&&(ile c (Ġ b.2.2.2.1))) (Ì (fun(h:Int) i=>jD (List.take (Int.toNat c) b.2.2.2.1) (Ö (List.take (Int.toNat c) b.2.2.2.1)) a.1 a.2.1.1 a.2.1.2 h (fun j=>i j) (fun l=>ifb (ige l 0) (k (9:Int)) (Ì (fun(m:Int) n=>ũ b.2.2.1 (Ö b.2.2.1) a.1 a.2.1.1 a.2.1.2 m (fun o=>n o) (fun p=>ifb (ige p 0) (k (9:Int)) (k (0:Int))) (fun _=>k (0:Int))) (0:Int))) (fun _=>Ì (fun(q:Int) r=>ũ b.2.2.1 (Ö b.2.2.1) a.1 a.2.1.1 a.2.1.2 q (fun s=>r s) (fun t=>ifb (ige t 0) (k (9:Int)) (k (0:Int))) (fun _=>k (0:Int))) (0:Int))) (0:Int)))))
def Ů (a:a8) (b:qs) (c:Int):AN (Int):=ta a b c some
def nM (e:ag) (f:ag) (g:Int) (a:Int) (b:Int->AN ρ) (c:Bool->AN ρ) (h:Unit->AN ρ):AN ρ :=
  ifb (ilt a g) (ø f a fun d=>Ä (Ĉ d (1:Int) (1099511627776:Int)) fun i=>ifb (!i) (c false) (ifb (igt a 0) (ck (a-(1:Int)) fun j=>ø e j fun k=>ifb (ile d k) (c false) (ck (a+(1:Int)) fun l=>b l)) (ck (a+(1:Int)) fun m=>b m))) (h ())
def N9 (a:ag) (k:Bool->AN ρ):AN ρ :=
  Ì (fun(b:Int) c=>nM a a (Ö a) b (fun d=>c d) (fun e=>k e) (fun _=>k (ile (Ö a) 6))) (0:Int)
def lN (a:ag):AN (Bool):=N9 a some
def s7 (c:Int) (d:ag) (b:ag) (a:Int) (e:Int->AN ρ) (f:Int->AN ρ) (g:Unit->AN ρ):AN ρ :=
  ifb (ilt a c) (æ ((ile 0 a)&&(ilt a (Ġ b))) (Γ b (Int.toNat a) fun h=>Ä (ď d h) fun i=>ifb i (f a) (ck (a+(1:Int)) fun j=>e j))) (g ())
def jL (f:ag) (b:Int) (c:Int) (a:ag) (d:Int->Int->ag->AN ρ) (g:fy->AN ρ):AN ρ :=
  ifb (ilt c (Ö a)) (æ ((ile 0 c)&&(ilt c (Ġ a))) (Γ a (Int.toNat c) fun e=>Ä (ď f e) fun h=>ifb (!h) (æ ((ile 0 b)&&(ilt b (Ġ a))) (Γ a (Int.toNat b) fun l=>ck (b+(1:Int)) fun i=>ck (c+(1:Int)) fun j=>d i j (List.set a (Int.toNat b) e))) (ck (c+(1:Int)) fun k=>d b k a))) (g (b,a))
def YB (b:ag) (e:ag) (k:ag->AN ρ):AN ρ :=
  æ (Û (List.length b)) (Ì (fun(f:Int) g=>s7 (Ö b) e b f (fun h=>g h) (fun c=>ifb (ieq c (-1:Int)) (k b) (ck (c+(1:Int)) fun i=>Ì (fun(d:y7) j=>jL e d.1 d.2.1 d.2.2 (fun l m n=>j (l,m,n)) (fun a=>æ ((ile 0 a.1)&&(ile a.1 (Ġ a.2))) (æ ((ile 0 a.1)&&(ile a.1 (Ġ (List.take (Int.toNat a.1) a.2++List.replicate (List.length a.2-(Int.toNat a.1)) (0:Int)++List.drop ((Int.toNat a.1)+(List.length a.2-(Int.toNat a.1))) a.2)))) (k (List.take (Int.toNat a.1) (List.drop 0 (List.take (Int.toNat a.1) a.2++List.replicate (List.length a.2-(Int.toNat a.1)) (0:Int)++List.drop ((Int.toNat a.1)+(List.length a.2-(Int.toNat a.1))) a.2))))))) (c,i,b))) (fun _=>k b)) (0:Int))
def ŏ (a:ag) (b:ag):AN (ag):=YB a b some
def tc (d:cT) (e:Int) (f:Int) (g:Int) (a:Int) (c:Int->AN ρ) (h:Int->AN ρ) (i:Unit->AN ρ):AN ρ :=
  ifb (ilt a e) (ø d a fun b=>ifb (ieq b.1 f) (Ä (Ĉ g b.2.1.1 b.2.1.2) fun j=>ifb j (h a) (ck (a+(1:Int)) fun k=>c k)) (ck (a+(1:Int)) fun l=>c l)) (i ())
def YD (a:a8) (c:Int) (d:Int) (k:so->AN ρ):AN ρ :=
  Ì (fun(e:Int) f=>tc a.2.2.2.1 (Ö a.2.2.2.1) c d e (fun g=>f g) (fun b=>ifb (ilt b 0) (k (((0:Int),((0:Int),(0:Int)),(0:Int)),false)) (ø a.2.2.2.1 b fun h=>k (h,true))) (fun _=>k (((0:Int),((0:Int),(0:Int)),(0:Int)),false))) (0:Int)
def xC (a:a8) (b:Int) (c:Int):AN (so):=YD a b c some
def ο (b:bx) (c:Int) (d:Int) (a:Int) (e:Int->AN ρ) (f:Int->AN ρ) (g:Unit->AN ρ):AN ρ :=
  ifb (ilt a c) (ø b a fun h=>ifb (ieq h.1 d) (f a) (ck (a+(1:Int)) fun i=>e i)) (g ())
def ξ (c:qs) (b:Int) (d:ag) (e:Int) (f:Int) (a:Int) (g:Int->AN ρ) (h:Int->AN ρ) (i:Unit->AN ρ):AN ρ :=
  ifb (ilt a e) (ø d a fun j=>Ä (il c j f) fun k=>ifb (ieq k b) (h b) (ck (a+(1:Int)) fun l=>g l)) (i ())
def ĭ (d:qs) (b:ag) (e:Int) (f:Int) (c:ag) (a:Int) (g:Int->AN ρ) (h:Int->AN ρ) (i:Unit->AN ρ):AN ρ :=
  ifb (ilt a e) (æ ((ile 0 a)&&(ilt a (Ġ c))) (Γ c (Int.toNat a) fun j=>Ì (fun(k:Int) l=>ξ d j b (Ö b) f k (fun m=>l m) (fun n=>h n) (fun _=>ck (a+(1:Int)) fun o=>g o)) (0:Int))) (i ())
def Ĭ (b:ag) (c:Int) (d:Int) (e:Int) (f:c8) (g:a7) (h:cT) (i:bx) (j:a7) (k:Int) (a:Int) (l:Int->AN ρ) (m:Int->AN ρ) (n:Unit->AN ρ):AN ρ :=
  ifb (ilt a c) (ø b a fun o=>Ä (xC ((d,e),f,g,h,i,j) o k) fun p=>ifb p.2 (m (9:Int)) (ck (a+(1:Int)) fun q=>l q)) (n ())
def mQ (b:a8) (f:qs) (c:Int) (k:Int->AN ρ):AN ρ :=
  ø b.2.2.2.2.1 c fun a=>Ä (Ĉ a.1 (1:Int) (1099511627776:Int)) fun l=>ifb (!l) (k (1:Int)) (Ä (mF a.2.1) fun m=>ifb (!m) (k (1:Int)) (Ä (Ĉ a.2.2.2.2.1 (-1125899906842624:Int) (1125899906842624:Int)) fun n=>ifb (!n) (k (1:Int)) (Ä (Ĉ a.2.2.2.2.2.1 (0:Int) (1073741824:Int)) fun o=>ifb (!o) (k (1:Int)) (Ä (Ū a.2.2.2.2.2.2 (-10000:Int) (10000:Int)) fun p=>ifb (!p) (k (1:Int)) (Ä (lN a.2.2.1) fun q=>ifb (!q) (k (1:Int)) (Ä (lN a.2.2.2.1) fun r=>ifb (!r) (k (1:Int)) (æ ((ile 0 c)&&(ile c (Ġ b.2.2.2.2.1))) (Ì (fun(s:Int) t=>ο (List.take (Int.toNat c) b.2.2.2.2.1) (Ö (List.take (Int.toNat c) b.2.2.2.2.1)) a.1 s (fun u=>t u) (fun v=>ifb (ige v 0) (k (6:Int)) (Ä (ç ([a.2.2.1,a.2.2.2.1])) fun d=>Ì (fun(w:Int) x=>ĭ f d (Ö ([(5:Int),(4:Int)])) a.2.1 ([(5:Int),(4:Int)]) w (fun y=>x y) (fun z=>k z) (fun _=>Ì (fun(A:Int) B=>Ĭ d (Ö d) b.1.1 b.1.2 b.2.1 b.2.2.1 b.2.2.2.1 b.2.2.2.2.1 b.2.2.2.2.2 a.2.1 A (fun C=>B C) (fun D=>k D) (fun _=>Ä (ŏ a.2.2.1 a.2.2.2.1) fun g=>Ä (ŏ a.2.2.2.1 a.2.2.1) fun h=>ifb (igt (Ö g) 1) (k (1:Int)) (ifb (igt (Ö h) 1) (k (1:Int)) (ck ((Ö g)+(Ö h)) fun E=>ifb (ieq E 0) (k (1:Int)) (k (0:Int)))))) (0:Int))) (0:Int))) (fun _=>Ä (ç ([a.2.2.1,a.2.2.2.1])) fun e=>Ì (fun(F:Int) G=>ĭ f e (Ö ([(5:Int),(4:Int)])) a.2.1 ([(5:Int),(4:Int)]) F (fun H=>G H) (fun I=>k I) (fun _=>Ì (fun(J:Int) K=>Ĭ e (Ö e) b.1.1 b.1.2 b.2.1 b.2.2.1 b.2.2.2.1 b.2.2.2.2.1 b.2.2.2.2.2 a.2.1 J (fun L=>K L) (fun M=>k M) (fun _=>Ä (ŏ a.2.2.1 a.2.2.2.1) fun i=>Ä (ŏ a.2.2.2.1 a.2.2.1) fun j=>ifb (igt (Ö i) 1) (k (1:Int)) (ifb (igt (Ö j) 1) (k (1:Int)) (ck ((Ö i)+(Ö j)) fun N=>ifb (ieq N 0) (k (1:Int)) (k (0:Int)))))) (0:Int))) (0:Int))) (0:Int)))))))))
def Ĩ (a:a8) (b:qs) (c:Int):AN (Int):=mQ a b c some
def mz (b:a8) (s:qs):AN (AS Int) :=
  Ä (Im (fun u=>ĥ u.1 u.2 s) (b.2.2.1:AS (Int×Int))) fun a=>Ä (Im (fun i=>Ů b s i) (uN (b.2.2.2.1:AS rm).length)) fun c =>
    Ä (Im (fun i=>Ĩ b s i) (uN (b.2.2.2.2.1:AS ew).length)) fun d=>Ä (Im (fun u=>ĥ u.1 u.2 s) (b.2.2.2.2.2:AS (Int×Int))) fun e=>some (a++(c++(d++e)))
def J1 (a:a8) (k:Int->AN ρ):AN ρ :=
  Ä (Ū a.1 (0:Int) (1000000:Int)) fun d=>ifb (!d) (k (1:Int)) (ifb (igt (Ö a.2.1) 12) (k (2:Int)) (ifb (igt (Ö a.2.2.1) 40) (k (2:Int)) (ifb (igt (Ö a.2.2.2.1) 12) (k (2:Int)) (ifb (igt (Ö a.2.2.2.2.1) 40) (k (2:Int)) (ifb (igt (Ö a.2.2.2.2.2) 10) (k (2:Int)) (Ä (ŝ a) fun b=>ifb (ine b 0) (k b) (Ä (Ÿ a) fun e=>RT (mz a e) (fun f=>k f) (Ä (oX a) fun c=>ifb (igt (Ö c) 59) (k (2:Int)) (ck ((2:Int)*(Ö a.2.1)) fun g=>ck ((Ö c)-(Ö a.2.1)) fun h=>ck ((2:Int)*h) fun i=>ck (g+i) fun j=>ck ((2:Int)*(Ö a.2.2.2.2.1)) fun l=>ck (j+l) fun m=>ifb (igt m 300) (k (2:Int)) (k (0:Int)))))))))))
def ô (a:a8):AN (Int):=J1 a some
variable [LC]
def NH (a:ew) (k:Bool->AN ρ):AN ρ :=
  ifb (ile (Ö a.2.2.1) 10) (k (ile (Ö a.2.2.2.1) 10)) (k false)
def xo (a:ew):AN (Bool):=NH a some
def sv (b:bx) (a:Int) (d:Int->AN ρ) (e:Bool->AN ρ) (c:Unit->AN ρ):AN ρ :=
  ifb (ilt a (Ö b)) (ifb (ilt a 50) (ø b a fun f=>Ä (xo f) fun g=>ifb (!g) (e false) (ck (a+(1:Int)) fun h=>d h)) (c ())) (c ())
def Yh (a:a8) (k:Bool->AN ρ):AN ρ :=
  Ì (fun(b:Int) c=>sv a.2.2.2.2.1 b (fun d=>c d) (fun e=>k e) (fun _=>ifb (ile (Ö a.2.1) 14) (ifb (ile (Ö a.2.2.1) 45) (ifb (ile (Ö a.2.2.2.1) 14) (ifb (ile (Ö a.2.2.2.2.1) 42) (k (ile (Ö a.2.2.2.2.2) 12)) (k false)) (k false)) (k false)) (k false))) (0:Int)
def C5 (a:a8):AN (Bool):=Yh a some
def Fv (a:an) (b:Int) (c:Int) (k:Bool->AN ρ):AN ρ :=
  ifb (ile b a.1) (ifb (ile a.1 a.2) (k (ile a.2 c)) (k false)) (k false)
def iS (a:an) (b:Int) (c:Int):AN (Bool):=Fv a b c some
def acK (a:Int) (b:Int) (c:Int) (k:Bool->AN ρ):AN ρ :=
  ifb (ige a b) (k (ile a c)) (k false)
def kG (a:Int) (b:Int) (c:Int):AN (Bool):=acK a b c some
def Yl (a:Int) (k:Bool->AN ρ):AN ρ :=
  Ä (kG a (0:Int) (20000:Int)) fun b=>k b
def tF (a:Int):AN (Bool):=Yl a some
def sL (b:Int) (a:Int) (c:Int->Int->AN ρ) (d:Int->AN ρ):AN ρ :=
  ifb (ine a 0) (ifb (ig a 0) (none) (c a (Int.tmod b a))) (d b)
def Yq (b:Int) (c:Int) (k:Int->AN ρ):AN ρ :=
  Ì (fun(a:an) d=>sL a.1 a.2 (fun e f=>d (e,f)) (fun g=>k g)) (b,c)
def xy (a:Int) (b:Int):AN (Int):=Yq a b some
def Ys (a:Int) (k:Int->AN ρ):AN ρ :=
  ifb (ilt a 0) (ck ((0:Int)-a) fun b=>k b) (k a)
def Dc (a:Int):AN (Int):=Ys a some
def NV (a:an) (k:Bool->AN ρ):AN ρ :=
  ifb (ilt a.2 1) (k false) (ifb (igt a.2 2147483647) (k false) (ifb (ilt a.1 (-2147483647:Int)) (k false) (ifb (igt a.1 2147483647) (k false) (Ä (Dc a.1) fun b=>Ä (xy b a.2) fun c=>k (ieq c 1)))))
def xw (a:an):AN (Bool):=NV a some
def NM (a:c9) (k:Bool->AN ρ):AN ρ :=
  Ä (xw a.2.2.2.2.1) fun b=>ifb (!b) (k false) (Ä (kG a.2.2.2.2.1.1 (-1000:Int) (1000:Int)) fun c=>ifb (!c) (k false) (ifb (igt a.2.2.2.2.1.2 100) (k false) (Ä (kG a.1 (1:Int) (1099511627776:Int)) fun d=>ifb d (Ä (tF a.2.1) fun e=>ifb e (Ä (kG a.2.2.1 (1:Int) (1125899906842624:Int)) fun f=>ifb f (Ä (iS a.2.2.2.1 (-1073741824:Int) (1073741824:Int)) fun g=>ifb g (Ä (kG a.2.2.2.2.2 (0:Int) (1048576:Int)) fun h=>k h) (k false)) (k false)) (k false)) (k false))))
def xu (a:c9):AN (Bool):=NM a some
def pE (c:Int) (b:c8) (a:Int) (d:Int->AN ρ) (e:Int->AN ρ) (f:Unit->AN ρ):AN ρ :=
  ifb (ilt a (Ö b)) (ø b a fun g=>ifb (ieq g.1 c) (e a) (ck (a+(1:Int)) fun h=>d h)) (f ())
def Tn (a:a8) (b:Int) (k:Int->AN ρ):AN ρ :=
  Ì (fun(c:Int) d=>pE b a.2.1 c (fun e=>d e) (fun f=>k f) (fun _=>k (-1:Int))) (0:Int)
def oT (a:a8) (b:Int):AN (Int):=Tn a b some
def NN (a:a8) (c:Int) (d:Int) (k:Int->AN ρ):AN ρ :=
  Ä (oT a c) fun b=>ifb (ilt b 0) (k (5:Int)) (ø a.2.1 b fun e=>ifb (ilt d e.2.1) (k (4:Int)) (k (0:Int)))
def lK (a:a8) (b:Int) (c:Int):AN (Int):=NN a b c some
def po (e:Int) (f:Int) (g:c8) (a:a7) (h:cT) (i:bx) (j:a7) (b:Int) (k:Int->AN ρ) (c:Int->AN ρ) (l:Unit->AN ρ):AN ρ :=
  ifb (ilt b (Ö a)) (ø a b fun m=>Ä (tF m.2) fun n=>ifb (!n) (c (1:Int)) (ø a b fun o=>ø a b fun p=>Ä (lK ((e,f),g,a,h,i,j) o.1 p.2) fun d=>ifb (ine d 0) (c d) (ck (b+(1:Int)) fun q=>k q))) (l ())
def Ta (a:a8) (k:Int->AN ρ):AN ρ :=
  Ì (fun(b:Int) c=>po a.1.1 a.1.2 a.2.1 a.2.2.1 a.2.2.2.1 a.2.2.2.2.1 a.2.2.2.2.2 b (fun d=>c d) (fun e=>k e) (fun _=>k (0:Int))) (0:Int)
def C6 (a:a8):AN (Int):=Ta a some
def nq (d:Int) (b:cT) (e:Int) (f:Int) (g:Int) (a:Int) (c:Int->AN ρ) (h:Int->AN ρ) (i:Unit->AN ρ):AN ρ :=
  ifb (ilt a d) (ø b a fun j=>ifb (ieq j.1 e) (ø b a fun k=>ifb (ile k.2.1.1 g) (ø b a fun l=>ifb (ile f l.2.1.2) (h (9:Int)) (ck (a+(1:Int)) fun m=>c m)) (ck (a+(1:Int)) fun n=>c n)) (ck (a+(1:Int)) fun o=>c o)) (i ())
def ku (b:a7) (d:Int) (e:Int) (f:Int) (a:Int) (c:Int->AN ρ) (g:Int->AN ρ) (h:Unit->AN ρ):AN ρ :=
  ifb (ilt a (Ö b)) (ø b a fun i=>ifb (ieq i.1 d) (ø b a fun j=>Ä (kG j.2 e f) fun k=>ifb k (g (9:Int)) (ck (a+(1:Int)) fun l=>c l)) (ck (a+(1:Int)) fun m=>c m)) (h ())
def nr (g:Int) (h:Int) (i:c8) (e:a7) (c:cT) (j:bx) (k:a7) (d:Int) (l:Int->AN ρ) (b:Int->AN ρ) (m:Unit->AN ρ):AN ρ :=
  ifb (ilt d (Ö c)) (ø c d fun a=>Ä (iS a.2.1 (0:Int) (20000:Int)) fun n=>ifb (!n) (b (1:Int)) (Ä (kG a.2.2 (0:Int) (1048576:Int)) fun o=>ifb (!o) (b (1:Int)) (Ä (lK ((g,h),i,e,c,j,k) a.1 a.2.1.1) fun f=>ifb (ine f 0) (b f) (Ì (fun(p:Int) q=>nq d c a.1 a.2.1.1 a.2.1.2 p (fun r=>q r) (fun s=>b s) (fun _=>Ì (fun(t:Int) u=>ku e a.1 a.2.1.1 a.2.1.2 t (fun v=>u v) (fun w=>b w) (fun _=>ck (d+(1:Int)) fun x=>l x)) (0:Int))) (0:Int))))) (m ())
def NK (a:a8) (k:Int->AN ρ):AN ρ :=
  Ì (fun(b:Int) c=>nr a.1.1 a.1.2 a.2.1 a.2.2.1 a.2.2.2.1 a.2.2.2.2.1 a.2.2.2.2.2 b (fun d=>c d) (fun e=>k e) (fun _=>k (0:Int))) (0:Int)
def xr (a:a8):AN (Int):=NK a some
def pA (b:ag) (a:Int) (c:Int->AN ρ) (d:Bool->AN ρ) (e:Unit->AN ρ):AN ρ :=
  ifb (ilt a (Ö b)) (ø b a fun f=>Ä (kG f (1:Int) (1099511627776:Int)) fun g=>ifb (!g) (d false) (ifb (igt a 0) (ø b a fun h=>ck (a-(1:Int)) fun i=>ø b i fun j=>ifb (ile h j) (d false) (ck (a+(1:Int)) fun k=>c k)) (ck (a+(1:Int)) fun l=>c l))) (e ())
def Tj (a:ag) (k:Bool->AN ρ):AN ρ :=
  Ì (fun(b:Int) c=>pA a b (fun d=>c d) (fun e=>k e) (fun _=>k (ile (Ö a) 6))) (0:Int)
def ww (a:ag):AN (Bool):=Tj a some
def NJ (a:ew) (k:Bool->AN ρ):AN ρ :=
  Ä (ww a.2.2.1) fun b=>Ä (ww a.2.2.2.1) fun c=>ifb b (ifb c (Ä (kG a.1 (1:Int) (1099511627776:Int)) fun d=>ifb d (Ä (tF a.2.1) fun e=>ifb e (Ä (kG a.2.2.2.2.1 (-1125899906842624:Int) (1125899906842624:Int)) fun f=>ifb f (Ä (kG a.2.2.2.2.2.1 (0:Int) (1073741824:Int)) fun g=>ifb g (Ä (iS a.2.2.2.2.2.2 (-10000:Int) (10000:Int)) fun h=>k h) (k false)) (k false)) (k false)) (k false)) (k false)) (k false)
def xq (a:ew):AN (Bool):=NJ a some
def pC (j:Int) (h:Int) (i:cT) (b:Int) (c:Int) (d:Int) (e:Int) (f:Int) (g:Int->Int->Int->Int->Int->AN ρ) (k:(Val (.pair .bool (.pair tI ć)))->AN ρ) (l:(Val (.pair tI ć))->AN ρ):AN ρ :=
  ifb (ilt b (Ö i)) (ø i b fun a=>ifb (ieq a.1 j) (ifb (ile a.2.1.1 h) (ifb (ile h a.2.1.2) (k (true,a.1,a.2.1.1,a.2.1.2,a.2.2)) (ck (b+(1:Int)) fun m=>g m c d e f)) (ck (b+(1:Int)) fun n=>g n c d e f)) (ck (b+(1:Int)) fun o=>g o c d e f)) (l (c,d,e,f))
def Tl (c:a8) (d:Int) (e:Int) (k:so->AN ρ):AN ρ :=
  Ì (fun(a:Val bi) f=>pC d e c.2.2.2.1 a.1 a.2.1 a.2.2.1 a.2.2.2.1 a.2.2.2.2 (fun g h i j l=>f (g,h,i,j,l)) (fun b=>k ((b.2.1,(b.2.2.1,b.2.2.2.1),b.2.2.2.2),b.1)) (fun m=>k (((0:Int),((0:Int),(0:Int)),(0:Int)),false))) ((0:Int),(0:Int),(0:Int),(0:Int),(0:Int))
def wx (a:a8) (b:Int) (c:Int):AN (so):=Tl a b c some
def sJ (b:ag) (c:Int) (a:Int) (d:Int->AN ρ) (e:Bool->AN ρ) (f:Unit->AN ρ):AN ρ :=
  ifb (ilt a (Ö b)) (ø b a fun g=>ifb (ieq g c) (e true) (ck (a+(1:Int)) fun h=>d h)) (f ())
def Yk (a:ag) (b:Int) (k:Bool->AN ρ):AN ρ :=
  Ì (fun(c:Int) d=>sJ a b c (fun e=>d e) (fun f=>k f) (fun _=>k false)) (0:Int)
def Ht (a:ag) (b:Int):AN (Bool):=Yk a b some
def pD (c:ag) (f:ag) (a:Int) (b:ag) (d:Int->ag->AN ρ) (g:ag->AN ρ):AN ρ :=
  ifb (ilt a (Ö c)) (ø c a fun h=>Ä (Ht f h) fun i=>ifb (!i) (ø c a fun e=>æ (Û ((List.length b)+(List.length ([e])))) (ck (a+(1:Int)) fun j=>d j (b++([e])))) (ck (a+(1:Int)) fun k=>d k b)) (g b)
def Tm (b:ag) (c:ag) (k:ag->AN ρ):AN ρ :=
  Ì (fun(a:fy) d=>pD b c a.1 a.2 (fun e f=>d (e,f)) (fun g=>k g)) ((0:Int),[])
def jw (a:ag) (b:ag):AN (ag):=Tm a b some
def jC (c:Int) (d:Int) (e:c8) (f:a7) (g:cT) (h:bx) (i:a7) (b:ag) (a:Int) (j:Int->AN ρ) (k:Int->AN ρ) (l:Unit->AN ρ):AN ρ :=
  ifb (ilt a (Ö b)) (æ ((ile 0 a)&&(ilt a (Ġ b))) (Γ b (Int.toNat a) fun m=>Ä (oT ((c,d),e,f,g,h,i) m) fun n=>ifb (ilt n 0) (k (5:Int)) (ck (a+(1:Int)) fun o=>j o))) (l ())
def g8 (c:Int) (d:Int) (e:c8) (f:a7) (g:cT) (h:bx) (i:a7) (j:Int) (b:ag) (a:Int) (k:Int->AN ρ) (l:Int->AN ρ) (m:Unit->AN ρ):AN ρ :=
  ifb (ilt a (Ö b)) (æ ((ile 0 a)&&(ilt a (Ġ b))) (Γ b (Int.toNat a) fun n=>Ä (lK ((c,d),e,f,g,h,i) n j) fun o=>ifb (ine o 0) (l (4:Int)) (ck (a+(1:Int)) fun p=>k p))) (m ())
def ť (c:Int) (d:Int) (e:c8) (f:a7) (g:cT) (h:bx) (i:a7) (j:Int) (b:ag) (a:Int) (k:Int->AN ρ) (l:Int->AN ρ) (m:Unit->AN ρ):AN ρ :=
  ifb (ilt a (Ö b)) (æ ((ile 0 a)&&(ilt a (Ġ b))) (Γ b (Int.toNat a) fun n=>Ä (wx ((c,d),e,f,g,h,i) n j) fun o=>ifb o.2 (l (9:Int)) (ck (a+(1:Int)) fun p=>k p))) (m ())
def sG (a:a8) (b:ew) (k:Int->AN ρ):AN ρ :=
  æ (Û (0+(List.length b.2.2.1))) (æ (Û ((List.length (([])++b.2.2.1))+(List.length b.2.2.2.1))) (Ì (fun(e:Int) f=>jC a.1.1 a.1.2 a.2.1 a.2.2.1 a.2.2.2.1 a.2.2.2.2.1 a.2.2.2.2.2 ((([])++b.2.2.1)++b.2.2.2.1) e (fun g=>f g) (fun h=>k h) (fun _=>Ì (fun(i:Int) j=>g8 a.1.1 a.1.2 a.2.1 a.2.2.1 a.2.2.2.1 a.2.2.2.2.1 a.2.2.2.2.2 b.2.1 ((([])++b.2.2.1)++b.2.2.2.1) i (fun l=>j l) (fun m=>k m) (fun _=>Ì (fun(n:Int) o=>ť a.1.1 a.1.2 a.2.1 a.2.2.1 a.2.2.2.1 a.2.2.2.2.1 a.2.2.2.2.2 b.2.1 ((([])++b.2.2.1)++b.2.2.2.1) n (fun p=>o p) (fun q=>k q) (fun _=>Ä (jw b.2.2.1 b.2.2.2.1) fun c=>Ä (jw b.2.2.2.1 b.2.2.1) fun d=>ifb (igt (Ö c) 1) (k (1:Int)) (ifb (igt (Ö d) 1) (k (1:Int)) (ck ((Ö c)+(Ö d)) fun r=>ifb (ieq r 0) (k (1:Int)) (k (0:Int)))))) (0:Int))) (0:Int))) (0:Int)))
def jc (a:a8) (b:ew):AN (Int):=sG a b some
def Yi (b:ag) (c:ag) (k:Int->AN ρ):AN ρ :=
  Ä (jw b c) fun a=>ifb (ieq (Ö a) 0) (k (0:Int)) (ø a (0:Int) fun d=>k d)
def nQ (a:ag) (b:ag):AN (Int):=Yi a b some
def pw (g:Int) (c:bx) (d:Int) (b:Int) (e:Int->AN ρ) (f:Bool->AN ρ) (h:Unit->AN ρ):AN ρ :=
  ifb (ilt b (Ö c)) (ø c b fun a=>ifb (ieq a.2.1 g) (Ä (nQ a.2.2.1 a.2.2.2.1) fun i=>ifb (ieq i d) (f true) (Ä (nQ a.2.2.2.1 a.2.2.1) fun j=>ifb (ieq j d) (f true) (ck (b+(1:Int)) fun k=>e k))) (ck (b+(1:Int)) fun l=>e l)) (h ())
def mg (d:Int) (b:a7) (e:Int) (a:Int) (c:Int->AN ρ) (f:Bool->AN ρ) (g:Unit->AN ρ):AN ρ :=
  ifb (ilt a (Ö b)) (ø b a fun h=>ifb (ieq h.1 e) (ø b a fun i=>ifb (ieq i.2 d) (f true) (ck (a+(1:Int)) fun j=>c j)) (ck (a+(1:Int)) fun k=>c k)) (g ())
def Tf (c:a8) (a:c9) (b:Int) (k:Bool->AN ρ):AN ρ :=
  ifb (ieq a.2.1 b) (k true) (Ì (fun(d:Int) e=>pw b c.2.2.2.2.1 a.1 d (fun f=>e f) (fun g=>k g) (fun _=>Ì (fun(h:Int) i=>mg b c.2.2.2.2.2 a.1 h (fun j=>i j) (fun l=>k l) (fun _=>k false)) (0:Int))) (0:Int))
def C7 (a:a8) (b:c9) (c:Int):AN (Bool):=Tf a b c some
def nE (c:c8) (a:Int) (b:ag) (e:Int->ag->AN ρ) (f:ag->AN ρ):AN ρ :=
  ifb (ilt a (Ö c)) (ø c a fun d=>æ (Û ((List.length b)+(List.length ([d.2.1])))) (ck (a+(1:Int)) fun g=>e g (b++([d.2.1])))) (f b)
def nD (c:bx) (a:Int) (b:ag) (e:Int->ag->AN ρ) (f:ag->AN ρ):AN ρ :=
  ifb (ilt a (Ö c)) (ø c a fun d=>æ (Û ((List.length b)+(List.length ([d.2.1])))) (ck (a+(1:Int)) fun g=>e g (b++([d.2.1])))) (f b)
def nB (c:a7) (a:Int) (b:ag) (e:Int->ag->AN ρ) (f:ag->AN ρ):AN ρ :=
  ifb (ilt a (Ö c)) (ø c a fun d=>æ (Û ((List.length b)+(List.length ([d.2])))) (ck (a+(1:Int)) fun g=>e g (b++([d.2])))) (f b)
def kv (e:Int) (b:ag) (c:Int) (a:Int) (d:Int->Int->AN ρ) (f:Int->AN ρ):AN ρ :=
  ifb (ilt a (Ö b)) (æ ((ile 0 a)&&(ilt a (Ġ b))) (Γ b (Int.toNat a) fun g=>ifb (igt g e) (æ ((ile 0 a)&&(ilt a (Ġ b))) (Γ b (Int.toNat a) fun h=>ck (a+(1:Int)) fun i=>d (Uk c h) i)) (ck (a+(1:Int)) fun j=>d c j))) (f c)
def kw (e:Int) (i:Int) (j:Int) (c:c8) (k:a7) (l:cT) (m:bx) (n:a7) (o:ag) (f:Int) (b:a7) (d:Int->a7->AN ρ) (p:a7->AN ρ):AN ρ :=
  ifb (ilt f 20001) (Ì (fun(g:an) q=>kv f o g.1 g.2 (fun r s=>q (r,s)) (fun a=>ifb (ilt a 20001) (ø c e fun t=>Ä (C7 ((i,j),c,k,l,m,n) t a) fun u=>ifb u (ø c e fun h=>æ (Û ((List.length b)+(List.length ([(h.1,a)])))) (d a (b++([(h.1,a)])))) (d a b)) (d a b))) ((20001:Int),(0:Int))) (p b)
def nA (e:Int) (f:Int) (b:c8) (g:a7) (h:cT) (i:bx) (j:a7) (k:ag) (a:Int) (c:a7) (l:Int->a7->AN ρ) (m:a7->AN ρ):AN ρ :=
  ifb (ilt a (Ö b)) (Ì (fun(d:rn) n=>kw a e f b g h i j k d.1 d.2 (fun o p=>n (o,p)) (fun q=>ck (a+(1:Int)) fun r=>l r q)) ((-1:Int),c)) (m c)
def NQ (a:a8) (k:a7->AN ρ):AN ρ :=
  Ì (fun(b:fy) f=>nE a.2.1 b.1 b.2 (fun g h=>f (g,h)) (fun i=>Ì (fun(c:fy) j=>nD a.2.2.2.2.1 c.1 c.2 (fun l m=>j (l,m)) (fun n=>Ì (fun(d:fy) o=>nB a.2.2.2.2.2 d.1 d.2 (fun p q=>o (p,q)) (fun r=>Ì (fun(e:rn) s=>nA a.1.1 a.1.2 a.2.1 a.2.2.1 a.2.2.2.1 a.2.2.2.2.1 a.2.2.2.2.2 r e.1 e.2 (fun t u=>s (t,u)) (fun v=>k v)) ((0:Int),[]))) ((0:Int),n))) ((0:Int),i))) ((0:Int),[])
def jd (a:a8):AN (a7):=NQ a some
def nF (b:a7) (d:Int) (e:Int) (a:Int) (f:Int->AN ρ) (g:Int->AN ρ) (h:Unit->AN ρ):AN ρ :=
  ifb (ilt a (Ö b)) (ø b a fun c=>ifb ((ig c.1 d)&&((ig c.2 e)&&true)) (ck (a+(1:Int)) fun i=>g i) (ck (a+(1:Int)) fun j=>f j)) (h ())
def NR (b:a8) (a:an) (k:Int->AN ρ):AN ρ :=
  Ä (jd b) fun c=>Ì (fun(d:Int) e=>nF c a.1 a.2 d (fun f=>e f) (fun g=>k g) (fun _=>k (0:Int))) (0:Int)
def Μ (a:a8) (b:an):AN (Int):=NR a b some
def pz (d:Int) (e:Int) (b:a7) (a:Int) (c:Int->AN ρ) (f:Bool->AN ρ) (g:Unit->AN ρ):AN ρ :=
  ifb (ilt a (Ö b)) (ø b a fun h=>ifb (ieq h.1 d) (ø b a fun i=>ifb (ieq i.2 e) (f true) (ck (a+(1:Int)) fun j=>c j)) (ck (a+(1:Int)) fun k=>c k)) (g ())
def Tg (a:a8) (b:Int) (c:Int) (k:Bool->AN ρ):AN ρ :=
  Ì (fun(d:Int) e=>pz b c a.2.2.1 d (fun f=>e f) (fun g=>k g) (fun _=>k false)) (0:Int)
def C8 (a:a8) (b:Int) (c:Int):AN (Bool):=Tg a b c some
def pB (d:Int) (m:Int) (n:Int) (e:Int) (f:Int) (g:c8) (h:a7) (i:cT) (j:bx) (k:a7) (b:Int) (a:Int) (c:Int->Int->AN ρ) (o:Int->AN ρ):AN ρ :=
  ifb (ilt a m) (Ä (wx ((e,f),g,h,i,j,k) d a) fun l=>ifb l.2 (ck (b+l.1.2.2) fun p=>ck (a+(1:Int)) fun q=>c p q) (Ä (C8 ((e,f),g,h,i,j,k) d a) fun r=>ifb r (ck (b+n) fun s=>ck (a+(1:Int)) fun t=>c s t) (ck (a+(1:Int)) fun u=>c b u))) (o b)
def Tk (a:a8) (b:Int) (d:Int) (e:Int) (k:Int->AN ρ):AN ρ :=
  Ä (oT a b) fun f=>ø a.2.1 f fun g=>Ì (fun(c:an) h=>pB b e g.2.2.2.2.2 a.1.1 a.1.2 a.2.1 a.2.2.1 a.2.2.2.1 a.2.2.2.2.1 a.2.2.2.2.2 c.1 c.2 (fun i j=>h (i,j)) (fun l=>k l)) ((0:Int),d)
def rU (a:a8) (b:Int) (c:Int) (d:Int):AN (Int):=Tk a b c d some
def I7 (b:Int) (a:Int) (k:f4->AN ρ):AN ρ :=
  ifb (ine b 0) (ifb (ig a 0) (none) (Ä (Dc (Int.tmod b a)) fun h=>Ä (xy h a) fun c=>ifb (ig c 0) (none) (ck (Int.tdiv b c) fun d=>ifb (ig c 0) (none) (ck (Int.tdiv a c) fun f=>ifb (igt f 2147483647) (k (((0:Int),(0:Int)),(3:Int))) (ifb (ilt d (-2147483647:Int)) (k (((0:Int),(0:Int)),(3:Int))) (ifb (igt d 2147483647) (k (((0:Int),(0:Int)),(3:Int))) (k ((d,f),(0:Int))))))))) (ifb (ig a 0) (none) (ck (Int.tdiv b a) fun e=>ifb (ig a 0) (none) (ck (Int.tdiv a a) fun g=>ifb (igt g 2147483647) (k (((0:Int),(0:Int)),(3:Int))) (ifb (ilt e (-2147483647:Int)) (k (((0:Int),(0:Int)),(3:Int))) (ifb (igt e 2147483647) (k (((0:Int),(0:Int)),(3:Int))) (k ((e,g),(0:Int))))))))
def oU (a:Int) (b:Int):AN f4:=I7 a b some
def Yr (a:an) (b:an) (k:f4->AN ρ):AN ρ :=
  ck (a.1*b.2) fun c=>ck (b.1*a.2) fun d=>ck (c+d) fun e=>ck (a.2*b.2) fun f=>Ä (oU e f) fun g=>k g
def Qw (a:an) (b:an):AN f4:=Yr a b some
def Yo (a:an) (k:an->AN ρ):AN ρ :=
  ck ((0:Int)-a.1) fun b=>k (b,a.2)
def Qv (a:an):AN an:=Yo a some
def Yn (a:an) (b:an) (k:f4->AN ρ):AN ρ :=
  Ä (Qv b) fun c=>Ä (Qw a c) fun d=>k d
def Hu (a:an) (b:an):AN f4:=Yn a b some
def NL (a:a8) (b:Int) (k:an->AN ρ):AN ρ :=
  ifb (ieq b 0) (k ((0:Int),(1:Int))) (Ä (oT a b) fun c=>ø a.2.1 c fun d=>k d.2.2.2.2.1)
def rR (a:a8) (b:Int):AN an:=NL a b some
def Tr (a:f4) (b:f4) (k:Val AG->AN ρ):AN ρ :=
  ifb (ine a.2 0) (k ((((0:Int),(0:Int)),(0:Int),(0:Int)),a.2)) (ifb (ine b.2 0) (k ((((0:Int),(0:Int)),(0:Int),(0:Int)),b.2)) (k ((a.1,b.1),(0:Int))))
def Da (a:f4) (b:f4):AN (Val AG):=Tr a b some
def Yp (a:an) (b:an) (k:f4->AN ρ):AN ρ :=
  ck (a.1*b.1) fun c=>ck (a.2*b.2) fun d=>Ä (oU c d) fun e=>k e
def tG (a:an) (b:an):AN f4:=Yp a b some
def NW (b:ly) (a:an) (k:Val AG->AN ρ):AN ρ :=
  ifb (ilt a.1 0) (Ä (tG b.2 a) fun c=>Ä (tG b.1 a) fun d=>Ä (Da c d) fun e=>k e) (Ä (tG b.1 a) fun f=>Ä (tG b.2 a) fun g=>Ä (Da f g) fun h=>k h)
def xx (a:ly) (b:an):AN (Val AG):=NW a b some
def IZ (b:a8) (a:ew) (k:ly->AN ρ):AN ρ :=
  Ä (nQ a.2.2.1 a.2.2.2.1) fun c=>Ä (rR b c) fun d=>Ä (nQ a.2.2.2.1 a.2.2.1) fun e=>Ä (rR b e) fun f=>Ä (Hu d f) fun g=>Ä (xx ((a.2.2.2.2.2.2.1,(1:Int)),a.2.2.2.2.2.2.2,(1:Int)) g.1) fun h=>k h.1
def tE (a:a8) (b:ew):AN ly:=IZ a b some
def NT (a:a8) (b:ew) (k:an->AN ρ):AN ρ :=
  ck ((Ö b.2.2.1)-(1:Int)) fun c=>ck ((Ö b.2.2.2.1)-(1:Int)) fun d=>ck ((Lu (0:Int) c)*a.1.1) fun e=>ck ((Lu (0:Int) d)*a.1.2) fun f=>ck (e-f) fun g=>ck ((Lu (0:Int) c)*a.1.2) fun h=>ck ((Lu (0:Int) d)*a.1.1) fun i=>ck (h-i) fun j=>k (g,j)
def xv (a:a8) (b:ew):AN an:=NT a b some
def Tq (b:Int) (a:Int) (k:Int->AN ρ):AN ρ :=
  ifb (ig a 0) (none) (ck (Int.tdiv b a) fun c=>ifb (ig a 0) (none) (ifb (ilt (Int.tmod b a) 0) (ck (c-1) fun d=>k d) (k c)))
def KC (a:Int) (b:Int):AN (Int):=Tq a b some
def NY (a:an) (k:Int->AN ρ):AN ρ :=
  Ä (KC a.1 a.2) fun b=>k b
def xz (a:an):AN (Int):=NY a some
def acM (b:Int) (a:Int) (k:Int->AN ρ):AN ρ :=
  ifb (ig a 0) (none) (ck (Int.tdiv b a) fun c=>ifb (ig a 0) (none) (ifb (igt (Int.tmod b a) 0) (ck (c+1) fun d=>k d) (k c)))
def WQ (a:Int) (b:Int):AN (Int):=acM a b some
def Tv (a:an) (k:Int->AN ρ):AN ρ :=
  Ä (WQ a.1 a.2) fun b=>k b
def Db (a:an):AN (Int):=Tv a some
def Ti (b:a8) (a:ew) (k:an->AN ρ):AN ρ :=
  Ä (tE b a) fun c=>Ä (xv b a) fun d=>ck (a.2.2.2.2.1-a.2.2.2.2.2.1) fun e=>ck (e-d.2) fun f=>Ä (xz c.2) fun g=>ck (f-g) fun h=>ck (a.2.2.2.2.1+a.2.2.2.2.2.1) fun i=>ck (i-d.1) fun j=>Ä (Db c.1) fun l=>ck (j-l) fun m=>k (h,m)
def rS (a:a8) (b:ew):AN an:=Ti a b some
def oG (e:a7) (b:Int) (p:Int) (q:Int) (r:c8) (s:a7) (t:cT) (u:bx) (v:a7) (g:Int) (w:Int) (h:Int) (x:Int) (y:Int) (a:Int) (c:fx) (d:a7) (f:Int->fx->a7->AN ρ) (z:Val ye->AN ρ):AN ρ :=
  ifb (ilt a (Ö e)) (ø e a fun A=>ifb (ine A.1 g) (ck (a+(1:Int)) fun B=>f B c d) (ø e a fun C=>ifb (ieq C.2 w) (ck (a+(1:Int)) fun i=>ck (h+y) fun j=>ck (a+(1:Int)) fun k=>ck ((0:Int)-h) fun D=>ck (D-x) fun l=>æ (Û ((List.length c)+(List.length ([((0:Int),i,j),(k,(0:Int),l)])))) (æ (Û ((List.length d)+(List.length ([((1:Int),b),((1:Int),b)])))) (ck (a+(1:Int)) fun E=>f E (c++([((0:Int),i,j),(k,(0:Int),l)])) (d++([((1:Int),b),((1:Int),b)]))))) (ck (a-(1:Int)) fun F=>ø e F fun G=>ø e a fun H=>Ä (rU ((p,q),r,s,t,u,v) g G.2 H.2) fun m=>ck (a+(1:Int)) fun n=>ck (a+(1:Int)) fun o=>æ (Û ((List.length c)+(List.length ([(a,n,(0:Int)),(o,a,m)])))) (æ (Û ((List.length d)+(List.length ([((2:Int),b),((2:Int),b)])))) (ck (a+(1:Int)) fun I=>f I (c++([(a,n,(0:Int)),(o,a,m)])) (d++([((2:Int),b),((2:Int),b)]))))))) (z (c,d))
def sI (h:a7) (i:Int) (j:Int) (c:c8) (k:a7) (l:cT) (m:bx) (n:a7) (b:Int) (e:fx) (f:a7) (o:Int->fx->a7->AN ρ) (p:Val ye->AN ρ):AN ρ :=
  ifb (ilt b (Ö c)) (ø c b fun a=>Ì (fun(d:v8) q=>oG h b i j c k l m n a.1 a.2.1 a.2.2.1 a.2.2.2.1.1 a.2.2.2.1.2 d.1 d.2.1 d.2.2 (fun r s t=>q (r,s,t)) (fun g=>ck (b+(1:Int)) fun u=>o u g.1 g.2)) ((0:Int),e,f)) (p (e,f))
def sH (f:Int) (g:Int) (h:c8) (i:a7) (j:cT) (c:bx) (k:a7) (a:Int) (l:fx) (m:a7) (p:Int->fx->a7->AN ρ) (q:Val ye->AN ρ):AN ρ :=
  ifb (ilt a (Ö c)) (ø c a fun b=>Ä (nQ b.2.2.1 b.2.2.2.1) fun r=>Ä (Μ ((f,g),h,i,j,c,k) (r,b.2.1)) fun d=>Ä (nQ b.2.2.2.1 b.2.2.1) fun s=>Ä (Μ ((f,g),h,i,j,c,k) (s,b.2.1)) fun e=>Ä (rS ((f,g),h,i,j,c,k) b) fun n=>ck ((0:Int)-n.1) fun o=>æ (Û ((List.length l)+(List.length ([(e,d,n.2),(d,e,o)])))) (æ (Û ((List.length m)+(List.length ([((3:Int),a),((3:Int),a)])))) (ck (a+(1:Int)) fun t=>p t (l++([(e,d,n.2),(d,e,o)])) (m++([((3:Int),a),((3:Int),a)]))))) (q (l,m))
def Yj (a:a8) (k:Val ye->AN ρ):AN ρ :=
  Ä (jd a) fun e=>Ì (fun(b:v8) f=>sI e a.1.1 a.1.2 a.2.1 a.2.2.1 a.2.2.2.1 a.2.2.2.2.1 a.2.2.2.2.2 b.1 b.2.1 b.2.2 (fun g h i=>f (g,h,i)) (fun d=>Ì (fun(c:v8) j=>sH a.1.1 a.1.2 a.2.1 a.2.2.1 a.2.2.2.1 a.2.2.2.2.1 a.2.2.2.2.2 c.1 c.2.1 c.2.2 (fun l m n=>j (l,m,n)) (fun o=>k o)) ((0:Int),d.1,d.2))) ((0:Int),[],[])
def tC (a:a8):AN (Val ye):=Yj a some
def nI (b:c8) (a:Int) (c:Int->AN ρ) (d:Int->AN ρ) (e:Unit->AN ρ):AN ρ :=
  ifb (ilt a (Ö b)) (ø b a fun f=>Ä (xu f) fun g=>ifb (!g) (d (1:Int)) (ifb (igt a 0) (ø b a fun h=>ck (a-(1:Int)) fun i=>ø b i fun j=>ifb (ile h.1 j.1) (d (6:Int)) (ck (a+(1:Int)) fun k=>c k)) (ck (a+(1:Int)) fun l=>c l))) (e ())
def nH (b:Int) (c:bx) (a:Int) (d:Int->AN ρ) (e:Int->AN ρ) (f:Unit->AN ρ):AN ρ :=
  ifb (ilt a b) (ø c a fun g=>ø c b fun h=>ifb (ieq g.1 h.1) (e (6:Int)) (ck (a+(1:Int)) fun i=>d i)) (f ())
def i9 (e:Int) (f:Int) (g:c8) (h:a7) (i:cT) (a:bx) (j:a7) (b:Int) (k:Int->AN ρ) (c:Int->AN ρ) (l:Unit->AN ρ):AN ρ :=
  ifb (ilt b (Ö a)) (ø a b fun m=>Ä (xq m) fun n=>ifb (!n) (c (1:Int)) (Ì (fun(o:Int) p=>nH b a o (fun q=>p q) (fun r=>c r) (fun _=>ø a b fun s=>Ä (jc ((e,f),g,h,i,a,j) s) fun d=>ifb (ine d 0) (c d) (ck (b+(1:Int)) fun t=>k t))) (0:Int))) (l ())
def i8 (e:Int) (f:Int) (g:c8) (h:a7) (i:cT) (j:bx) (a:a7) (b:Int) (k:Int->AN ρ) (c:Int->AN ρ) (l:Unit->AN ρ):AN ρ :=
  ifb (ilt b (Ö a)) (ø a b fun m=>Ä (tF m.2) fun n=>ifb (!n) (c (1:Int)) (ø a b fun o=>ø a b fun p=>Ä (lK ((e,f),g,h,i,j,a) o.1 p.2) fun d=>ifb (ine d 0) (c d) (ck (b+(1:Int)) fun q=>k q))) (l ())
def Ef (a:a8) (k:Int->AN ρ):AN ρ :=
  Ä (iS a.1 (0:Int) (1000000:Int)) fun d=>ifb (!d) (k (1:Int)) (ifb (igt (Ö a.2.1) 12) (k (2:Int)) (ifb (igt (Ö a.2.2.1) 40) (k (2:Int)) (ifb (igt (Ö a.2.2.2.1) 12) (k (2:Int)) (ifb (igt (Ö a.2.2.2.2.1) 40) (k (2:Int)) (ifb (igt (Ö a.2.2.2.2.2) 10) (k (2:Int)) (Ì (fun(e:Int) f=>nI a.2.1 e (fun g=>f g) (fun h=>k h) (fun _=>Ä (C6 a) fun b=>ifb (ieq b 0) (Ä (xr a) fun c=>ifb (ine c 0) (k c) (Ì (fun(i:Int) j=>i9 a.1.1 a.1.2 a.2.1 a.2.2.1 a.2.2.2.1 a.2.2.2.2.1 a.2.2.2.2.2 i (fun l=>j l) (fun m=>k m) (fun _=>Ì (fun(n:Int) o=>i8 a.1.1 a.1.2 a.2.1 a.2.2.1 a.2.2.2.1 a.2.2.2.2.1 a.2.2.2.2.2 n (fun p=>o p) (fun q=>k q) (fun _=>Ä (jd a) fun r=>ifb (igt (Ö r) 59) (k (2:Int)) (Ä (tC a) fun s=>ifb (igt (Ö s.1) 300) (k (2:Int)) (k (0:Int))))) (0:Int))) (0:Int))) (ifb (ine b 0) (k b) (Ì (fun(t:Int) u=>i9 a.1.1 a.1.2 a.2.1 a.2.2.1 a.2.2.2.1 a.2.2.2.2.1 a.2.2.2.2.2 t (fun v=>u v) (fun w=>k w) (fun _=>Ì (fun(x:Int) y=>i8 a.1.1 a.1.2 a.2.1 a.2.2.1 a.2.2.2.1 a.2.2.2.2.1 a.2.2.2.2.2 x (fun z=>y z) (fun A=>k A) (fun _=>Ä (jd a) fun B=>ifb (igt (Ö B) 59) (k (2:Int)) (Ä (tC a) fun C=>ifb (igt (Ö C.1) 300) (k (2:Int)) (k (0:Int))))) (0:Int))) (0:Int))))) (0:Int)))))))
def lL (a:a8):AN (Int):=Ef a some
def đ (c:a7) (d:Int) (e:Int) (f:Int) (a:Int) (g:Int->AN ρ) (h:Int->AN ρ) (i:Unit->AN ρ):AN ρ :=
  ifb (ilt a d) (ø c a fun b=>ifb ((ig e b.1)&&((ig f b.2)&&true)) (h a) (ck (a+(1:Int)) fun j=>g j)) (i ())
def iH (a:a7) (b:an) (k:Int->AN ρ):AN ρ :=
  Ì (fun(c:Int) d=>đ a (Ö a) b.1 b.2 c (fun e=>d e) (fun f=>k f) (fun _=>k (-1:Int))) (0:Int)
def î (a:a7) (b:an):AN (Int):=iH a b some
def T6 (a:a8) (d:an) (k:an->AN ρ):AN ρ :=
  Ä (ô a) fun b=>ifb (ine b 0) (k ((0:Int),b)) (Ä (oX a) fun e=>Ä (î e d) fun c=>ifb (ilt c 0) (k ((0:Int),(5:Int))) (ck (c+(1:Int)) fun f=>k (f,(0:Int))))
def ļ (a:a8) (b:an):AN an:=T6 a b some
def Ja (a:nR) (b:an) (k:Int->AN ρ):AN ρ :=
  Ä (ļ a.1 b) fun c=>k c.1
def Ŝ (a:nR) (b:an):AN (Int):=Ja a b some
def Ι (c:fx) (d:Int) (b:Int) (a:Int) (e:Int->Int->AN ρ) (f:Int->AN ρ):AN ρ :=
  ifb (ilt a d) (ø c a fun g=>ck (b+(Uk g.2.2 (0:Int))) fun h=>ck (a+(1:Int)) fun i=>e h i) (f b)
def ĺ (f:Int) (d:ag) (a:Int) (b:xK) (c:ag) (e:Int->xK->ag->AN ρ) (g:Val aR->AN ρ):AN ρ :=
  ifb (ilt a f) (æ ((ile 0 a)&&(ilt a (Ġ d))) (Γ d (Int.toNat a) fun h=>ifb (ine h 1152921504606846976) (æ (Û ((List.length c)+(List.length ([a])))) (æ ((ile 0 a)&&(ilt a (Ġ b))) (Γ b (Int.toNat a) fun k=>ck (a+(1:Int)) fun i=>e i (List.set b (Int.toNat a) true) (c++([a]))))) (ck (a+(1:Int)) fun j=>e j b c))) (g (b,c))
def iL (m:io) (j:Int) (d:Int) (n:fx) (o:Int) (f:Int) (b:ag) (c:xK) (e:ag) (g:Int->ag->xK->ag->AN ρ) (l:(Val (.pair .bool (.pair ai aR)))->AN ρ) (p:(Val (.pair ai aR))->AN ρ):AN ρ :=
  ifb (ilt f o) (ø n f fun a=>ifb (ine a.1 d) (ck (f+(1:Int)) fun q=>g q b c e) (Re (k:=tI) (v:=.bool) f m (fun r=>ifb r (ck (f+(1:Int)) fun s=>g s b c e) (æ ((ile 0 d)&&(ilt d (Ġ b))) (Γ b (Int.toNat d) fun t=>ck (t+a.2.2) fun u=>æ ((ile 0 a.2.1)&&(ilt a.2.1 (Ġ b))) (Γ b (Int.toNat a.2.1) fun w=>ifb (ige u w) (ck (f+(1:Int)) fun x=>g x b c e) (æ ((ile 0 d)&&(ilt d (Ġ b))) (Γ b (Int.toNat d) fun y=>ck (y+a.2.2) fun h=>æ ((ile 0 a.2.1)&&(ilt a.2.1 (Ġ b))) (Γ b (Int.toNat a.2.1) fun M=>æ ((ile 0 a.2.1)&&(ilt a.2.1 (Ġ (List.set b (Int.toNat a.2.1) h)))) (Γ (List.set b (Int.toNat a.2.1) h) (Int.toNat a.2.1) fun z=>ifb (ilt z j) (l (false,(List.set b (Int.toNat a.2.1) h),c,e)) (æ ((ile 0 a.2.1)&&(ilt a.2.1 (Ġ c))) (Γ c (Int.toNat a.2.1) fun A=>ifb (!A) (æ (Û ((List.length e)+(List.length ([a.2.1])))) (æ ((ile 0 a.2.1)&&(ilt a.2.1 (Ġ c))) (Γ c (Int.toNat a.2.1) fun N=>ck (f+(1:Int)) fun B=>g B (List.set b (Int.toNat a.2.1) h) (List.set c (Int.toNat a.2.1) true) (e++([a.2.1]))))) (ck (f+(1:Int)) fun C=>g C (List.set b (Int.toNat a.2.1) h) c e))))))))))) (æ ((ile 0 d)&&(ilt d (Ġ b))) (Γ b (Int.toNat d) fun D=>ck (D+a.2.2) fun E=>æ ((ile 0 a.2.1)&&(ilt a.2.1 (Ġ b))) (Γ b (Int.toNat a.2.1) fun F=>ifb (ige E F) (ck (f+(1:Int)) fun G=>g G b c e) (æ ((ile 0 d)&&(ilt d (Ġ b))) (Γ b (Int.toNat d) fun H=>ck (H+a.2.2) fun i=>æ ((ile 0 a.2.1)&&(ilt a.2.1 (Ġ b))) (Γ b (Int.toNat a.2.1) fun O=>æ ((ile 0 a.2.1)&&(ilt a.2.1 (Ġ (List.set b (Int.toNat a.2.1) i)))) (Γ (List.set b (Int.toNat a.2.1) i) (Int.toNat a.2.1) fun I=>ifb (ilt I j) (l (false,(List.set b (Int.toNat a.2.1) i),c,e)) (æ ((ile 0 a.2.1)&&(ilt a.2.1 (Ġ c))) (Γ c (Int.toNat a.2.1) fun J=>ifb (!J) (æ (Û ((List.length e)+(List.length ([a.2.1])))) (æ ((ile 0 a.2.1)&&(ilt a.2.1 (Ġ c))) (Γ c (Int.toNat a.2.1) fun P=>ck (f+(1:Int)) fun K=>g K (List.set b (Int.toNat a.2.1) i) (List.set c (Int.toNat a.2.1) true) (e++([a.2.1]))))) (ck (f+(1:Int)) fun L=>g L (List.set b (Int.toNat a.2.1) i) c e)))))))))))) (p (b,c,e))
def Ĕ (l:io) (m:Int) (n:Int) (k:fx) (h:ag) (d:xK) (b:ag) (c:ag) (o:ag->xK->ag->ag->AN ρ) (i:(Val (.pair .bool aS))->AN ρ):AN ρ :=
  ifb (ieq (Ö c) 0) (i (true,h,d,b,c)) (æ (ilt 0 (Ġ c)) (Γ c 0 fun a=>æ (ile 1 (Ġ c)) (æ (decide (1+(List.length c-1)=List.length c)) (æ ((ile 0 a)&&(ilt a (Ġ d))) (Γ d (Int.toNat a) fun x=>æ ((ile 0 a)&&(ilt a (Ġ b))) (Γ b (Int.toNat a) fun p=>ck (p+(1:Int)) fun e=>æ ((ile 0 a)&&(ilt a (Ġ b))) (Γ b (Int.toNat a) fun y=>æ ((ile 0 a)&&(ilt a (Ġ (List.set b (Int.toNat a) e)))) (Γ (List.set b (Int.toNat a) e) (Int.toNat a) fun q=>ck (n+(1:Int)) fun r=>ifb (igt q r) (i (false,h,(List.set d (Int.toNat a) false),(List.set b (Int.toNat a) e),(List.drop 1 c))) (Ì (fun(f:pc) s=>iL l m a k (Ö k) f.1 f.2.1 f.2.2.1 f.2.2.2 (fun t u v w=>s (t,u,v,w)) (fun g=>i (g.1,g.2.1,g.2.2.1,(List.set b (Int.toNat a) e),g.2.2.2)) (fun j=>o j.1 j.2.1 (List.set b (Int.toNat a) e) j.2.2)) ((0:Int),h,(List.set d (Int.toNat a) false),(List.drop 1 c)))))))))))
def iK (c:Int) (d:Int) (a:Int) (b:ag) (e:Int->ag->AN ρ) (f:ag->AN ρ):AN ρ :=
  ifb (ilt a d) (æ ((ile 0 a)&&(ilt a (Ġ b))) (Γ b (Int.toNat a) fun g=>ck (g-c) fun h=>æ ((ile 0 a)&&(ilt a (Ġ b))) (Γ b (Int.toNat a) fun j=>ck (a+(1:Int)) fun i=>e i (List.set b (Int.toNat a) h)))) (f b)
def vQ (a:ey) (h:io) (k:ry->AN ρ):AN ρ :=
  æ ((ile 0 a.1)&&(Û (Int.toNat a.1))) (æ ((ile 0 a.1)&&(Û (Int.toNat a.1))) (æ ((ile 0 a.1)&&(Û (Int.toNat a.1))) (Ì (fun(e:an) i=>Ι a.2 (Ö a.2) e.1 e.2 (fun j l=>i (j,l)) (fun m=>Ì (fun(d:y9) n=>ĺ a.1 (List.replicate (Int.toNat a.1) (0:Int)) d.1 d.2.1 d.2.2 (fun o p q=>n (o,p,q)) (fun f=>Ì (fun(c:Val aS) r=>Ĕ h m a.1 a.2 c.1 c.2.1 c.2.2.1 c.2.2.2 (fun s t u v=>r (s,t,u,v)) (fun b=>ifb (!b.1) (k ([],false)) (æ (ilt 0 (Ġ b.2.1)) (Γ b.2.1 0 fun w=>Ì (fun(g:fy) x=>iK w (Ö b.2.1) g.1 g.2 (fun y z=>x (y,z)) (fun A=>k (A,true))) ((0:Int),b.2.1))))) ((List.replicate (Int.toNat a.1) (0:Int)),f.1,(List.replicate (Int.toNat a.1) (0:Int)),f.2))) ((0:Int),(List.replicate (Int.toNat a.1) false),[]))) ((0:Int),(0:Int)))))
def iT (a:ey) (b:io):AN (ry):=vQ a b some
def Yv (b:ey) (a:Int) (k:Bool->AN ρ):AN ρ :=
  ifb (ige a 0) (k (ilt a b.1)) (k false)
def pZ (a:ey) (b:Int):AN (Bool):=Yv a b some
def pN (f:fx) (g:Int) (d:Int) (e:fx) (a:Int) (h:Int->AN ρ) (c:an->AN ρ) (i:Unit->AN ρ):AN ρ :=
  ifb (ilt a g) (ø f a fun b=>Ä (pZ (d,e) b.1) fun j=>ifb (!j) (c ((1:Int),a)) (Ä (pZ (d,e) b.2.1) fun k=>ifb (!k) (c ((1:Int),a)) (ifb (ieq b.1 b.2.1) (c ((1:Int),a)) (ifb (ilt b.2.2 (-4503599627370496:Int)) (c ((1:Int),a)) (ifb (igt b.2.2 4503599627370496) (c ((1:Int),a)) (ck (a+(1:Int)) fun l=>h l)))))) (i ())
def TQ (a:ey) (k:an->AN ρ):AN ρ :=
  ifb (ilt a.1 1) (k ((1:Int),(-1:Int))) (ifb (igt a.1 60) (k ((1:Int),(-1:Int))) (ifb (igt (Ö a.2) 300) (k ((2:Int),(-1:Int))) (Ì (fun(c:Int) d=>pN a.2 (Ö a.2) a.1 a.2 c (fun e=>d e) (fun b=>k (b.1,b.2)) (fun _=>k ((0:Int),(-1:Int)))) (0:Int))))
def mD (a:ey):AN an:=TQ a some
def pM (b:ag) (c:Int) (d:Int) (e:fx) (a:Int) (f:Int->AN ρ) (g:Int->AN ρ) (h:Unit->AN ρ):AN ρ :=
  ifb (ilt a c) (ø b a fun i=>Ä (pZ (d,e) i) fun j=>ifb (!j) (g (1:Int)) (ck (a+(1:Int)) fun k=>f k)) (h ())
def TO (a:ey) (b:ag) (k:Int->AN ρ):AN ρ :=
  Ä (mD a) fun c=>ifb (ine c.1 0) (k c.1) (Ì (fun(d:Int) e=>pM b (Ö b) a.1 a.2 d (fun f=>e f) (fun g=>k g) (fun _=>Ä (iT a ([])) fun h=>ifb (!h.2) (k (9:Int)) (k (0:Int)))) (0:Int))
def De (a:ey) (b:ag):AN (Int):=TO a b some
def nJ (c:Int) (a:Int) (b:ag) (d:Int->ag->AN ρ) (e:ag->AN ρ):AN ρ :=
  ifb (ilt a c) (æ ((ile 0 a)&&(ilt a (Ġ b))) (Γ b (Int.toNat a) fun g=>ck (a+(1:Int)) fun f=>d f (List.set b (Int.toNat a) (1152921504606846976:Int)))) (e b)
def sS (c:fx) (d:Int) (b:Int) (a:Int) (e:Int->Int->AN ρ) (f:Int->AN ρ):AN ρ :=
  ifb (ilt a d) (ø c a fun g=>ck (b+(Uk g.2.2 (0:Int))) fun h=>ck (a+(1:Int)) fun i=>e h i) (f b)
def sR (f:Int) (d:ag) (a:Int) (b:xK) (c:ag) (e:Int->xK->ag->AN ρ) (g:Val aR->AN ρ):AN ρ :=
  ifb (ilt a f) (æ ((ile 0 a)&&(ilt a (Ġ d))) (Γ d (Int.toNat a) fun h=>ifb (ine h 1152921504606846976) (æ (Û ((List.length c)+(List.length ([a])))) (æ ((ile 0 a)&&(ilt a (Ġ b))) (Γ b (Int.toNat a) fun k=>ck (a+(1:Int)) fun i=>e i (List.set b (Int.toNat a) true) (c++([a]))))) (ck (a+(1:Int)) fun j=>e j b c))) (g (b,c))
def Cl (m:io) (j:Int) (d:Int) (n:fx) (o:Int) (f:Int) (b:ag) (c:xK) (e:ag) (g:Int->ag->xK->ag->AN ρ) (l:(Val (.pair .bool (.pair ai aR)))->AN ρ) (p:(Val (.pair ai aR))->AN ρ):AN ρ :=
  ifb (ilt f o) (ø n f fun a=>ifb (ine a.1 d) (ck (f+(1:Int)) fun q=>g q b c e) (Re (k:=tI) (v:=.bool) f m (fun r=>ifb r (ck (f+(1:Int)) fun s=>g s b c e) (æ ((ile 0 d)&&(ilt d (Ġ b))) (Γ b (Int.toNat d) fun t=>ck (t+a.2.2) fun u=>æ ((ile 0 a.2.1)&&(ilt a.2.1 (Ġ b))) (Γ b (Int.toNat a.2.1) fun w=>ifb (ige u w) (ck (f+(1:Int)) fun x=>g x b c e) (æ ((ile 0 d)&&(ilt d (Ġ b))) (Γ b (Int.toNat d) fun y=>ck (y+a.2.2) fun h=>æ ((ile 0 a.2.1)&&(ilt a.2.1 (Ġ b))) (Γ b (Int.toNat a.2.1) fun M=>æ ((ile 0 a.2.1)&&(ilt a.2.1 (Ġ (List.set b (Int.toNat a.2.1) h)))) (Γ (List.set b (Int.toNat a.2.1) h) (Int.toNat a.2.1) fun z=>ifb (ilt z j) (l (false,(List.set b (Int.toNat a.2.1) h),c,e)) (æ ((ile 0 a.2.1)&&(ilt a.2.1 (Ġ c))) (Γ c (Int.toNat a.2.1) fun A=>ifb (!A) (æ (Û ((List.length e)+(List.length ([a.2.1])))) (æ ((ile 0 a.2.1)&&(ilt a.2.1 (Ġ c))) (Γ c (Int.toNat a.2.1) fun N=>ck (f+(1:Int)) fun B=>g B (List.set b (Int.toNat a.2.1) h) (List.set c (Int.toNat a.2.1) true) (e++([a.2.1]))))) (ck (f+(1:Int)) fun C=>g C (List.set b (Int.toNat a.2.1) h) c e))))))))))) (æ ((ile 0 d)&&(ilt d (Ġ b))) (Γ b (Int.toNat d) fun D=>ck (D+a.2.2) fun E=>æ ((ile 0 a.2.1)&&(ilt a.2.1 (Ġ b))) (Γ b (Int.toNat a.2.1) fun F=>ifb (ige E F) (ck (f+(1:Int)) fun G=>g G b c e) (æ ((ile 0 d)&&(ilt d (Ġ b))) (Γ b (Int.toNat d) fun H=>ck (H+a.2.2) fun i=>æ ((ile 0 a.2.1)&&(ilt a.2.1 (Ġ b))) (Γ b (Int.toNat a.2.1) fun O=>æ ((ile 0 a.2.1)&&(ilt a.2.1 (Ġ (List.set b (Int.toNat a.2.1) i)))) (Γ (List.set b (Int.toNat a.2.1) i) (Int.toNat a.2.1) fun I=>ifb (ilt I j) (l (false,(List.set b (Int.toNat a.2.1) i),c,e)) (æ ((ile 0 a.2.1)&&(ilt a.2.1 (Ġ c))) (Γ c (Int.toNat a.2.1) fun J=>ifb (!J) (æ (Û ((List.length e)+(List.length ([a.2.1])))) (æ ((ile 0 a.2.1)&&(ilt a.2.1 (Ġ c))) (Γ c (Int.toNat a.2.1) fun P=>ck (f+(1:Int)) fun K=>g K (List.set b (Int.toNat a.2.1) i) (List.set c (Int.toNat a.2.1) true) (e++([a.2.1]))))) (ck (f+(1:Int)) fun L=>g L (List.set b (Int.toNat a.2.1) i) c e)))))))))))) (p (b,c,e))
def sQ (l:io) (m:Int) (n:Int) (k:fx) (h:ag) (d:xK) (b:ag) (c:ag) (o:ag->xK->ag->ag->AN ρ) (i:(Val (.pair .bool aS))->AN ρ):AN ρ :=
  ifb (ieq (Ö c) 0) (i (true,h,d,b,c)) (æ (ilt 0 (Ġ c)) (Γ c 0 fun a=>æ (ile 1 (Ġ c)) (æ (decide (1+(List.length c-1)=List.length c)) (æ ((ile 0 a)&&(ilt a (Ġ d))) (Γ d (Int.toNat a) fun x=>æ ((ile 0 a)&&(ilt a (Ġ b))) (Γ b (Int.toNat a) fun p=>ck (p+(1:Int)) fun e=>æ ((ile 0 a)&&(ilt a (Ġ b))) (Γ b (Int.toNat a) fun y=>æ ((ile 0 a)&&(ilt a (Ġ (List.set b (Int.toNat a) e)))) (Γ (List.set b (Int.toNat a) e) (Int.toNat a) fun q=>ck (n+(1:Int)) fun r=>ifb (igt q r) (i (false,h,(List.set d (Int.toNat a) false),(List.set b (Int.toNat a) e),(List.drop 1 c))) (Ì (fun(f:pc) s=>Cl l m a k (Ö k) f.1 f.2.1 f.2.2.1 f.2.2.2 (fun t u v w=>s (t,u,v,w)) (fun g=>i (g.1,g.2.1,g.2.2.1,(List.set b (Int.toNat a) e),g.2.2.2)) (fun j=>o j.1 j.2.1 (List.set b (Int.toNat a) e) j.2.2)) ((0:Int),h,(List.set d (Int.toNat a) false),(List.drop 1 c)))))))))))
def Er (a:ey) (i:io) (b:Int) (k:ag->AN ρ):AN ρ :=
  æ ((ile 0 a.1)&&(Û (Int.toNat a.1))) (Ì (fun(f:fy) j=>nJ (Ö (List.replicate (Int.toNat a.1) (0:Int))) f.1 f.2 (fun l m=>j (l,m)) (fun c=>æ ((ile 0 b)&&(ilt b (Ġ c))) (Γ c (Int.toNat b) fun B=>æ ((ile 0 a.1)&&(Û (Int.toNat a.1))) (æ ((ile 0 a.1)&&(Û (Int.toNat a.1))) (Ì (fun(g:an) n=>sS a.2 (Ö a.2) g.1 g.2 (fun o p=>n (o,p)) (fun q=>Ì (fun(e:y9) r=>sR a.1 (List.set c (Int.toNat b) (0:Int)) e.1 e.2.1 e.2.2 (fun s t u=>r (s,t,u)) (fun h=>Ì (fun(d:Val aS) v=>sQ i q a.1 a.2 d.1 d.2.1 d.2.2.1 d.2.2.2 (fun w x y z=>v (w,x,y,z)) (fun A=>k A.2.1)) ((List.set c (Int.toNat b) (0:Int)),h.1,(List.replicate (Int.toNat a.1) (0:Int)),h.2))) ((0:Int),(List.replicate (Int.toNat a.1) false),[]))) ((0:Int),(0:Int))))))) ((0:Int),(List.replicate (Int.toNat a.1) (0:Int))))
def xA (a:ey) (b:io) (c:Int):AN (ag):=Er a b c some
def TS (a:ey) (b:Int) (c:Int) (k:an->AN ρ):AN ρ :=
  Ä (De a ([b,c])) fun d=>ifb (ine d 0) (k ((0:Int),d)) (Ä (xA a ([]) b) fun f=>ø f c fun e=>ifb (ieq e 1152921504606846976) (k ((0:Int),(5:Int))) (k (e,(0:Int))))
def mE (a:ey) (b:Int) (c:Int):AN an:=TS a b c some
def xc (c:Int) (a:Int) (b:ag) (d:Int->ag->AN ρ) (e:ag->AN ρ):AN ρ :=
  ifb (ilt a c) (æ ((ile 0 a)&&(ilt a (Ġ b))) (Γ b (Int.toNat a) fun g=>ck (a+(1:Int)) fun f=>d f (List.set b (Int.toNat a) (1152921504606846976:Int)))) (e b)
def P4 (c:Int) (a:Int) (b:ag) (d:Int->ag->AN ρ) (e:ag->AN ρ):AN ρ :=
  ifb (ilt a c) (æ ((ile 0 a)&&(ilt a (Ġ b))) (Γ b (Int.toNat a) fun g=>ck (a+(1:Int)) fun f=>d f (List.set b (Int.toNat a) (1152921504606846976:Int)))) (e b)
def Ck (d:ag) (f:fx) (g:Int) (c:Int) (b:ag) (e:Int->ag->AN ρ) (h:ag->AN ρ):AN ρ :=
  ifb (ilt c g) (ø f c fun a=>ø d a.2.1 fun i=>ifb (ine i 1152921504606846976) (æ ((ile 0 a.1)&&(ilt a.1 (Ġ b))) (Γ b (Int.toNat a.1) fun j=>ø d a.2.1 fun k=>ck (a.2.2+k) fun l=>æ ((ile 0 a.1)&&(ilt a.1 (Ġ b))) (Γ b (Int.toNat a.1) fun o=>ck (c+(1:Int)) fun m=>e m (List.set b (Int.toNat a.1) (Uk j l))))) (ck (c+(1:Int)) fun n=>e n b)) (h b)
def Hj (i:Int) (b:Int) (d:fx) (e:Int) (a:nn) (j:Int->nn->AN ρ) (k:nn->AN ρ):AN ρ :=
  ifb (ilt e i) (ck ((Ö a)-(1:Int)) fun c=>æ ((ile 0 c)&&(ilt c (Ġ a))) (Γ a (Int.toNat c) fun l=>æ ((ile 0 b)&&(Û (Int.toNat b))) (Ì (fun(f:fy) m=>P4 (Ö (List.replicate (Int.toNat b) (0:Int))) f.1 f.2 (fun n o=>m (n,o)) (fun p=>Ì (fun(g:fy) q=>Ck l d (Ö d) g.1 g.2 (fun r s=>q (r,s)) (fun h=>æ (Û ((List.length a)+(List.length ([h])))) (ck (e+(1:Int)) fun t=>j t (a++([h]))))) ((0:Int),p))) ((0:Int),(List.replicate (Int.toNat b) (0:Int)))))) (k a)
def TN (a:ey) (b:Int) (f:Int) (k:nn->AN ρ):AN ρ :=
  æ ((ile 0 a.1)&&(Û (Int.toNat a.1))) (Ì (fun(d:fy) g=>xc (Ö (List.replicate (Int.toNat a.1) (0:Int))) d.1 d.2 (fun h i=>g (h,i)) (fun c=>æ ((ile 0 b)&&(ilt b (Ġ c))) (Γ c (Int.toNat b) fun o=>Ì (fun(e:(Val (.pair tI au))) j=>Hj f a.1 a.2 e.1 e.2 (fun l m=>j (l,m)) (fun n=>k n)) ((0:Int),[(List.set c (Int.toNat b) (0:Int))])))) ((0:Int),(List.replicate (Int.toNat a.1) (0:Int))))
def wD (a:ey) (b:Int) (c:Int):AN (nn):=TN a b c some
def pP (b:nn) (c:Int) (d:Int) (e:Int) (a:Int) (f:Int->AN ρ) (g:Int->AN ρ) (h:Unit->AN ρ):AN ρ :=
  ifb (ilt a c) (ø b a fun i=>ø i d fun j=>ifb (ieq j e) (g a) (ck (a+(1:Int)) fun k=>f k)) (h ())
def FJ (g:Int) (h:nn) (j:fx) (k:Int) (l:Int) (e:Int) (b:Int) (a:Int) (c:ag) (f:Int->Int->Int->ag->AN ρ) (i:y7->AN ρ):AN ρ :=
  ifb (ilt a k) (ø j a fun d=>ifb (ieq d.1 e) (ck (g-(1:Int)) fun m=>ø h m fun n=>ø n d.2.1 fun o=>ifb (ine o 1152921504606846976) (ck (b+d.2.2) fun p=>ck (g-(1:Int)) fun q=>ø h q fun r=>ø r d.2.1 fun s=>ck (p+s) fun t=>ifb (ieq t l) (æ (Û ((List.length c)+(List.length ([a])))) (ck (b+d.2.2) fun u=>i (d.2.1,u,(c++([a]))))) (ck (a+(1:Int)) fun v=>f e b v c)) (ck (a+(1:Int)) fun w=>f e b w c)) (ck (a+(1:Int)) fun x=>f e b x c)) (i (e,b,c))
def pO (f:nn) (g:Int) (d:fx) (h:Int) (b:Int) (i:Int) (e:ag) (j:Int->Int->Int->ag->AN ρ) (k:ag->AN ρ):AN ρ :=
  ifb (igt b 0) (Ì (fun(a:Val aP) l=>FJ b f d (Ö d) g a.1 a.2.1 a.2.2.1 a.2.2.2 (fun m n o p=>l (m,n,o,p)) (fun c=>ck (b-(1:Int)) fun q=>j c.1 q c.2.1 c.2.2)) (h,i,(0:Int),e)) (k e)
def TR (a:ey) (c:Int) (g:Int) (k:Val ba->AN ρ):AN ρ :=
  Ä (mE a c g) fun b=>ifb (ine b.2 0) (k ([],b.2)) (Ä (wD a g a.1) fun d=>Ì (fun(h:Int) i=>pP d (Ö d) c b.1 h (fun j=>i j) (fun l=>Ì (fun(e:Val aP) m=>pO d b.1 a.2 e.1 e.2.1 e.2.2.1 e.2.2.2 (fun n o p q=>m (n,o,p,q)) (fun r=>k (r,(0:Int)))) (c,l,(0:Int),[])) (fun _=>Ì (fun(f:Val aP) s=>pO d b.1 a.2 f.1 f.2.1 f.2.2.1 f.2.2.2 (fun t u v w=>s (t,u,v,w)) (fun x=>k (x,(0:Int)))) (c,(-1:Int),(0:Int),[]))) (0:Int))
def wF (a:ey) (b:Int) (c:Int):AN ((Val ba)):=TR a b c some
def Cc (a:nR) (c:(Val (.ptr Â))) (d:(Val (.ptr .bool))) (k:(Val (.fsl tI))->AN ρ):AN ρ :=
  Ä (Ŝ a c) fun b=>ifb d (Ä (wF a.2 (0:Int) b) fun e=>k e.1) (Ä (wF a.2 b (0:Int)) fun f=>k f.1)
def kJ (a:nR) (b:(Val (.ptr Â))) (c:(Val (.ptr .bool))):AN ((Val (.fsl tI))):=Cc a b c some
def FN (b:(Val (.ptr zA))) (a:ag) (c:Int) (k:Int->AN ρ):AN ρ :=
  ifb (ieq (Ö a) 0) (k (0:Int)) (ø a (0:Int) fun d=>Ä (î b.2.1 (d,c)) fun e=>ck (e+(1:Int)) fun f=>k f)
def Ω (a:(Val (.ptr zA))) (b:ag) (c:Int):AN (Int):=FN a b c some
def ut (b:qs) (a:ag) (k:an->AN ρ):AN ρ :=
  ifb (ieq (Ö a) 0) (k ((0:Int),(1:Int))) (ø a (0:Int) fun c=>Re (k:=tI) (v:=È) c b (fun d=>k d.2.2.2.2.1) (k ((0:Int),(0:Int))))
def ic (a:qs) (b:ag):AN an:=ut a b some
def pQ (b:a7) (c:Int) (a:Int) (d:Int->AN ρ) (e:Int->AN ρ) (f:Unit->AN ρ):AN ρ :=
  ifb (ilt a c) (ø b a fun g=>Ä (rV g) fun h=>ifb (!h) (e (1:Int)) (ck (a+(1:Int)) fun i=>d i)) (f ())
def TT (a:a7) (k:Int->AN ρ):AN ρ :=
  Ì (fun(b:Int) c=>pQ a (Ö a) b (fun d=>c d) (fun e=>k e) (fun _=>k (0:Int))) (0:Int)
def jx (a:a7):AN (Int):=TT a some
def JQ (d:Int) (e:Int) (k:f4->AN ρ):AN ρ :=
  Ä (qd d) fun b=>Ä (qd e) fun c=>Ä (KJ b c) fun a=>ifb (ig a 0) (none) (ifb (ig a 0) (none) (ifb (igt (IntKind.wrap .u64 (Int.tdiv b a)) 2147483647) (k (((0:Int),(0:Int)),(3:Int))) (ifb (igt (IntKind.wrap .u64 (Int.tdiv c a)) 2147483647) (k (((0:Int),(0:Int)),(3:Int))) (ifb (!((ilt d 0)==(ilt e 0))) (ck (0-(IntKind.wrap .i64 (IntKind.wrap .u64 (Int.tdiv b a)))) fun f=>k ((f,(IntKind.wrap .i64 (IntKind.wrap .u64 (Int.tdiv c a)))),(0:Int))) (k (((IntKind.wrap .i64 (IntKind.wrap .u64 (Int.tdiv b a))),(IntKind.wrap .i64 (IntKind.wrap .u64 (Int.tdiv c a)))),(0:Int)))))))
def oW (a:Int) (b:Int):AN f4:=JQ a b some
def acX (a:an) (b:an) (k:f4->AN ρ):AN ρ :=
  Ä (jx ([a,b])) fun c=>ifb (ine c 0) (k (((0:Int),(0:Int)),c)) (ck (a.1*b.2) fun e=>ck (b.1*a.2) fun f=>ck (e-f) fun g=>ck (a.2*b.2) fun h=>Ä (oW g h) fun d=>k (d.1,d.2))
def Qz (a:an) (b:an):AN f4:=acX a b some
def Cp (a:an) (b:an) (k:an->AN ρ):AN ρ :=
  Ä (Qz a b) fun c=>k c.1
def tN (a:an) (b:an):AN an:=Cp a b some
variable [LC]
def acV (a:an) (b:an) (k:Int->AN ρ):AN ρ :=
  ck (a.1*b.2) fun c=>ck (b.1*a.2) fun d=>ifb ((ig a.1 b.1)&&((ig a.2 b.2)&&true)) (k (0:Int)) (ifb (ilt c d) (k (-1:Int)) (ifb (igt c d) (k (1:Int)) (k (0:Int))))
def KK (a:an) (b:an):AN (Int):=acV a b some
def zf (a:ly) (k:Bool->AN ρ):AN ρ :=
  Ä (jx ([a.1,a.2])) fun b=>ifb (ieq b 0) (Ä (KK a.1 a.2) fun c=>k (ile c 0)) (k false)
def qz (a:ly):AN (Bool):=zf a some
def acZ (a:an) (b:an) (k:f4->AN ρ):AN ρ :=
  Ä (jx ([a,b])) fun c=>ifb (ine c 0) (k (((0:Int),(0:Int)),c)) (ck (a.1*b.1) fun e=>ck (a.2*b.2) fun f=>Ä (oW e f) fun d=>k (d.1,d.2))
def KM (a:an) (b:an):AN f4:=acZ a b some
def JR (c:ly) (d:an) (k:Val AG->AN ρ):AN ρ :=
  Ä (qz c) fun e=>ifb (!e) (k ((((0:Int),(0:Int)),(0:Int),(0:Int)),(1:Int))) (Ä (rV d) fun f=>ifb (!f) (k ((((0:Int),(0:Int)),(0:Int),(0:Int)),(1:Int))) (Ä (KM d c.1) fun a=>ifb (ine a.2 0) (k ((((0:Int),(0:Int)),(0:Int),(0:Int)),a.2)) (Ä (KM d c.2) fun b=>ifb (ine b.2 0) (k ((((0:Int),(0:Int)),(0:Int),(0:Int)),b.2)) (Ä (KK a.1 b.1) fun g=>ifb (igt g 0) (k ((b.1,a.1),(0:Int))) (k ((a.1,b.1),(0:Int)))))))
def KL (a:ly) (b:an):AN (Val AG):=JR a b some
def Co (b:an) (a:an) (k:ly->AN ρ):AN ρ :=
  Ä (KL ((a.1,(1:Int)),a.2,(1:Int)) b) fun c=>k c.1
def nS (a:an) (b:an):AN ly:=Co a b some
def Ob (c:a8) (a:ew) (k:ly->AN ρ):AN ρ :=
  Ä (Ÿ c) fun b=>Ä (ŏ a.2.2.1 a.2.2.2.1) fun d=>Ä (ic b d) fun e=>Ä (ŏ a.2.2.2.1 a.2.2.1) fun f=>Ä (ic b f) fun g=>Ä (tN e g) fun h=>Ä (nS h a.2.2.2.2.2.2) fun i=>k i
def ol (a:a8) (b:ew):AN ly:=Ob a b some
def T4 (a:a8) (b:ew) (k:an->AN ρ):AN ρ :=
  ck ((Ö b.2.2.1)-(1:Int)) fun c=>ck ((Ö b.2.2.2.1)-(1:Int)) fun d=>ck ((Lu (0:Int) c)*a.1.1) fun e=>ck ((Lu (0:Int) d)*a.1.2) fun f=>ck (e-f) fun g=>ck ((Lu (0:Int) c)*a.1.2) fun h=>ck ((Lu (0:Int) d)*a.1.1) fun i=>ck (h-i) fun j=>k (g,j)
def rW (a:a8) (b:ew):AN an:=T4 a b some
def acT (b:Int) (a:Int) (k:Int->AN ρ):AN ρ :=
  ifb (ig a 0) (none) (ck (Int.tdiv b a) fun c=>ifb (ig a 0) (none) (ifb (ilt (Int.tmod b a) 0) (ck (c-1) fun d=>k d) (k c)))
def Df (a:Int) (b:Int):AN (Int):=acT a b some
def Yx (a:an) (k:an->AN ρ):AN ρ :=
  Ä (jx ([a])) fun b=>ifb (ine b 0) (k ((0:Int),b)) (ck (0-a.1) fun c=>Ä (Df c a.2) fun d=>ck (0-d) fun e=>k (e,(0:Int)))
def Dg (a:an):AN an:=Yx a some
def TY (a:an) (k:an->AN ρ):AN ρ :=
  Ä (jx ([a])) fun b=>ifb (ine b 0) (k ((0:Int),b)) (Ä (Df a.1 a.2) fun c=>k (c,(0:Int)))
def wG (a:an):AN an:=TY a some
def Yy (b:a8) (a:ew) (k:an->AN ρ):AN ρ :=
  Ä (ol b a) fun c=>Ä (rW b a) fun d=>Ä (wG c.2) fun e=>Ä (Dg c.1) fun f=>ck (a.2.2.2.2.1-a.2.2.2.2.2.1) fun g=>ck (g-d.2) fun h=>ck (h-e.1) fun i=>ck (a.2.2.2.2.1+a.2.2.2.2.2.1) fun j=>ck (j-d.1) fun l=>ck (l-f.1) fun m=>k (i,m)
def tM (a:a8) (b:ew):AN an:=Yy a b some
def sZ (f:Int) (g:Int) (h:cT) (i:Int) (j:Int) (b:Int) (a:Int) (d:Int->Int->AN ρ) (k:Int->AN ρ):AN ρ :=
  ifb (ilt a i) (ø h a fun c=>ck (g-(1:Int)) fun l=>ck ((Uk c.2.1.2 l)-(Lu c.2.1.1 f)) fun m=>ck (m+1) fun e=>ifb (ieq c.1 j) (ifb (igt e 0) (ck (e*c.2.2) fun n=>ck (b+n) fun o=>ck (a+(1:Int)) fun p=>d o p) (ck (a+(1:Int)) fun q=>d b q)) (ck (a+(1:Int)) fun r=>d b r)) (k b)
def sY (e:Int) (f:Int) (g:a7) (h:Int) (i:Int) (a:Int) (b:ag) (d:Int->ag->AN ρ) (j:ag->AN ρ):AN ρ :=
  ifb (ilt a h) (ø g a fun c=>ifb (ieq c.1 i) (ck (f-(1:Int)) fun k=>Ä (Ĉ c.2 e k) fun l=>ifb l (æ (Û ((List.length b)+(List.length ([c.2])))) (ck (a+(1:Int)) fun m=>d m (b++([c.2])))) (ck (a+(1:Int)) fun n=>d n b)) (ck (a+(1:Int)) fun o=>d o b)) (j b)
def YA (a:a8) (b:c9) (d:Int) (e:Int) (k:Int->AN ρ):AN ρ :=
  Ì (fun(f:an) h=>sZ d e a.2.2.2.1 (Ö a.2.2.2.1) b.1 f.1 f.2 (fun i j=>h (i,j)) (fun l=>Ì (fun(g:fy) m=>sY d e a.2.2.1 (Ö a.2.2.1) b.1 g.1 g.2 (fun n o=>m (n,o)) (fun c=>æ (Û (List.length c)) (æ (Û (List.length (Lx c))) (ck ((Ö (xG (Lx c)))*b.2.2.2.2.2) fun p=>ck (l+p) fun q=>k q)))) ((0:Int),[]))) ((0:Int),(0:Int))
def xB (a:a8) (b:c9) (c:Int) (d:Int):AN (Int):=YA a b c d some
def sW (b:Int) (e:ag) (h:Int) (j:Int) (k:Int) (l:c8) (m:a7) (n:cT) (o:bx) (p:a7) (q:Int) (r:Int) (s:Int) (t:Int) (u:Int) (v:Int) (w:Int) (x:Int) (a:Int) (f:fx) (g:a7) (y:Int->fx->a7->AN ρ) (z:Val ye->AN ρ):AN ρ :=
  ifb (ilt a (Ö e)) (ck (h+a) fun A=>ck (A-1) fun c=>ck (h+a) fun d=>ck (a-(1:Int)) fun B=>ø e B fun C=>ø e a fun D=>Ä (xB ((j,k),l,m,n,o,p) (q,r,s,(t,u),(v,w),x) C D) fun E=>ck (0-E) fun F=>ck (0-F) fun i=>æ (Û ((List.length f)+(List.length ([(c,d,(0:Int)),(d,c,i)])))) (æ (Û ((List.length g)+(List.length ([((2:Int),b),((2:Int),b)])))) (ck (a+(1:Int)) fun G=>y G (f++([(c,d,(0:Int)),(d,c,i)])) (g++([((2:Int),b),((2:Int),b)]))))) (z (f,g))
def sX (q:c8) (r:Int) (f:Int) (g:Int) (h:c8) (i:a7) (j:cT) (k:bx) (l:a7) (s:a7) (t:Int) (b:Int) (d:fx) (e:a7) (u:Int->fx->a7->AN ρ) (v:Val ye->AN ρ):AN ρ :=
  ifb (ilt b r) (ø q b fun a=>Ä (nT ((f,g),h,i,j,k,l) a) fun w=>Ä (Ω (((f,g),h,i,j,k,l),s,(t,d),e) ([a.1]) a.2.1) fun c=>ck (a.2.2.1+a.2.2.2.1.1) fun x=>ck (a.2.2.1+a.2.2.2.1.2) fun n=>ck (0-x) fun o=>æ (Û ((List.length d)+(List.length ([((0:Int),c,n),(c,(0:Int),o)])))) (æ (Û ((List.length e)+(List.length ([((1:Int),b),((1:Int),b)])))) (Ì (fun(m:v8) y=>sW b w c f g h i j k l a.1 a.2.1 a.2.2.1 a.2.2.2.1.1 a.2.2.2.1.2 a.2.2.2.2.1.1 a.2.2.2.2.1.2 a.2.2.2.2.2 m.1 m.2.1 m.2.2 (fun z A B=>y (z,A,B)) (fun p=>ck (b+(1:Int)) fun C=>u C p.1 p.2)) ((1:Int),(d++([((0:Int),c,n),(c,(0:Int),o)])),(e++([((1:Int),b),((1:Int),b)])))))) (v (d,e))
def sV (r:bx) (s:Int) (g:Int) (h:Int) (i:c8) (j:a7) (k:cT) (l:bx) (m:a7) (o:a7) (p:Int) (a:Int) (c:fx) (d:a7) (t:Int->fx->a7->AN ρ) (u:Val ye->AN ρ):AN ρ :=
  ifb (ilt a s) (ø r a fun b=>Ä (ŏ b.2.2.2.1 b.2.2.1) fun v=>Ä (Ω (((g,h),i,j,k,l,m),o,(p,c),d) v b.2.1) fun e=>Ä (ŏ b.2.2.1 b.2.2.2.1) fun w=>Ä (Ω (((g,h),i,j,k,l,m),o,(p,c),d) w b.2.1) fun f=>Ä (tM ((g,h),i,j,k,l,m) b) fun n=>ck (0-n.1) fun q=>æ (Û ((List.length c)+(List.length ([(e,f,n.2),(f,e,q)])))) (æ (Û ((List.length d)+(List.length ([((3:Int),a),((3:Int),a)])))) (ck (a+(1:Int)) fun x=>t x (c++([(e,f,n.2),(f,e,q)])) (d++([((3:Int),a),((3:Int),a)]))))) (u (c,d))
def Yz (a:a8) (k:(Val (.ptr zA))->AN ρ):AN ρ :=
  Ä (oX a) fun b=>ck ((Ö b)+(1:Int)) fun c=>Ì (fun(d:v8) h=>sX a.2.1 (Ö a.2.1) a.1.1 a.1.2 a.2.1 a.2.2.1 a.2.2.2.1 a.2.2.2.2.1 a.2.2.2.2.2 b c d.1 d.2.1 d.2.2 (fun i j l=>h (i,j,l)) (fun f=>Ì (fun(e:v8) m=>sV a.2.2.2.2.1 (Ö a.2.2.2.2.1) a.1.1 a.1.2 a.2.1 a.2.2.1 a.2.2.2.1 a.2.2.2.2.1 a.2.2.2.2.2 b c e.1 e.2.1 e.2.2 (fun n o p=>m (n,o,p)) (fun g=>k (a,b,(c,g.1),g.2))) ((0:Int),f.1,f.2))) ((0:Int),[],[])
def Dh (a:a8):AN ((Val (.ptr zA))):=Yz a some
def Oe (a:a8) (k:(Val (.pair Î (.pair aa tI)))->AN ρ):AN ρ :=
  Ä (ô a) fun b=>ifb (ine b 0) (k (((0:Int),[]),[],b)) (Ä (Dh a) fun c=>k (c.2.2.1,c.2.2.2,(0:Int)))
def Č (a:a8):AN ((Val (.pair Î (.pair aa tI)))):=Oe a some
def lU (d:a7) (e:ag) (f:Int) (a:Int) (b:a7) (g:Int->a7->AN ρ) (h:a7->AN ρ):AN ρ :=
  ifb (ilt a f) (ø e a fun i=>ø d i fun c=>æ (Û ((List.length b)+(List.length ([c])))) (ck (a+(1:Int)) fun j=>g j (b++([c])))) (h b)
def I9 (c:a8) (a:ag) (k:a7->AN ρ):AN ρ :=
  Ä (Č c) fun d=>Ì (fun(b:rn) e=>lU d.2.1 a (Ö a) b.1 b.2 (fun f g=>e (f,g)) (fun h=>k h)) ((0:Int),[])
def oV (a:a8) (b:ag):AN (a7):=I9 a b some
def yB (a:nR) (b:Int) (c:Int) (k:Int->AN ρ):AN ρ :=
  Ä (mE a.2 c b) fun d=>k d.1
def ÿ (a:nR) (b:Int) (c:Int):AN (Int):=yB a b c some
def yA (a:nR) (b:an) (k:Int->AN ρ):AN ρ :=
  Ä (Ŝ a b) fun c=>Ä (ÿ a (0:Int) c) fun d=>ck (0-d) fun e=>k e
def ŷ (a:nR) (b:an):AN (Int):=yA a b some
def ri (a:nR) (b:an) (k:Int->AN ρ):AN ρ :=
  Ä (Ŝ a b) fun c=>Ä (ÿ a c (0:Int)) fun d=>k d
def Ν (a:nR) (b:an):AN (Int):=ri a b some
def td (f:Int) (a:Int) (c:bx) (g:Int->bx->AN ρ) (h:bx->AN ρ):AN ρ :=
  ifb (ilt a f) (æ ((ile 0 a)&&(ilt a (Ġ c))) (Γ c (Int.toNat a) fun d=>æ (Û (List.length d.2.2.1)) (æ (Û (List.length d.2.2.2.1)) (æ ((ile 0 a)&&(ilt a (Ġ c))) (Γ c (Int.toNat a) fun b=>æ ((ile 0 a)&&(ilt a (Ġ (List.set c (Int.toNat a) (b.1,b.2.1,d.2.2.1,b.2.2.2))))) (Γ (List.set c (Int.toNat a) (b.1,b.2.1,d.2.2.1,b.2.2.2)) (Int.toNat a) fun e=>ck (a+(1:Int)) fun i=>g i (List.set (List.set c (Int.toNat a) (b.1,b.2.1,d.2.2.1,b.2.2.2)) (Int.toNat a) (e.1,e.2.1,e.2.2.1,d.2.2.2.1,e.2.2.2.2)))))))) (h c)
def YE (a:a8) (b:an) (k:Val bc->AN ρ):AN ρ :=
  Ä (ô a) fun c=>ifb (ine c 0) (k ((((0:Int),(0:Int)),[],[],[],[],[]),c)) (æ (Û (List.length a.2.1)) (æ (Û (List.length a.2.2.1)) (æ (Û (List.length a.2.2.2.1)) (æ (Û (List.length a.2.2.2.2.2)) (æ (Û (List.length a.2.2.2.2.1)) (Ì (fun(d:An) g=>td (Ö a.2.2.2.2.1) d.1 d.2 (fun h i=>g (h,i)) (fun e=>æ (Û ((List.length a.2.2.2.2.2)+(List.length ([b])))) (Ä (ô (a.1,a.2.1,a.2.2.1,a.2.2.2.1,e,(a.2.2.2.2.2++([b])))) fun f=>ifb (ine f 0) (k ((((0:Int),(0:Int)),[],[],[],[],[]),f)) (k ((a.1,a.2.1,a.2.2.1,a.2.2.2.1,e,(a.2.2.2.2.2++([b]))),(0:Int)))))) ((0:Int),a.2.2.2.2.1)))))))
def jf (a:a8) (b:an):AN ((Val bc)):=YE a b some
def yO (a:ey) (k:Val bh->AN ρ):AN ρ :=
  Ä (mD a) fun b=>ifb (ine b.1 0) (k (false,b.1)) (Ä (iT a ([])) fun c=>k (c.2,(0:Int)))
def Ā (a:ey):AN ((Val bh)):=yO a some
def qr (m:Int) (j:a7) (b:Int) (c:Int) (d:Int) (e:c8) (f:a7) (g:cT) (h:bx) (i:a7) (k:Int->Int->Int->c8->a7->cT->bx->a7->AN ρ) (n:ge->AN ρ) (o:nm->AN ρ):AN ρ :=
  ifb (ilt b m) (æ ((ile 0 b)&&(ilt b (Ġ j))) (Γ j (Int.toNat b) fun l=>Ä (ļ ((c,d),e,f,g,h,i) l) fun p=>ifb (ieq p.2 0) (ck (b+(1:Int)) fun q=>k q c d e f g h i) (Ä (jf ((c,d),e,f,g,h,i) l) fun a=>ifb (ine a.2 0) (n (a.2,c,d,e,f,g,h,i)) (ck (b+(1:Int)) fun r=>k r a.1.1.1 a.1.1.2 a.1.2.1 a.1.2.2.1 a.1.2.2.2.1 a.1.2.2.2.2.1 a.1.2.2.2.2.2)))) (o (c,d,e,f,g,h,i))
def qq (a:Int) (b:Int) (d:Int->AN ρ) (c:Unit->AN ρ):AN ρ :=
  ifb (ilt b a) (none) (c ())
def Ah (d:a8) (b:an) (f:Bool) (k:(Val (.pair aK tI))->AN ρ):AN ρ :=
  Ä (ô d) fun i=>ifb (ine i 0) (æ (ine i 0) (k (((((0:Int),(0:Int)),[],[],[],[],[]),((0:Int),(0:Int)),false,(0:Int),[]),i))) (Ì (fun(e:ge) n=>qr (Ö ([b])) ([b]) e.1 e.2.1 e.2.2.1 e.2.2.2.1 e.2.2.2.2.1 e.2.2.2.2.2.1 e.2.2.2.2.2.2.1 e.2.2.2.2.2.2.2 (fun o p q r s t u v=>n (o,p,q,r,s,t,u,v)) (fun l=>æ (ine l.1 0) (k (((((0:Int),(0:Int)),[],[],[],[],[]),((0:Int),(0:Int)),false,(0:Int),[]),l.1))) (fun a=>Ä (Č ((a.1,a.2.1),a.2.2)) fun c=>ifb (ine c.2.2 0) (æ (ine c.2.2 0) (k (((((0:Int),(0:Int)),[],[],[],[],[]),((0:Int),(0:Int)),false,(0:Int),[]),c.2.2))) (Ä (Ā c.1) fun w=>ifb (!w.1) (k (((((0:Int),(0:Int)),[],[],[],[],[]),((0:Int),(0:Int)),false,(0:Int),[]),(9:Int))) (Ä (kJ (((a.1,a.2.1),a.2.2),c.1) b f) fun x=>Ä (oV ((a.1,a.2.1),a.2.2) x) fun y=>Ä (KD ((a.1,a.2.1),a.2.2) y ([b])) fun g=>Ä (ô g) fun j=>ifb (ine j 0) (ifb (ine j 0) (k (((((0:Int),(0:Int)),[],[],[],[],[]),((0:Int),(0:Int)),false,(0:Int),[]),j)) (Ä (ŷ (((a.1,a.2.1),a.2.2),c.1) b) fun F=>none)) (Ì (fun(z:Int) A=>qq (0:Int) z (fun B=>A B) (fun _=>Ä (Č g) fun h=>ifb (ine h.2.2 0) (ifb (ine h.2.2 0) (k (((((0:Int),(0:Int)),[],[],[],[],[]),((0:Int),(0:Int)),false,(0:Int),[]),h.2.2)) (Ä (ŷ (((a.1,a.2.1),a.2.2),c.1) b) fun G=>none)) (Ä (Ā h.1) fun C=>ifb (!C.1) (k (((((0:Int),(0:Int)),[],[],[],[],[]),((0:Int),(0:Int)),false,(0:Int),[]),(9:Int))) (Ä (ŷ (((a.1,a.2.1),a.2.2),c.1) b) fun D=>Ä (kJ (g,h.1) b f) fun m=>ifb f (Ä (Ν (((a.1,a.2.1),a.2.2),c.1) b) fun E=>k ((g,b,f,E,m),(0:Int))) (k ((g,b,f,D,m),(0:Int))))))) (0:Int)))))) ((0:Int),d.1.1,d.1.2,d.2.1,d.2.2.1,d.2.2.2.1,d.2.2.2.2.1,d.2.2.2.2.2))
def jO (a:a8) (b:an) (c:Bool):AN ((Val (.pair aK tI))):=Ah a b c some
def S7 (k:a8->AN ρ):AN ρ :=
  k (((0:Int),(2:Int)),[((1:Int),(0:Int),(1000:Int),((-5:Int),(5:Int)),((1:Int),(10:Int)),(1:Int)),((2:Int),(0:Int),(1000:Int),((-50:Int),(50:Int)),((1:Int),(4:Int)),(0:Int))],[((1:Int),(10:Int))],[((1:Int),((20:Int),(29:Int)),(3:Int))],[((7:Int),(10:Int),[(1:Int)],[(2:Int)],(-20:Int),(1:Int),(100:Int),(200:Int))],[])
def FT:AN a8:=S7 some
def rh (a:nR) (b:an) (k:an->AN ρ):AN ρ :=
  Ä (ŷ a b) fun c=>Ä (Ν a b) fun d=>k (c,d)
def je (a:nR) (b:an):AN an:=rh a b some
def ř (m:Int) (j:a7) (b:Int) (c:Int) (d:Int) (e:c8) (f:a7) (g:cT) (h:bx) (i:a7) (k:Int->Int->Int->c8->a7->cT->bx->a7->AN ρ) (n:ge->AN ρ) (o:nm->AN ρ):AN ρ :=
  ifb (ilt b m) (æ ((ile 0 b)&&(ilt b (Ġ j))) (Γ j (Int.toNat b) fun l=>Ä (ļ ((c,d),e,f,g,h,i) l) fun p=>ifb (ieq p.2 0) (ck (b+(1:Int)) fun q=>k q c d e f g h i) (Ä (jf ((c,d),e,f,g,h,i) l) fun a=>ifb (ine a.2 0) (n (a.2,c,d,e,f,g,h,i)) (ck (b+(1:Int)) fun r=>k r a.1.1.1 a.1.1.2 a.1.2.1 a.1.2.2.1 a.1.2.2.2.1 a.1.2.2.2.2.1 a.1.2.2.2.2.2)))) (o (c,d,e,f,g,h,i))
def TM (a:a8) (e:an) (k:f4->AN ρ):AN ρ :=
  Ä (ô a) fun f=>ifb (ine f 0) (æ (ine f 0) (k (((0:Int),(0:Int)),f))) (Ì (fun(b:ge) h=>ř (Ö ([e])) ([e]) b.1 b.2.1 b.2.2.1 b.2.2.2.1 b.2.2.2.2.1 b.2.2.2.2.2.1 b.2.2.2.2.2.2.1 b.2.2.2.2.2.2.2 (fun i j l m n o p q=>h (i,j,l,m,n,o,p,q)) (fun g=>æ (ine g.1 0) (k (((0:Int),(0:Int)),g.1))) (fun c=>Ä (Č ((c.1,c.2.1),c.2.2)) fun d=>ifb (ine d.2.2 0) (æ (ine d.2.2 0) (k (((0:Int),(0:Int)),d.2.2))) (Ä (Ā d.1) fun r=>ifb (!r.1) (k (((0:Int),(0:Int)),(9:Int))) (Ä (je (((c.1,c.2.1),c.2.2),d.1) e) fun s=>k (s,(0:Int)))))) ((0:Int),a.1.1,a.1.2,a.2.1,a.2.2.1,a.2.2.2.1,a.2.2.2.2.1,a.2.2.2.2.2))
def wC (a:a8) (b:an):AN f4:=TM a b some
def yL (m:Int) (j:a7) (b:Int) (c:Int) (d:Int) (e:c8) (f:a7) (g:cT) (h:bx) (i:a7) (k:Int->Int->Int->c8->a7->cT->bx->a7->AN ρ) (n:ge->AN ρ) (o:nm->AN ρ):AN ρ :=
  ifb (ilt b m) (æ ((ile 0 b)&&(ilt b (Ġ j))) (Γ j (Int.toNat b) fun l=>Ä (ļ ((c,d),e,f,g,h,i) l) fun p=>ifb (ieq p.2 0) (ck (b+(1:Int)) fun q=>k q c d e f g h i) (Ä (jf ((c,d),e,f,g,h,i) l) fun a=>ifb (ine a.2 0) (n (a.2,c,d,e,f,g,h,i)) (ck (b+(1:Int)) fun r=>k r a.1.1.1 a.1.1.2 a.1.2.1 a.1.2.2.1 a.1.2.2.2.1 a.1.2.2.2.2.1 a.1.2.2.2.2.2)))) (o (c,d,e,f,g,h,i))
def Jz (b:a8) (e:an) (f:an) (k:f4->AN ρ):AN ρ :=
  Ä (ô b) fun g=>ifb (ine g 0) (æ (ine g 0) (k (((0:Int),(0:Int)),g))) (Ì (fun(c:ge) l=>yL (Ö ([e,f])) ([e,f]) c.1 c.2.1 c.2.2.1 c.2.2.2.1 c.2.2.2.2.1 c.2.2.2.2.2.1 c.2.2.2.2.2.2.1 c.2.2.2.2.2.2.2 (fun m n o p q r s t=>l (m,n,o,p,q,r,s,t)) (fun h=>æ (ine h.1 0) (k (((0:Int),(0:Int)),h.1))) (fun a=>Ä (Č ((a.1,a.2.1),a.2.2)) fun d=>ifb (ine d.2.2 0) (æ (ine d.2.2 0) (k (((0:Int),(0:Int)),d.2.2))) (Ä (Ā d.1) fun u=>ifb (!u.1) (k (((0:Int),(0:Int)),(9:Int))) (Ä (Ŝ (((a.1,a.2.1),a.2.2),d.1) e) fun i=>Ä (Ŝ (((a.1,a.2.1),a.2.2),d.1) f) fun j=>Ä (ÿ (((a.1,a.2.1),a.2.2),d.1) j i) fun v=>ck (0-v) fun w=>Ä (ÿ (((a.1,a.2.1),a.2.2),d.1) i j) fun x=>k ((w,x),(0:Int)))))) ((0:Int),b.1.1,b.1.2,b.2.1,b.2.2.1,b.2.2.2.1,b.2.2.2.2.1,b.2.2.2.2.2))
def KH (a:a8) (b:an) (c:an):AN f4:=Jz a b c some
def aav (a:ag) (b:ag) (k:(Val (.pair ai aX))->AN ρ):AN ρ :=
  Ä (lN a) fun c=>ifb (!c) (k ([],[],(1:Int))) (Ä (lN b) fun d=>ifb (!d) (k ([],[],(1:Int))) (Ä (ŏ a b) fun e=>Ä (ŏ b a) fun f=>k (e,f,(0:Int))))
def EM (a:ag) (b:ag):AN ((Val (.pair ai aX))):=aav a b some
def af4 (a:ag) (b:Int) (k:Bool->AN ρ):AN ρ :=
  Ä (EM a ([])) fun c=>ifb (ieq c.2.2 0) (k (ile (Ö a) b)) (k false)
def Y0 (a:ag) (b:Int):AN (Bool):=af4 a b some
def acO (a:Int) (k:Bool->AN ρ):AN ρ :=
  ifb (ige a 0) (k (ile a 20000)) (k false)
def UD (a:Int):AN (Bool):=acO a some
def Fx (c:Int) (e:ag) (f:Int) (a:Int) (b:a7) (g:Int->a7->AN ρ) (h:a7->AN ρ):AN ρ :=
  ifb (ilt a f) (ø e a fun d=>æ (Û ((List.length b)+(List.length ([(d,c)])))) (ck (a+(1:Int)) fun i=>g i (b++([(d,c)])))) (h b)
def acN (c:Int) (d:nn) (k:a7->AN ρ):AN ρ :=
  Ä (ç d) fun a=>Ì (fun(b:rn) e=>Fx c a (Ö a) b.1 b.2 (fun f g=>e (f,g)) (fun h=>k h)) ((0:Int),[])
def UC (a:Int) (b:nn):AN (a7):=acN a b some
def Jr (l:a7) (m:Int) (i:Int) (b:Int) (c:Int) (d:c8) (e:a7) (f:cT) (g:bx) (h:a7) (j:Int->Int->Int->c8->a7->cT->bx->a7->AN ρ) (n:ge->AN ρ) (o:nm->AN ρ):AN ρ :=
  ifb (ilt i m) (ø l i fun k=>Ä (ļ ((b,c),d,e,f,g,h) k) fun p=>ifb (ieq p.2 0) (ck (i+(1:Int)) fun q=>j q b c d e f g h) (Ä (jf ((b,c),d,e,f,g,h) k) fun a=>ifb (ine a.2 0) (n (a.2,b,c,d,e,f,g,h)) (ck (i+(1:Int)) fun r=>j r a.1.1.1 a.1.1.2 a.1.2.1 a.1.2.2.1 a.1.2.2.2.1 a.1.2.2.2.2.1 a.1.2.2.2.2.2))) (o (b,c,d,e,f,g,h))
def Jq (e:nR) (f:a7) (g:Int) (a:Int) (b:Int) (c:Int) (h:Int->Int->Int->AN ρ) (i:an->AN ρ):AN ρ :=
  ifb (ilt a g) (ø f a fun j=>Ä (je e j) fun d=>ck (b+d.1) fun k=>ck (c+d.2) fun l=>ck (a+(1:Int)) fun m=>h m k l) (i (b,c))
def Yu (a:a8) (i:Int) (c:ag) (k:f4->AN ρ):AN ρ :=
  Ä (ô a) fun j=>ifb (ine j 0) (k (((0:Int),(0:Int)),j)) (ifb (ieq (Ö c) 0) (k (((0:Int),(0:Int)),(1:Int))) (Ä (Y0 c (6:Int)) fun q=>ifb (!q) (k (((0:Int),(0:Int)),(1:Int))) (Ä (UD i) fun r=>ifb (!r) (k (((0:Int),(0:Int)),(1:Int))) (Ä (UC i ([c])) fun f=>Ä (ô a) fun g=>ifb (ine g 0) (ifb (ine g 0) (k (((0:Int),(0:Int)),g)) (ck ((Ö c)-(1:Int)) fun l=>ck (l*a.1.1) fun J=>ck (l*a.1.2) fun K=>none)) (Ì (fun(b:ge) s=>Jr f (Ö f) b.1 b.2.1 b.2.2.1 b.2.2.2.1 b.2.2.2.2.1 b.2.2.2.2.2.1 b.2.2.2.2.2.2.1 b.2.2.2.2.2.2.2 (fun t u v w x y z A=>s (t,u,v,w,x,y,z,A)) (fun m=>ifb (ine m.1 0) (k (((0:Int),(0:Int)),m.1)) (ck ((Ö c)-(1:Int)) fun n=>ck (n*a.1.1) fun L=>ck (n*a.1.2) fun M=>none)) (fun d=>Ä (Č ((d.1,d.2.1),d.2.2)) fun e=>ifb (ine e.2.2 0) (ifb (ine e.2.2 0) (k (((0:Int),(0:Int)),e.2.2)) (ck ((Ö c)-(1:Int)) fun o=>ck (o*a.1.1) fun N=>ck (o*a.1.2) fun O=>none)) (Ä (Ā e.1) fun B=>ifb (!B.1) (k (((0:Int),(0:Int)),(9:Int))) (ck ((Ö c)-(1:Int)) fun p=>ck (p*a.1.1) fun C=>ck (p*a.1.2) fun D=>Ì (fun(h:py) E=>Jq (((d.1,d.2.1),d.2.2),e.1) f (Ö f) h.1 h.2.1 h.2.2 (fun F G H=>E (F,G,H)) (fun I=>k (I,(0:Int)))) ((0:Int),C,D))))) ((0:Int),a.1.1,a.1.2,a.2.1,a.2.2.1,a.2.2.2.1,a.2.2.2.2.1,a.2.2.2.2.2))))))
def Y1 (a:a8) (b:Int) (c:ag):AN f4:=Yu a b c some
def Wd (a:an) (b:an) (k:Int->AN ρ):AN ρ :=
  ifb (ile b.1 a.1) (ifb (ile a.2 b.2) (k (1:Int)) (ifb (ilt a.2 b.1) (k (2:Int)) (ifb (ilt b.2 a.1) (k (2:Int)) (k (3:Int))))) (ifb (ilt a.2 b.1) (k (2:Int)) (ifb (ilt b.2 a.1) (k (2:Int)) (k (3:Int))))
def Aw (a:an) (b:an):AN (Int):=Wd a b some
def FD (m:Int) (j:a7) (b:Int) (c:Int) (d:Int) (e:c8) (f:a7) (g:cT) (h:bx) (i:a7) (k:Int->Int->Int->c8->a7->cT->bx->a7->AN ρ) (n:ge->AN ρ) (o:nm->AN ρ):AN ρ :=
  ifb (ilt b m) (æ ((ile 0 b)&&(ilt b (Ġ j))) (Γ j (Int.toNat b) fun l=>Ä (ļ ((c,d),e,f,g,h,i) l) fun p=>ifb (ieq p.2 0) (ck (b+(1:Int)) fun q=>k q c d e f g h i) (Ä (jf ((c,d),e,f,g,h,i) l) fun a=>ifb (ine a.2 0) (n (a.2,c,d,e,f,g,h,i)) (ck (b+(1:Int)) fun r=>k r a.1.1.1 a.1.1.2 a.1.2.1 a.1.2.2.1 a.1.2.2.2.1 a.1.2.2.2.2.1 a.1.2.2.2.2.2)))) (o (c,d,e,f,g,h,i))
def TL (b:a8) (f:an) (a:an) (k:an->AN ρ):AN ρ :=
  Ä (ô b) fun g=>ifb (ine g 0) (ifb (ine g 0) (k ((0:Int),g)) (æ (igt a.1 a.2) (k ((0:Int),(1:Int))))) (Ì (fun(c:ge) i=>FD (Ö ([f])) ([f]) c.1 c.2.1 c.2.2.1 c.2.2.2.1 c.2.2.2.2.1 c.2.2.2.2.2.1 c.2.2.2.2.2.2.1 c.2.2.2.2.2.2.2 (fun j l m n o p q r=>i (j,l,m,n,o,p,q,r)) (fun h=>ifb (ine h.1 0) (k ((0:Int),h.1)) (æ (igt a.1 a.2) (k ((0:Int),(1:Int))))) (fun d=>Ä (Č ((d.1,d.2.1),d.2.2)) fun e=>ifb (ine e.2.2 0) (ifb (ine e.2.2 0) (k ((0:Int),e.2.2)) (æ (igt a.1 a.2) (k ((0:Int),(1:Int))))) (Ä (Ā e.1) fun s=>ifb (!s.1) (k ((0:Int),(9:Int))) (ifb (igt a.1 a.2) (k ((0:Int),(1:Int))) (Ä (je (((d.1,d.2.1),d.2.2),e.1) f) fun t=>Ä (Aw t a) fun u=>k (u,(0:Int))))))) ((0:Int),b.1.1,b.1.2,b.2.1,b.2.2.1,b.2.2.2.1,b.2.2.2.2.1,b.2.2.2.2.2))
def UF (a:a8) (b:an) (c:an):AN an:=TL a b c some
def J0 (f:Int) (a:Int) (c:bx) (g:Int->bx->AN ρ) (h:bx->AN ρ):AN ρ :=
  ifb (ilt a f) (æ ((ile 0 a)&&(ilt a (Ġ c))) (Γ c (Int.toNat a) fun d=>æ (Û (List.length d.2.2.1)) (æ (Û (List.length d.2.2.2.1)) (æ ((ile 0 a)&&(ilt a (Ġ c))) (Γ c (Int.toNat a) fun b=>æ ((ile 0 a)&&(ilt a (Ġ (List.set c (Int.toNat a) (b.1,b.2.1,d.2.2.1,b.2.2.2))))) (Γ (List.set c (Int.toNat a) (b.1,b.2.1,d.2.2.1,b.2.2.2)) (Int.toNat a) fun e=>ck (a+(1:Int)) fun i=>g i (List.set (List.set c (Int.toNat a) (b.1,b.2.1,d.2.2.1,b.2.2.2)) (Int.toNat a) (e.1,e.2.1,e.2.2.1,d.2.2.2.1,e.2.2.2.2)))))))) (h c)
def af6 (a:a8) (b:ew) (k:Val bc->AN ρ):AN ρ :=
  æ (Û (List.length b.2.2.1)) (æ (Û (List.length b.2.2.2.1)) (Ä (ô a) fun d=>ifb (ine d 0) (k ((((0:Int),(0:Int)),[],[],[],[],[]),d)) (æ (Û (List.length a.2.1)) (æ (Û (List.length a.2.2.1)) (æ (Û (List.length a.2.2.2.1)) (æ (Û (List.length a.2.2.2.2.2)) (æ (Û (List.length a.2.2.2.2.1)) (Ì (fun(e:An) g=>J0 (Ö a.2.2.2.2.1) e.1 e.2 (fun h i=>g (h,i)) (fun c=>æ (Û ((List.length c)+(List.length ([b])))) (Ä (ô (a.1,a.2.1,a.2.2.1,a.2.2.2.1,(c++([b])),a.2.2.2.2.2)) fun f=>ifb (ine f 0) (k ((((0:Int),(0:Int)),[],[],[],[],[]),f)) (k ((a.1,a.2.1,a.2.2.1,a.2.2.2.1,(c++([b])),a.2.2.2.2.2),(0:Int)))))) ((0:Int),a.2.2.2.2.1)))))))))
def QA (a:a8) (b:ew):AN ((Val bc)):=af6 a b some
def ac1 (b:a8) (a:ew) (c:an) (k:f4->AN ρ):AN ρ :=
  Ä (ol b a) fun d=>Ä (rW b a) fun e=>Ä (Dg d.1) fun h=>Ä (wG d.2) fun i=>ck (h.1+e.1) fun j=>ck (j-a.2.2.2.2.2.1) fun f=>ck (i.1+e.2) fun l=>ck (l+a.2.2.2.2.2.1) fun g=>ifb (igt f g) (k (((0:Int),(0:Int)),(5:Int))) (ck (c.1+f) fun m=>ck (c.2+g) fun n=>k ((m,n),(0:Int)))
def UI (a:a8) (b:ew) (c:an):AN f4:=ac1 a b c some
def Wz (g:a8) (a:ew) (k:f4->AN ρ):AN ρ :=
  Ä (QA g (a.1,a.2.1,a.2.2.1,a.2.2.2.1,(0:Int),a.2.2.2.2.2)) fun d=>ifb (ine d.2 0) (k (((0:Int),(0:Int)),d.2)) (Ä (Dh d.1) fun b=>ck ((Ö b.2.2.1.2)-(2:Int)) fun c=>æ ((ile 0 c)&&(ile c (Ġ b.2.2.1.2))) (Ä (ŏ a.2.2.1 a.2.2.2.1) fun l=>Ä (Ω b l a.2.1) fun h=>Ä (ŏ a.2.2.2.1 a.2.2.1) fun m=>Ä (Ω b m a.2.1) fun i=>Ä (mE (b.2.2.1.1,(List.take (Int.toNat c) b.2.2.1.2)) i h) fun e=>ifb (ine e.2 0) (k (((0:Int),(0:Int)),e.2)) (Ä (mE (b.2.2.1.1,(List.take (Int.toNat c) b.2.2.1.2)) h i) fun f=>ifb (ine f.2 0) (k (((0:Int),(0:Int)),f.2)) (ck (0-f.1) fun n=>Ä (UI g (a.1,a.2.1,a.2.2.1,a.2.2.2.1,(0:Int),a.2.2.2.2.2) (n,e.1)) fun j=>k (j.1,j.2)))))
def KN (a:a8) (b:ew):AN f4:=Wz a b some
def ac0 (a:a8) (b:Int) (k:(Val (.pair É tI))->AN ρ):AN ρ :=
  Ä (ô a) fun c=>ifb (ine c 0) (k (((0:Int),(0:Int),[],[],(0:Int),(0:Int),(0:Int),(0:Int)),c)) (ifb (ilt b 0) (k (((0:Int),(0:Int),[],[],(0:Int),(0:Int),(0:Int),(0:Int)),(1:Int))) (ifb (ige b (Ö a.2.2.2.2.1)) (k (((0:Int),(0:Int),[],[],(0:Int),(0:Int),(0:Int),(0:Int)),(1:Int))) (ø a.2.2.2.2.1 b fun d=>k (d,(0:Int)))))
def UH (a:a8) (b:Int):AN ((Val (.pair É tI))):=ac0 a b some
def af7 (b:a8) (c:Int) (k:f4->AN ρ):AN ρ :=
  Ä (UH b c) fun a=>ifb (ine a.2 0) (k (((0:Int),(0:Int)),a.2)) (Ä (tM b a.1) fun d=>k (d,(0:Int)))
def Y2 (a:a8) (b:Int):AN f4:=af7 a b some
def Tz (a:ag) (b:nR) (c:(Val (.ptr É))) (k:Int->AN ρ):AN ρ :=
  ifb (ieq (Ö a) 0) (k (0:Int)) (ø a (0:Int) fun d=>Ä (Ŝ b (d,c.2.1)) fun e=>k e)
def wB (a:ag) (b:nR) (c:(Val (.ptr É))):AN (Int):=Tz a b c some
def Tx (b:Int) (c:Int) (a:nR) (d:(Val (.ptr tI))) (e:(Val (.ptr Â))) (f:(Val (.ptr tI))) (k:py->AN ρ):AN ρ :=
  Ä (ÿ a b c) fun g=>Ä (ÿ a d c) fun h=>ck (h+e.2) fun i=>Ä (ÿ a b f) fun j=>ck (i+j) fun l=>Ä (ÿ a f c) fun m=>ck (m-e.1) fun n=>Ä (ÿ a b d) fun o=>ck (n+o) fun p=>k (g,l,p)
def wA (a:Int) (b:Int) (c:nR) (d:(Val (.ptr tI))) (e:(Val (.ptr Â))) (f:(Val (.ptr tI))):AN py:=Tx a b c d e f some
def BX (f:Int) (g:a7) (h:fx) (i:Int) (a:Int) (b:fx) (c:Int->fx->AN ρ) (j:fx->AN ρ):AN ρ :=
  ifb (ilt a i) (ø h a fun d=>ø g a fun e=>ifb (!((ig e.1 (3:Int))&&((ig e.2 f)&&true))) (æ (Û ((List.length b)+(List.length ([d])))) (ck (a+(1:Int)) fun k=>c k (b++([d])))) (ck (a+(1:Int)) fun l=>c l b)) (j b)
def NZ (f:nR) (o:an) (a:ew) (k:y5->AN ρ):AN ρ :=
  Ä (KN f.1 a) fun e=>ifb (ine e.2 0) (k ((((0:Int),(0:Int)),((0:Int),(0:Int),(0:Int)),(0:Int),(0:Int),(0:Int)),e.2)) (Ä (QA f.1 (a.1,a.2.1,a.2.2.1,a.2.2.2.1,(0:Int),a.2.2.2.2.2)) fun b=>ifb (ine b.2 0) (k ((((0:Int),(0:Int)),((0:Int),(0:Int),(0:Int)),(0:Int),(0:Int),(0:Int)),b.2)) (ck ((Ö b.1.2.2.2.2.1)-(1:Int)) fun g=>Ä (Y2 b.1 g) fun h=>Ä (EM a.2.2.1 a.2.2.2.1) fun i=>Ä (Č b.1) fun c=>Ì (fun(j:ey) p=>BX g c.2.1 c.1.2 (Ö c.1.2) j.1 j.2 (fun q r=>p (q,r)) (fun d=>Ä (wB i.1 (b.1,c.1.1,d) (a.1,a.2.1,a.2.2.1,a.2.2.2.1,(0:Int),a.2.2.2.2.2)) fun l=>Ä (wB i.2.1 (b.1,c.1.1,d) (a.1,a.2.1,a.2.2.1,a.2.2.2.1,(0:Int),a.2.2.2.2.2)) fun m=>Ä (Ŝ (b.1,c.1.1,d) o) fun n=>Ä (wA n (0:Int) (b.1,c.1.1,d) m h.1 l) fun s=>Ä (wA (0:Int) n (b.1,c.1.1,d) m h.1 l) fun t=>k ((e.1,s,t),(0:Int)))) ((0:Int),[])))
def EK (a:nR) (b:an) (c:ew):AN (y5):=NZ a b c some
def PR (a:py) (k:ag->AN ρ):AN ρ :=
  ck (a.2.2-a.2.1) fun c=>ck (Int.tdiv c (2:Int)) fun b=>ck (a.1-a.2.1) fun d=>ck (a.2.2-a.1) fun e=>ck (b-1) fun f=>ck (b+1) fun g=>k ([d,e,b,f,g])
def kH (a:py):AN (ag):=PR a some
def aak (a:py) (b:Int) (k:Int->AN ρ):AN ρ :=
  ck (a.2.1+b) fun c=>ck (a.2.2-b) fun d=>k (Uk (Uk a.1 c) d)
def EL (a:py) (b:Int):AN (Int):=aak a b some
def LZ (a:Val iA) (b:Int) (k:an->AN ρ):AN ρ :=
  Ä (EL a.2.2 b) fun c=>ck (0-c) fun d=>Ä (EL a.2.1 b) fun e=>k (d,e)
def qw (a:Val iA) (b:Int):AN an:=LZ a b some
def rc (d:Int) (e:Int) (f:Int) (a:Int) (b:ag) (c:Int->ag->AN ρ) (g:ag->AN ρ):AN ρ :=
  ck (d+(2:Int)) fun h=>ifb (ile a h) (ifb (igt a e) (ifb (ilt a f) (æ (Û ((List.length b)+(List.length ([a])))) (ck (a+(1:Int)) fun i=>c i (b++([a])))) (ck (a+(1:Int)) fun j=>c j b)) (ck (a+(1:Int)) fun k=>c k b)) (g b)
def rg (e:ag) (f:Int) (g:Int) (h:Int) (a:Int) (b:ag) (i:Int->ag->AN ρ) (j:ag->AN ρ):AN ρ :=
  ifb (ilt a f) (ø e a fun c=>ck (c-(2:Int)) fun k=>Ì (fun(d:fy) l=>rc c g h d.1 d.2 (fun m n=>l (m,n)) (fun o=>ck (a+(1:Int)) fun p=>i p o)) (k,b)) (j b)
def L1 (a:Val iA) (b:ag) (k:ag->AN ρ):AN ρ :=
  Ì (fun(c:fy) d=>rg b (Ö b) a.1.1 a.1.2 c.1 c.2 (fun e f=>d (e,f)) (fun g=>k g)) ((0:Int),[a.1.1,a.1.2])
def qx (a:Val iA) (b:ag):AN (ag):=L1 a b some
def pF (d:ag) (e:Int) (f:Int) (g:Int) (h:Int) (i:Int) (j:Int) (k:Int) (l:Int) (m:Int) (b:Int) (a:Int) (n:Int->Int->AN ρ) (o:Int->AN ρ):AN ρ :=
  ifb (ilt a e) (ø d a fun p=>Ä (qw ((f,g),(h,i,j),k,l,m) p) fun c=>ck (c.2-c.1) fun q=>ck (a+(1:Int)) fun r=>n (Lu b q) r) (o b)
def I8 (a:Val iA) (k:Int->AN ρ):AN ρ :=
  Ä (kH a.2.1) fun d=>Ä (kH a.2.2) fun e=>Ä (ç ([d,e])) fun f=>Ä (qx a f) fun b=>Ì (fun(c:an) g=>pF b (Ö b) a.1.1 a.1.2 a.2.1.1 a.2.1.2.1 a.2.1.2.2 a.2.2.1 a.2.2.2.1 a.2.2.2.2 c.1 c.2 (fun h i=>g (h,i)) (fun j=>k j)) ((-1:Int),(0:Int))
def wz (a:Val iA):AN (Int):=I8 a some
def FC (m:Int) (j:a7) (b:Int) (c:Int) (d:Int) (e:c8) (f:a7) (g:cT) (h:bx) (i:a7) (k:Int->Int->Int->c8->a7->cT->bx->a7->AN ρ) (n:ge->AN ρ) (o:nm->AN ρ):AN ρ :=
  ifb (ilt b m) (æ ((ile 0 b)&&(ilt b (Ġ j))) (Γ j (Int.toNat b) fun l=>Ä (ļ ((c,d),e,f,g,h,i) l) fun p=>ifb (ieq p.2 0) (ck (b+(1:Int)) fun q=>k q c d e f g h i) (Ä (jf ((c,d),e,f,g,h,i) l) fun a=>ifb (ine a.2 0) (n (a.2,c,d,e,f,g,h,i)) (ck (b+(1:Int)) fun r=>k r a.1.1.1 a.1.1.2 a.1.2.1 a.1.2.2.1 a.1.2.2.2.1 a.1.2.2.2.2.1 a.1.2.2.2.2.2)))) (o (c,d,e,f,g,h,i))
def TI (a:a8) (e:an) (i:ew) (k:an->AN ρ):AN ρ :=
  Ä (ô a) fun f=>ifb (ine f 0) (æ (ine f 0) (k ((0:Int),f))) (Ì (fun(b:ge) j=>FC (Ö ([e])) ([e]) b.1 b.2.1 b.2.2.1 b.2.2.2.1 b.2.2.2.2.1 b.2.2.2.2.2.1 b.2.2.2.2.2.2.1 b.2.2.2.2.2.2.2 (fun l m n o p q r s=>j (l,m,n,o,p,q,r,s)) (fun h=>æ (ine h.1 0) (k ((0:Int),h.1))) (fun c=>Ä (Č ((c.1,c.2.1),c.2.2)) fun d=>ifb (ine d.2.2 0) (æ (ine d.2.2 0) (k ((0:Int),d.2.2))) (Ä (Ā d.1) fun t=>ifb (!t.1) (k ((0:Int),(9:Int))) (Ä (EK (((c.1,c.2.1),c.2.2),d.1) e i) fun g=>ifb (ine g.2 0) (k ((0:Int),g.2)) (Ä (wz g.1) fun u=>k (u,(0:Int))))))) ((0:Int),a.1.1,a.1.2,a.2.1,a.2.2.1,a.2.2.2.1,a.2.2.2.2.1,a.2.2.2.2.2))
def UE (a:a8) (b:an) (c:ew):AN an:=TI a b c some
def P0 (a:Int) (k:Int->AN ρ):AN ρ :=
  k (Lu (-288230376151711744:Int) (Uk a (288230376151711744:Int)))
def tJ (a:Int):AN (Int):=P0 a some
def PS (a:py) (b:Int) (k:ag->AN ρ):AN ρ :=
  ck (b-a.2.1) fun c=>ck (a.2.2-b) fun d=>k ([c,d])
def kI (a:py) (b:Int):AN (ag):=PS a b some
def yH (m:Int) (j:a7) (b:Int) (c:Int) (d:Int) (e:c8) (f:a7) (g:cT) (h:bx) (i:a7) (k:Int->Int->Int->c8->a7->cT->bx->a7->AN ρ) (n:ge->AN ρ) (o:nm->AN ρ):AN ρ :=
  ifb (ilt b m) (æ ((ile 0 b)&&(ilt b (Ġ j))) (Γ j (Int.toNat b) fun l=>Ä (ļ ((c,d),e,f,g,h,i) l) fun p=>ifb (ieq p.2 0) (ck (b+(1:Int)) fun q=>k q c d e f g h i) (Ä (jf ((c,d),e,f,g,h,i) l) fun a=>ifb (ine a.2 0) (n (a.2,c,d,e,f,g,h,i)) (ck (b+(1:Int)) fun r=>k r a.1.1.1 a.1.1.2 a.1.2.1 a.1.2.2.1 a.1.2.2.2.1 a.1.2.2.2.2.1 a.1.2.2.2.2.2)))) (o (c,d,e,f,g,h,i))
def yG (b:ag) (c:Int) (d:Int) (e:Int) (f:Int) (g:Int) (h:Int) (i:Int) (j:Int) (k:Int) (l:Int) (m:Int) (a:Int) (n:Int->AN ρ) (o:Int->AN ρ) (p:Unit->AN ρ):AN ρ :=
  ifb (ilt a c) (ø b a fun q=>Ä (qw ((f,g),(h,i,j),k,l,m) q) fun r=>Ä (Aw r (d,e)) fun s=>ifb (ieq s 3) (o a) (ck (a+(1:Int)) fun t=>n t)) (p ())
def Jp (c:a8) (g:an) (b:an) (n:ew) (k:Val bh->AN ρ):AN ρ :=
  Ä (ô c) fun h=>ifb (ine h 0) (ifb (ine h 0) (k (false,h)) (æ (igt b.1 b.2) (k (false,(1:Int))))) (Ì (fun(d:ge) o=>yH (Ö ([g])) ([g]) d.1 d.2.1 d.2.2.1 d.2.2.2.1 d.2.2.2.2.1 d.2.2.2.2.2.1 d.2.2.2.2.2.2.1 d.2.2.2.2.2.2.2 (fun p q r s t u v w=>o (p,q,r,s,t,u,v,w)) (fun l=>ifb (ine l.1 0) (k (false,l.1)) (æ (igt b.1 b.2) (k (false,(1:Int))))) (fun e=>Ä (Č ((e.1,e.2.1),e.2.2)) fun f=>ifb (ine f.2.2 0) (ifb (ine f.2.2 0) (k (false,f.2.2)) (æ (igt b.1 b.2) (k (false,(1:Int))))) (Ä (Ā f.1) fun x=>ifb (!x.1) (k (false,(9:Int))) (ifb (igt b.1 b.2) (k (false,(1:Int))) (Ä (EK (((e.1,e.2.1),e.2.2),f.1) g n) fun a=>ifb (ine a.2 0) (k (false,a.2)) (Ä (kH a.1.2.1) fun y=>Ä (kH a.1.2.2) fun z=>Ä (ç ([y,z])) fun A=>Ä (tJ b.1) fun i=>Ä (tJ b.2) fun j=>Ä (kI a.1.2.1 i) fun B=>ck (0-i) fun C=>Ä (kI a.1.2.2 C) fun D=>Ä (ç ([A,B,D])) fun E=>Ä (kI a.1.2.1 j) fun F=>ck (0-j) fun G=>Ä (kI a.1.2.2 G) fun H=>Ä (ç ([E,F,H])) fun I=>Ä (qx a.1 I) fun m=>Ì (fun(J:Int) K=>yG m (Ö m) i j a.1.1.1 a.1.1.2 a.1.2.1.1 a.1.2.1.2.1 a.1.2.1.2.2 a.1.2.2.1 a.1.2.2.2.1 a.1.2.2.2.2 J (fun L=>K L) (fun M=>k ((!(ige M 0)),(0:Int))) (fun _=>k (true,(0:Int)))) (0:Int))))))) ((0:Int),c.1.1,c.1.2,c.2.1,c.2.2.1,c.2.2.2.1,c.2.2.2.2.1,c.2.2.2.2.2))
def KE (a:a8) (b:an) (c:an) (d:ew):AN ((Val bh)):=Jp a b c d some
def yM (d:ag) (e:Int) (f:fx) (a:Int) (g:Int->AN ρ) (b:Int->AN ρ) (h:Unit->AN ρ):AN ρ :=
  ifb (ilt a e) (ø d a fun c=>ifb (ilt c 0) (b a) (ifb (ige c (Ö f)) (b a) (ck (a+(1:Int)) fun i=>g i))) (h ())
def Wj (b:ey) (a:ag) (k:Int->AN ρ):AN ρ :=
  ifb (igt (Ö a) 80) (k (2:Int)) (Ì (fun(c:Int) d=>yM a (Ö a) b.2 c (fun e=>d e) (fun f=>ifb (ige f 0) (k (1:Int)) (k (0:Int))) (fun _=>k (0:Int))) (0:Int))
def Ax (a:ey) (b:ag):AN (Int):=Wj a b some
def JA (e:ag) (f:Int) (g:fx) (c:Int) (d:Int) (a:Int) (h:Int->Int->Int->AN ρ) (i:Val aY->AN ρ) (j:an->AN ρ):AN ρ :=
  ifb (ilt a f) (ø e a fun k=>ø g k fun b=>ifb (ine b.1 c) (i ((0:Int),(0:Int),false)) (ck (d+b.2.2) fun l=>ck (a+(1:Int)) fun m=>h b.2.1 l m)) (j (c,d))
def af5 (e:ey) (f:Int) (c:ag) (k:Val aY->AN ρ):AN ρ :=
  Ì (fun(a:py) g=>JA c (Ö c) e.2 a.1 a.2.1 a.2.2 (fun h i j=>g (h,i,j)) (fun b=>k (b.1,b.2.1,b.2.2)) (fun d=>k (d.1,d.2,true))) (f,(0:Int),(0:Int))
def Qy (a:ey) (b:Int) (c:ag):AN ((Val aY)):=af5 a b c some
def Mu (a:ey) (c:Int) (d:Int) (e:ag) (k:an->AN ρ):AN ρ :=
  Ä (mD a) fun f=>ifb (ine f.1 0) (k ((0:Int),f.1)) (Ä (pZ a c) fun h=>ifb (!h) (k ((0:Int),(1:Int))) (Ä (pZ a d) fun i=>ifb (!i) (k ((0:Int),(1:Int))) (Ä (Ax a e) fun g=>ifb (ine g 0) (k ((0:Int),g)) (Ä (Qy a c e) fun b=>ifb (!b.2.2) (k ((0:Int),(8:Int))) (ifb (ine b.1 d) (k ((0:Int),(8:Int))) (k (b.2.1,(0:Int))))))))
def qy (a:ey) (b:Int) (c:Int) (d:ag):AN an:=Mu a b c d some
def P2 (a:rx) (k:Int->AN ρ):AN ρ :=
  Ä (ô a.1) fun c=>ifb (ine c 0) (k c) (Ä (ļ a.1 a.2.1) fun b=>ifb (ine b.2 0) (k (5:Int)) (Ä (Č a.1) fun d=>ck (0-a.2.2.2.1) fun g=>ifb a.2.2.1 (Ä (qy d.1 (0:Int) b.1 a.2.2.2.2) fun e=>ifb (ine e.2 0) (k (8:Int)) (ifb (ine e.1 a.2.2.2.1) (k (8:Int)) (k (0:Int)))) (Ä (qy d.1 b.1 (0:Int) a.2.2.2.2) fun f=>ifb (ine f.2 0) (k (8:Int)) (ifb (ine f.1 g) (k (8:Int)) (k (0:Int))))))
def tK (a:rx):AN (Int):=P2 a some
def Ms (a:ey) (b:ag) (k:Int->AN ρ):AN ρ :=
  Ä (mD a) fun d=>ifb (ine d.1 0) (k d.1) (Ä (Ax a b) fun e=>ifb (ine e 0) (k e) (ifb (ieq (Ö b) 0) (k (8:Int)) (ø b (0:Int) fun g=>ø a.2 g fun f=>Ä (Qy a f.1 b) fun c=>ifb (!c.2.2) (k (8:Int)) (ifb (ine c.1 f.1) (k (8:Int)) (ifb (ige c.2.1 0) (k (8:Int)) (k (0:Int)))))))
def zo (a:ey) (b:ag):AN (Int):=Ms a b some
def Mm (a:rx) (k:Int->AN ρ):AN ρ :=
  Ä (ô a.1) fun b=>ifb (ine b 0) (k b) (ifb (!((ig a.2.1.1 (0:Int))&&((ig a.2.1.2 (0:Int))&&true))) (k (1:Int)) (ifb a.2.2.1 (k (1:Int)) (ifb (ine a.2.2.2.1 0) (k (1:Int)) (Ä (Č a.1) fun c=>Ä (zo c.1 a.2.2.2.2) fun d=>ifb (ine d 0) (k (8:Int)) (k (0:Int))))))
def zn (a:rx):AN (Int):=Mm a some
def Ž (c:c8) (d:Int) (e:Int) (f:Int) (g:Int) (h:Int) (i:Int) (j:Int) (k:Int) (l:Int) (b:Int) (m:Int->AN ρ) (n:Int->AN ρ) (o:Unit->AN ρ):AN ρ :=
  ifb (ilt b d) (ø c b fun a=>ifb ((ig e a.1)&&((ig f a.2.1)&&((ig g a.2.2.1)&&((ig h a.2.2.2.1.1)&&((ig i a.2.2.2.1.2)&&((ig j a.2.2.2.2.1.1)&&((ig k a.2.2.2.2.1.2)&&((ig l a.2.2.2.2.2)&&true)))))))) (n b) (ck (b+(1:Int)) fun p=>m p)) (o ())
def mM (b:c8) (a:c9) (k:Int->AN ρ):AN ρ :=
  Ì (fun(c:Int) d=>Ž b (Ö b) a.1 a.2.1 a.2.2.1 a.2.2.2.1.1 a.2.2.2.1.2 a.2.2.2.2.1.1 a.2.2.2.2.1.2 a.2.2.2.2.2 c (fun e=>d e) (fun f=>k f) (fun _=>k (-1:Int))) (0:Int)
def hO (a:c8) (b:c9):AN (Int):=mM a b some
def kW (a:c8) (b:c9) (k:Bool->AN ρ):AN ρ :=
  Ä (hO a b) fun c=>k (ige c 0)
def ž (a:c8) (b:c9):AN (Bool):=kW a b some
def iv (c:a7) (d:Int) (e:Int) (f:Int) (a:Int) (g:Int->AN ρ) (h:Int->AN ρ) (i:Unit->AN ρ):AN ρ :=
  ifb (ilt a d) (ø c a fun b=>ifb ((ig e b.1)&&((ig f b.2)&&true)) (h a) (ck (a+(1:Int)) fun j=>g j)) (i ())
def qn (a:a7) (b:an) (k:Int->AN ρ):AN ρ :=
  Ì (fun(c:Int) d=>iv a (Ö a) b.1 b.2 c (fun e=>d e) (fun f=>k f) (fun _=>k (-1:Int))) (0:Int)
def jv (a:a7) (b:an):AN (Int):=qn a b some
def np (a:a7) (b:an) (k:Bool->AN ρ):AN ρ :=
  Ä (jv a b) fun c=>k (ige c 0)
def Ŏ (a:a7) (b:an):AN (Bool):=np a b some
def Υ (c:cT) (d:Int) (e:Int) (f:Int) (g:Int) (h:Int) (a:Int) (i:Int->AN ρ) (j:Int->AN ρ) (k:Unit->AN ρ):AN ρ :=
  ifb (ilt a d) (ø c a fun b=>ifb ((ig e b.1)&&((ig f b.2.1.1)&&((ig g b.2.1.2)&&((ig h b.2.2)&&true)))) (j a) (ck (a+(1:Int)) fun l=>i l)) (k ())
def oF (b:cT) (a:rm) (k:Int->AN ρ):AN ρ :=
  Ì (fun(c:Int) d=>Υ b (Ö b) a.1 a.2.1.1 a.2.1.2 a.2.2 c (fun e=>d e) (fun f=>k f) (fun _=>k (-1:Int))) (0:Int)
def iR (a:cT) (b:rm):AN (Int):=oF a b some
variable [LC]
def mf (a:cT) (b:rm) (k:Bool->AN ρ):AN ρ :=
  Ä (iR a b) fun c=>k (ige c 0)
def Ļ (a:cT) (b:rm):AN (Bool):=mf a b some
def Jf (c:c8) (d:Int) (a:Int) (b:io) (e:Int->io->AN ρ) (f:io->AN ρ):AN ρ :=
  ifb (ilt a d) (ø c a fun g=>ck (a+(1:Int)) fun h=>e h (Hf (k:=tI) (v:=.bool) g.1 true b)) (f b)
def Jc (b:ag) (c:ag) (d:Int) (a:Int) (e:Int->AN ρ) (f:Bool->AN ρ) (g:Unit->AN ρ):AN ρ :=
  ifb (ilt a d) (ø b a fun h=>ø c a fun i=>ifb (ine h i) (f false) (ck (a+(1:Int)) fun j=>e j)) (g ())
def Ab (b:ag) (c:ag) (d:Int) (a:Int) (e:Int->AN ρ) (f:Bool->AN ρ) (g:Unit->AN ρ):AN ρ :=
  ifb (ilt a d) (ø b a fun h=>ø c a fun i=>ifb (ine h i) (f false) (ck (a+(1:Int)) fun j=>e j)) (g ())
def Jd (g:bx) (h:Int) (i:Int) (j:Int) (f:ag) (d:ag) (k:Int) (l:Int) (m:Int) (n:Int) (a:Int) (c:Int->AN ρ) (e:Int->AN ρ) (o:Unit->AN ρ):AN ρ :=
  ifb (ilt a h) (ø g a fun b=>ifb (ieq i b.1) (ifb (ieq j b.2.1) (ifb (ieq k b.2.2.2.2.1) (ifb (ieq l b.2.2.2.2.2.1) (ifb ((ig m b.2.2.2.2.2.2.1)&&((ig n b.2.2.2.2.2.2.2)&&true)) (ifb (ine (Ö f) (Ö b.2.2.1)) (ck (a+(1:Int)) fun p=>c p) (Ì (fun(q:Int) r=>Jc f b.2.2.1 (Ö f) q (fun s=>r s) (fun t=>ifb t (ifb (ine (Ö d) (Ö b.2.2.2.1)) (ck (a+(1:Int)) fun u=>c u) (Ì (fun(v:Int) w=>Ab d b.2.2.2.1 (Ö d) v (fun x=>w x) (fun y=>ifb y (e a) (ck (a+(1:Int)) fun z=>c z)) (fun _=>e a)) (0:Int))) (ck (a+(1:Int)) fun A=>c A)) (fun _=>ifb (ine (Ö d) (Ö b.2.2.2.1)) (ck (a+(1:Int)) fun B=>c B) (Ì (fun(C:Int) D=>Ab d b.2.2.2.1 (Ö d) C (fun E=>D E) (fun F=>ifb F (e a) (ck (a+(1:Int)) fun G=>c G)) (fun _=>e a)) (0:Int)))) (0:Int))) (ck (a+(1:Int)) fun H=>c H)) (ck (a+(1:Int)) fun I=>c I)) (ck (a+(1:Int)) fun J=>c J)) (ck (a+(1:Int)) fun K=>c K)) (ck (a+(1:Int)) fun L=>c L)) (o ())
def Je (e:bx) (f:Int) (c:bx) (b:Int) (g:Int->AN ρ) (d:Bool->AN ρ) (h:Unit->AN ρ):AN ρ :=
  ifb (ilt b f) (ø e b fun a=>Ì (fun(i:Int) j=>Jd c (Ö c) a.1 a.2.1 a.2.2.1 a.2.2.2.1 a.2.2.2.2.1 a.2.2.2.2.2.1 a.2.2.2.2.2.2.1 a.2.2.2.2.2.2.2 i (fun k=>j k) (fun l=>ifb (!(ige l 0)) (d false) (ck (b+(1:Int)) fun m=>g m)) (fun _=>d false)) (0:Int)) (h ())
def Jb (b:c8) (c:Int) (d:c8) (a:Int) (e:Int->AN ρ) (f:Int->AN ρ) (g:Unit->AN ρ):AN ρ :=
  ifb (ilt a c) (ø b a fun h=>Ä (ž d h) fun i=>ifb (!i) (f a) (ck (a+(1:Int)) fun j=>e j)) (g ())
def Aa (d:a7) (e:Int) (f:io) (g:a7) (a:Int) (b:Int->AN ρ) (h:Int->AN ρ) (i:Unit->AN ρ):AN ρ :=
  ifb (ilt a e) (ø d a fun c=>Re (k:=tI) (v:=.bool) c.1 f (fun j=>ifb j (Ä (Ŏ g c) fun l=>ifb (!l) (h a) (ck (a+(1:Int)) fun m=>b m)) (ck (a+(1:Int)) fun n=>b n)) (ck (a+(1:Int)) fun o=>b o)) (i ())
def oL (d:a7) (e:Int) (f:io) (g:a7) (a:Int) (b:Int->AN ρ) (h:Int->AN ρ) (i:Unit->AN ρ):AN ρ :=
  ifb (ilt a e) (ø d a fun c=>Re (k:=tI) (v:=.bool) c.1 f (fun j=>ifb j (Ä (Ŏ g c) fun l=>ifb (!l) (h a) (ck (a+(1:Int)) fun m=>b m)) (ck (a+(1:Int)) fun n=>b n)) (ck (a+(1:Int)) fun o=>b o)) (i ())
def κ (d:cT) (e:Int) (f:io) (g:cT) (a:Int) (b:Int->AN ρ) (h:Int->AN ρ) (i:Unit->AN ρ):AN ρ :=
  ifb (ilt a e) (ø d a fun c=>Re (k:=tI) (v:=.bool) c.1 f (fun j=>ifb j (Ä (Ļ g c) fun l=>ifb (!l) (h a) (ck (a+(1:Int)) fun m=>b m)) (ck (a+(1:Int)) fun n=>b n)) (ck (a+(1:Int)) fun o=>b o)) (i ())
def ĉ (d:cT) (e:Int) (f:io) (g:cT) (a:Int) (b:Int->AN ρ) (h:Int->AN ρ) (i:Unit->AN ρ):AN ρ :=
  ifb (ilt a e) (ø d a fun c=>Re (k:=tI) (v:=.bool) c.1 f (fun j=>ifb j (Ä (Ļ g c) fun l=>ifb (!l) (h a) (ck (a+(1:Int)) fun m=>b m)) (ck (a+(1:Int)) fun n=>b n)) (ck (a+(1:Int)) fun o=>b o)) (i ())
def Yt (b:a8) (a:a8) (k:Bool->AN ρ):AN ρ :=
  Ì (fun(d:px) e=>Jf b.2.1 (Ö b.2.1) d.1 d.2 (fun f g=>e (f,g)) (fun c=>Ì (fun(h:Int) i=>Je b.2.2.2.2.1 (Ö b.2.2.2.2.1) a.2.2.2.2.1 h (fun j=>i j) (fun l=>k l) (fun _=>ifb ((ig b.1.1 a.1.1)&&((ig b.1.2 a.1.2)&&true)) (Ì (fun(m:Int) n=>Jb b.2.1 (Ö b.2.1) a.2.1 m (fun o=>n o) (fun p=>ifb (!(ige p 0)) (Ì (fun(q:Int) r=>Aa b.2.2.1 (Ö b.2.2.1) c a.2.2.1 q (fun s=>r s) (fun t=>ifb (!(ige t 0)) (Ì (fun(u:Int) v=>oL a.2.2.1 (Ö a.2.2.1) c b.2.2.1 u (fun w=>v w) (fun x=>ifb (!(ige x 0)) (Ì (fun(y:Int) z=>κ b.2.2.2.1 (Ö b.2.2.2.1) c a.2.2.2.1 y (fun A=>z A) (fun B=>ifb (!(ige B 0)) (Ì (fun(C:Int) D=>ĉ a.2.2.2.1 (Ö a.2.2.2.1) c b.2.2.2.1 C (fun E=>D E) (fun F=>k (!(ige F 0))) (fun _=>k true)) (0:Int)) (k false)) (fun _=>Ì (fun(G:Int) H=>ĉ a.2.2.2.1 (Ö a.2.2.2.1) c b.2.2.2.1 G (fun I=>H I) (fun J=>k (!(ige J 0))) (fun _=>k true)) (0:Int))) (0:Int)) (k false)) (fun _=>Ì (fun(K:Int) L=>κ b.2.2.2.1 (Ö b.2.2.2.1) c a.2.2.2.1 K (fun M=>L M) (fun N=>ifb (!(ige N 0)) (Ì (fun(O:Int) P=>ĉ a.2.2.2.1 (Ö a.2.2.2.1) c b.2.2.2.1 O (fun Q=>P Q) (fun R=>k (!(ige R 0))) (fun _=>k true)) (0:Int)) (k false)) (fun _=>Ì (fun(S:Int) T=>ĉ a.2.2.2.1 (Ö a.2.2.2.1) c b.2.2.2.1 S (fun U=>T U) (fun V=>k (!(ige V 0))) (fun _=>k true)) (0:Int))) (0:Int))) (0:Int)) (k false)) (fun _=>Ì (fun(W:Int) X=>oL a.2.2.1 (Ö a.2.2.1) c b.2.2.1 W (fun Y=>X Y) (fun Z=>ifb (!(ige Z 0)) (Ì (fun(dc:Int) df=>κ b.2.2.2.1 (Ö b.2.2.2.1) c a.2.2.2.1 dc (fun dg=>df dg) (fun dh=>ifb (!(ige dh 0)) (Ì (fun(di:Int) dj=>ĉ a.2.2.2.1 (Ö a.2.2.2.1) c b.2.2.2.1 di (fun dk=>dj dk) (fun dl=>k (!(ige dl 0))) (fun _=>k true)) (0:Int)) (k false)) (fun _=>Ì (fun(dm:Int) dt=>ĉ a.2.2.2.1 (Ö a.2.2.2.1) c b.2.2.2.1 dm (fun du=>dt du) (fun dv=>k (!(ige dv 0))) (fun _=>k true)) (0:Int))) (0:Int)) (k false)) (fun _=>Ì (fun(dw:Int) dz=>κ b.2.2.2.1 (Ö b.2.2.2.1) c a.2.2.2.1 dw (fun d8=>dz d8) (fun d9=>ifb (!(ige d9 0)) (Ì (fun(ee:Int) eh=>ĉ a.2.2.2.1 (Ö a.2.2.2.1) c b.2.2.2.1 ee (fun ej=>eh ej) (fun eo=>k (!(ige eo 0))) (fun _=>k true)) (0:Int)) (k false)) (fun _=>Ì (fun(ez:Int) fc=>ĉ a.2.2.2.1 (Ö a.2.2.2.1) c b.2.2.2.1 ez (fun fe=>fc fe) (fun ff=>k (!(ige ff 0))) (fun _=>k true)) (0:Int))) (0:Int))) (0:Int))) (0:Int)) (k false)) (fun _=>Ì (fun(fg:Int) fh=>Aa b.2.2.1 (Ö b.2.2.1) c a.2.2.1 fg (fun fi=>fh fi) (fun fj=>ifb (!(ige fj 0)) (Ì (fun(fk:Int) fo=>oL a.2.2.1 (Ö a.2.2.1) c b.2.2.1 fk (fun fp=>fo fp) (fun fq=>ifb (!(ige fq 0)) (Ì (fun(ft:Int) fu=>κ b.2.2.2.1 (Ö b.2.2.2.1) c a.2.2.2.1 ft (fun fw=>fu fw) (fun f0=>ifb (!(ige f0 0)) (Ì (fun(f5:Int) f6=>ĉ a.2.2.2.1 (Ö a.2.2.2.1) c b.2.2.2.1 f5 (fun f7=>f6 f7) (fun f9=>k (!(ige f9 0))) (fun _=>k true)) (0:Int)) (k false)) (fun _=>Ì (fun(gd:Int) gg=>ĉ a.2.2.2.1 (Ö a.2.2.2.1) c b.2.2.2.1 gd (fun gh=>gg gh) (fun gi=>k (!(ige gi 0))) (fun _=>k true)) (0:Int))) (0:Int)) (k false)) (fun _=>Ì (fun(gj:Int) gk=>κ b.2.2.2.1 (Ö b.2.2.2.1) c a.2.2.2.1 gj (fun gn=>gk gn) (fun gq=>ifb (!(ige gq 0)) (Ì (fun(gu:Int) gw=>ĉ a.2.2.2.1 (Ö a.2.2.2.1) c b.2.2.2.1 gu (fun gx=>gw gx) (fun gy=>k (!(ige gy 0))) (fun _=>k true)) (0:Int)) (k false)) (fun _=>Ì (fun(g8:Int) g9=>ĉ a.2.2.2.1 (Ö a.2.2.2.1) c b.2.2.2.1 g8 (fun ic=>g9 ic) (fun ig=>k (!(ige ig 0))) (fun _=>k true)) (0:Int))) (0:Int))) (0:Int)) (k false)) (fun _=>Ì (fun(ii:Int) ij=>oL a.2.2.1 (Ö a.2.2.1) c b.2.2.1 ii (fun ik=>ij ik) (fun il=>ifb (!(ige il 0)) (Ì (fun(ip:Int) iq=>κ b.2.2.2.1 (Ö b.2.2.2.1) c a.2.2.2.1 ip (fun ir=>iq ir) (fun iu=>ifb (!(ige iu 0)) (Ì (fun(iv:Int) iw=>ĉ a.2.2.2.1 (Ö a.2.2.2.1) c b.2.2.2.1 iv (fun ix=>iw ix) (fun iy=>k (!(ige iy 0))) (fun _=>k true)) (0:Int)) (k false)) (fun _=>Ì (fun(iz:Int) i5=>ĉ a.2.2.2.1 (Ö a.2.2.2.1) c b.2.2.2.1 iz (fun i6=>i5 i6) (fun i7=>k (!(ige i7 0))) (fun _=>k true)) (0:Int))) (0:Int)) (k false)) (fun _=>Ì (fun(i8:Int) i9=>κ b.2.2.2.1 (Ö b.2.2.2.1) c a.2.2.2.1 i8 (fun ja=>i9 ja) (fun jb=>ifb (!(ige jb 0)) (Ì (fun(jc:Int) jd=>ĉ a.2.2.2.1 (Ö a.2.2.2.1) c b.2.2.2.1 jc (fun je=>jd je) (fun jf=>k (!(ige jf 0))) (fun _=>k true)) (0:Int)) (k false)) (fun _=>Ì (fun(jg:Int) jh=>ĉ a.2.2.2.1 (Ö a.2.2.2.1) c b.2.2.2.1 jg (fun ji=>jh ji) (fun jj=>k (!(ige jj 0))) (fun _=>k true)) (0:Int))) (0:Int))) (0:Int))) (0:Int))) (0:Int)) (k false))) (0:Int))) ((0:Int),[])
def Qx (a:a8) (b:a8):AN (Bool):=Yt a b some
def aao (b:a8) (a:rx) (k:Val bh->AN ρ):AN ρ :=
  Ä (ô b) fun c=>ifb (ine c 0) (k (false,c)) (ifb ((ig a.2.1.1 (0:Int))&&((ig a.2.1.2 (0:Int))&&true)) (Ä (zn a) fun d=>ifb (ine d 0) (k (false,d)) (Ä (Qx a.1 b) fun f=>k (f,(0:Int)))) (Ä (tK a) fun e=>ifb (ine e 0) (k (false,e)) (Ä (Qx a.1 b) fun g=>k (g,(0:Int)))))
def OE (a:a8) (b:rx):AN ((Val bh)):=aao a b some
def FI (d:Int) (c:Int) (e:fx) (a:Int) (b:Val aT) (f:Int->Val aT->AN ρ) (g:Val aT->AN ρ):AN ρ :=
  ifb (ilt a d) (Ä (wD (c,e) a c) fun h=>æ ((ile 0 a)&&(ilt a (Ġ b))) (Γ b (Int.toNat a) fun j=>ck (a+(1:Int)) fun i=>f i (List.set b (Int.toNat a) h))) (g b)
def FE (g:Int) (h:nn) (j:fx) (k:Int) (e:Int) (b:Int) (a:Int) (c:ag) (f:Int->Int->Int->ag->AN ρ) (i:y7->AN ρ):AN ρ :=
  ifb (ilt a k) (ø j a fun d=>ifb (ieq d.1 e) (ck (g-(1:Int)) fun l=>ø h l fun m=>ø m d.2.1 fun n=>ifb (ine n 1152921504606846976) (ck (b+d.2.2) fun o=>ck (g-(1:Int)) fun p=>ø h p fun q=>ø q d.2.1 fun r=>ck (o+r) fun s=>ifb (ilt s 0) (æ (Û ((List.length c)+(List.length ([a])))) (ck (b+d.2.2) fun t=>i (d.2.1,t,(c++([a]))))) (ck (a+(1:Int)) fun u=>f e b u c)) (ck (a+(1:Int)) fun v=>f e b v c)) (ck (a+(1:Int)) fun w=>f e b w c)) (i (e,b,c))
def FF (f:nn) (d:fx) (g:Int) (b:Int) (h:Int) (e:ag) (i:Int->Int->Int->ag->AN ρ) (j:ag->AN ρ):AN ρ :=
  ifb (igt b 0) (Ì (fun(a:Val aP) k=>FE b f d (Ö d) a.1 a.2.1 a.2.2.1 a.2.2.2 (fun l m n o=>k (l,m,n,o)) (fun c=>ck (b-(1:Int)) fun p=>i c.1 p c.2.1 c.2.2)) (g,h,(0:Int),e)) (j e)
def FG (e:Int) (h:fx) (i:Int) (j:Int) (k:fx) (b:Val aT) (c:Int) (f:Int->AN ρ) (l:Unit->AN ρ) (m:fy->AN ρ) (n:Unit->AN ρ):AN ρ :=
  ifb (ilt c i) (ø h c fun a=>æ ((ile 0 a.1)&&(ilt a.1 (Ġ b))) (Γ b (Int.toNat a.1) fun o=>ck (e-(1:Int)) fun p=>ø o p fun q=>ø q a.2.1 fun g=>ifb (ieq g 1152921504606846976) (ck (c+(1:Int)) fun r=>f r) (ck (a.2.2+g) fun s=>ifb (ige s 0) (ck (c+(1:Int)) fun t=>f t) (ifb (igt e j) (l ()) (æ ((ile 0 a.1)&&(ilt a.1 (Ġ b))) (Γ b (Int.toNat a.1) fun u=>Ì (fun(d:Val aP) v=>FF u k d.1 d.2.1 d.2.2.1 d.2.2.2 (fun w x y z=>v (w,x,y,z)) (fun A=>m ((0:Int),A))) (a.1,e,(0:Int),[]))))))) (n ())
def FH (d:Int) (a:fx) (e:Val aT) (b:Int) (f:Int->AN ρ) (g:Unit->AN ρ) (h:fy->AN ρ):AN ρ :=
  Ì (fun(i:Int) j=>FG b a (Ö a) d a e i (fun k=>j k) (fun _=>g ()) (fun c=>h (c.1,c.2)) (fun _=>ck (b+(1:Int)) fun l=>f l)) (0:Int)
def acR (a:ey) (k:Val aX->AN ρ):AN ρ :=
  Ä (mD a) fun b=>ifb (ine b.1 0) (k ([],b.1)) (Ä (iT a ([])) fun e=>ifb e.2 (k ([],(5:Int))) (æ ((ile 0 a.1)&&(Û (Int.toNat a.1))) (Ì (fun(c:(Val (.pair tI aT))) f=>FI (Ö (List.replicate (Int.toNat a.1) ([]:nn))) a.1 a.2 c.1 c.2 (fun g h=>f (g,h)) (fun i=>Ì (fun(j:Int) l=>FH a.1 a.2 i j (fun m=>l m) (fun _=>k ([],(5:Int))) (fun d=>k (d.2,d.1))) (1:Int))) ((0:Int),(List.replicate (Int.toNat a.1) ([]:nn))))))
def KI (a:ey):AN ((Val aX)):=acR a some
def acQ (a:a8) (k:(Val (.pair ş tI))->AN ρ):AN ρ :=
  Ä (Č a) fun b=>ifb (ine b.2.2 0) (k (((((0:Int),(0:Int)),[],[],[],[],[]),((0:Int),(0:Int)),false,(0:Int),[]),b.2.2)) (Ä (KI b.1) fun c=>ifb (ine c.2 0) (k (((((0:Int),(0:Int)),[],[],[],[],[]),((0:Int),(0:Int)),false,(0:Int),[]),c.2)) (Ä (oV a c.1) fun f=>Ä (KD a f ([])) fun e=>Ä (Č e) fun g=>Ä (KI g.1) fun d=>ifb (ine d.2 0) (k (((((0:Int),(0:Int)),[],[],[],[],[]),((0:Int),(0:Int)),false,(0:Int),[]),d.2)) (k ((e,((0:Int),(0:Int)),false,(0:Int),d.1),(0:Int)))))
def UG (a:a8):AN ((Val (.pair ş tI))):=acQ a some
def Bn (k:Bool->AN ρ):AN ρ :=
  Ä FT fun a=>Ä (wC a ((2:Int),(10:Int))) fun c=>Ä (wC a ((1:Int),(30:Int))) fun d=>Ä (KH a ((1:Int),(10:Int)) ((2:Int),(10:Int))) fun e=>Ä (Y1 a (10:Int) ([(1:Int),(2:Int)])) fun f=>Ä (UF a ((2:Int),(0:Int)) ((990:Int),(1010:Int))) fun g=>Ä (jO a ((2:Int),(10:Int)) true) fun b=>ifb (ine c.2 0) (k false) (ifb (ine d.2 0) (k false) (ifb (ine e.2 0) (k false) (ifb (ine f.2 0) (k false) (ifb (ine g.2 0) (k false) (ifb (ine b.2 0) (k false) (ifb (!((ig c.1.1 (984:Int))&&((ig c.1.2 (1011:Int))&&true))) (k false) (ifb (!((ig d.1.1 (964:Int))&&((ig d.1.2 (1005:Int))&&true))) (k false) (ifb (!((ig e.1.1 (-6:Int))&&((ig e.1.2 (11:Int))&&true))) (k false) (ifb (!((ig f.1.1 (1979:Int))&&((ig f.1.2 (2018:Int))&&true))) (k false) (ifb (ine g.1 3) (k false) (ifb (ine b.1.2.2.2.1 1011) (k false) (Ä (UE a ((2:Int),(10:Int)) ((8:Int),(10:Int),[(1:Int)],[(2:Int)],(0:Int),(0:Int),(0:Int),(0:Int))) fun h=>Ä (KE a ((2:Int),(10:Int)) ((900:Int),(1100:Int)) ((8:Int),(10:Int),[(1:Int)],[(2:Int)],(0:Int),(0:Int),(0:Int),(0:Int))) fun i=>Ä (OE a b.1) fun j=>Ä (UG a) fun l=>ifb (ieq h.2 0) (ifb (ieq i.2 0) (ifb (ieq j.2 0) (ifb (ieq l.2 5) (ifb (ieq h.1 10) (ifb i.1 (ifb j.1 (Ä (tK b.1) fun m=>k (ieq m 0)) (k false)) (k false)) (k false)) (k false)) (k false)) (k false)) (k false)))))))))))))
def tB:AN (Bool):=Bn some
def WP:AN (Bool):=some true
def ky (rec:Int->AN ByteArray) (b:Int) (a:ByteArray) (e:Int->ByteArray->AN ρ) (f:ByteArray->AN ρ):AN ρ :=
  ifb (igt b 9) (ck (Int.tdiv b (10:Int)) fun c=>ck ((48:Int)+(Int.tmod c (10:Int))) fun d=>æ (Û (ByteArray.size (qG ([(IntKind.wrap .u8 d)]))+ByteArray.size a)) (e c ((qG ([(IntKind.wrap .u8 d)]))++a))) (f a)
def Χ (rec:Int->AN ByteArray) (a:Int) (k:ByteArray->AN ρ):AN ρ :=
  ifb (ilt a 0) (ck ((0:Int)-(Int.tmod a (10:Int))) fun b=>ifb (igt a (-10:Int)) (ck ((48:Int)+b) fun c=>æ (Û (ByteArray.size (ByteArray.mk #[45])+ByteArray.size (qG ([(IntKind.wrap .u8 c)])))) (k ((ByteArray.mk #[45])++(qG ([(IntKind.wrap .u8 c)]))))) (ck (Int.tdiv a (10:Int)) fun g=>Ä (rec g) fun d=>ck ((48:Int)+b) fun e=>æ (Û (ByteArray.size d+ByteArray.size (qG ([(IntKind.wrap .u8 e)])))) (k (d++(qG ([(IntKind.wrap .u8 e)])))))) (ck ((48:Int)+(Int.tmod a (10:Int))) fun h=>Ì (fun(f:uf) i=>ky rec f.1 f.2 (fun j l=>i (j,l)) (fun m=>k m)) (a,(qG ([(IntKind.wrap .u8 h)]))))
def lZ:Nat->Int->AN ByteArray
  |0=>fun _=>none
  |n+1=>fun a=>Χ (lZ n) a some
def wy (a:Int):AN (ByteArray):=lZ 100 a
def pq (c:ag) (a:ByteArray) (b:Int) (e:ByteArray->Int->AN ρ) (f:ByteArray->AN ρ):AN ρ :=
  ifb (ilt b (Ö c)) (æ (Û (ByteArray.size a+ByteArray.size (ByteArray.mk #[32]))) (ø c b fun g=>Ä (wy g) fun d=>æ (Û (ByteArray.size (a++(ByteArray.mk #[32]))+ByteArray.size d)) (ck (b+(1:Int)) fun h=>e ((a++(ByteArray.mk #[32]))++d) h))) (f a)
def Tc (b:ByteArray) (c:ag) (k:ByteArray->AN ρ):AN ρ :=
  Ì (fun(a:xt) d=>pq c a.1 a.2 (fun e f=>d (e,f)) (fun g=>k g)) (b,(0:Int))
def hZ (a:ByteArray) (b:ag):AN (ByteArray):=Tc a b some
def nz (e:c8) (b:ByteArray) (c:Int) (f:ByteArray->Int->AN ρ) (g:ByteArray->AN ρ):AN ρ :=
  ifb (ilt c (Ö e)) (ø e c fun a=>Ä (hZ (ByteArray.mk #[103,97,117,103,101]) ([a.1,a.2.1,a.2.2.1,a.2.2.2.1.1,a.2.2.2.1.2,a.2.2.2.2.1.1,a.2.2.2.2.1.2,a.2.2.2.2.2])) fun d=>æ (Û (ByteArray.size b+ByteArray.size d)) (æ (Û (ByteArray.size (b++d)+ByteArray.size (ByteArray.mk #[10]))) (ck (c+(1:Int)) fun h=>f ((b++d)++(ByteArray.mk #[10])) h))) (g b)
def ny (c:a7) (a:ByteArray) (b:Int) (e:ByteArray->Int->AN ρ) (f:ByteArray->AN ρ):AN ρ :=
  ifb (ilt b (Ö c)) (ø c b fun g=>ø c b fun h=>Ä (hZ (ByteArray.mk #[117,115,101]) ([g.1,h.2])) fun d=>æ (Û (ByteArray.size a+ByteArray.size d)) (æ (Û (ByteArray.size (a++d)+ByteArray.size (ByteArray.mk #[10]))) (ck (b+(1:Int)) fun i=>e ((a++d)++(ByteArray.mk #[10])) i))) (f a)
def nw (e:cT) (a:ByteArray) (c:Int) (f:ByteArray->Int->AN ρ) (g:ByteArray->AN ρ):AN ρ :=
  ifb (ilt c (Ö e)) (ø e c fun b=>Ä (hZ (ByteArray.mk #[108,111,97,110]) ([b.1,b.2.1.1,b.2.1.2,b.2.2])) fun d=>æ (Û (ByteArray.size a+ByteArray.size d)) (æ (Û (ByteArray.size (a++d)+ByteArray.size (ByteArray.mk #[10]))) (ck (c+(1:Int)) fun h=>f ((a++d)++(ByteArray.mk #[10])) h))) (g a)
def nu (g:bx) (b:ByteArray) (e:Int) (h:ByteArray->Int->AN ρ) (i:ByteArray->AN ρ):AN ρ :=
  ifb (ilt e (Ö g)) (ø g e fun a=>Ä (hZ (ByteArray.mk #[99,111,109,112,97,114,101]) ([a.1,a.2.1,a.2.2.2.2.1,a.2.2.2.2.2.1,a.2.2.2.2.2.2.1,a.2.2.2.2.2.2.2])) fun c=>æ (Û (ByteArray.size b+ByteArray.size c)) (Ä (hZ (ByteArray.mk #[32,97]) a.2.2.1) fun d=>æ (Û (ByteArray.size (b++c)+ByteArray.size d)) (Ä (hZ (ByteArray.mk #[32,98]) a.2.2.2.1) fun f=>æ (Û (ByteArray.size ((b++c)++d)+ByteArray.size f)) (æ (Û (ByteArray.size (((b++c)++d)++f)+ByteArray.size (ByteArray.mk #[10]))) (ck (e+(1:Int)) fun j=>h ((((b++c)++d)++f)++(ByteArray.mk #[10])) j))))) (i b)
def nt (c:a7) (a:ByteArray) (b:Int) (e:ByteArray->Int->AN ρ) (f:ByteArray->AN ρ):AN ρ :=
  ifb (ilt b (Ö c)) (ø c b fun g=>ø c b fun h=>Ä (hZ (ByteArray.mk #[108,111,111,107]) ([g.1,h.2])) fun d=>æ (Û (ByteArray.size a+ByteArray.size d)) (æ (Û (ByteArray.size (a++d)+ByteArray.size (ByteArray.mk #[10]))) (ck (b+(1:Int)) fun i=>e ((a++d)++(ByteArray.mk #[10])) i))) (f a)
def NP (a:a8) (k:ByteArray->AN ρ):AN ρ :=
  Ä (hZ (ByteArray.mk #[102,105,108,109]) ([a.1.1,a.1.2])) fun b=>æ (Û (ByteArray.size b+ByteArray.size (ByteArray.mk #[10]))) (Ì (fun(c:xt) h=>nz a.2.1 c.1 c.2 (fun i j=>h (i,j)) (fun l=>Ì (fun(d:xt) m=>ny a.2.2.1 d.1 d.2 (fun n o=>m (n,o)) (fun p=>Ì (fun(e:xt) q=>nw a.2.2.2.1 e.1 e.2 (fun r s=>q (r,s)) (fun t=>Ì (fun(f:xt) u=>nu a.2.2.2.2.1 f.1 f.2 (fun v w=>u (v,w)) (fun x=>Ì (fun(g:xt) y=>nt a.2.2.2.2.2 g.1 g.2 (fun z A=>y (z,A)) (fun B=>k B)) (x,(0:Int)))) (t,(0:Int)))) (p,(0:Int)))) (l,(0:Int)))) ((b++(ByteArray.mk #[10])),(0:Int)))
def oj (a:a8):AN (ByteArray):=NP a some
def TP (a:ey) (b:Int) (c:Int) (k:Val ba->AN ρ):AN ρ :=
  Ä (mE a b c) fun d=>ifb (ine d.2 0) (k ([],d.2)) (æ (Û (List.length a.2)) (ck (0-d.1) fun e=>æ (Û ((List.length a.2)+(List.length ([(c,b,e)])))) (Ä (iT (a.1,(a.2++([(c,b,e)]))) ([])) fun f=>k (f.1,(0:Int)))))
def wE (a:ey) (b:Int) (c:Int):AN ((Val ba)):=TP a b c some
def qp (m:Int) (j:a7) (b:Int) (c:Int) (d:Int) (e:c8) (f:a7) (g:cT) (h:bx) (i:a7) (k:Int->Int->Int->c8->a7->cT->bx->a7->AN ρ) (n:ge->AN ρ) (o:nm->AN ρ):AN ρ :=
  ifb (ilt b m) (æ ((ile 0 b)&&(ilt b (Ġ j))) (Γ j (Int.toNat b) fun l=>Ä (ļ ((c,d),e,f,g,h,i) l) fun p=>ifb (ieq p.2 0) (ck (b+(1:Int)) fun q=>k q c d e f g h i) (Ä (jf ((c,d),e,f,g,h,i) l) fun a=>ifb (ine a.2 0) (n (a.2,c,d,e,f,g,h,i)) (ck (b+(1:Int)) fun r=>k r a.1.1.1 a.1.1.2 a.1.2.1 a.1.2.2.1 a.1.2.2.2.1 a.1.2.2.2.2.1 a.1.2.2.2.2.2)))) (o (c,d,e,f,g,h,i))
def Ag (a:a8) (g:an) (l:Bool) (k:Val ba->AN ρ):AN ρ :=
  Ä (ô a) fun h=>ifb (ine h 0) (æ (ine h 0) (k ([],h))) (Ì (fun(b:ge) m=>qp (Ö ([g])) ([g]) b.1 b.2.1 b.2.2.1 b.2.2.2.1 b.2.2.2.2.1 b.2.2.2.2.2.1 b.2.2.2.2.2.2.1 b.2.2.2.2.2.2.2 (fun n o p q r s t u=>m (n,o,p,q,r,s,t,u)) (fun i=>æ (ine i.1 0) (k ([],i.1))) (fun d=>Ä (Č ((d.1,d.2.1),d.2.2)) fun c=>ifb (ine c.2.2 0) (æ (ine c.2.2 0) (k ([],c.2.2))) (Ä (Ā c.1) fun v=>ifb (!v.1) (k ([],(9:Int))) (Ä (Ŝ (((d.1,d.2.1),d.2.2),c.1) g) fun j=>ifb l (Ä (wE c.1 (0:Int) j) fun e=>ifb (ine e.2 0) (k ([],e.2)) (æ (ile 1 (Ġ e.1)) (k ((List.drop 1 e.1),(0:Int))))) (Ä (wE c.1 j (0:Int)) fun f=>ifb (ine f.2 0) (k ([],f.2)) (æ (ile 1 (Ġ f.1)) (k ((List.drop 1 f.1),(0:Int))))))))) ((0:Int),a.1.1,a.1.2,a.2.1,a.2.2.1,a.2.2.2.1,a.2.2.2.2.1,a.2.2.2.2.2))
def lM (a:a8) (b:an) (c:Bool):AN ((Val ba)):=Ag a b c some
def IC (a:a8) (k:ey->AN ρ):AN ρ :=
  Ä (jd a) fun b=>ck ((Ö b)+(1:Int)) fun c=>Ä (tC a) fun d=>k (c,d.1)
def tD (a:a8):AN ey:=IC a some
def sK (b:ag) (c:fx) (e:Int) (f:Int) (a:Int) (g:Int->Int->Int->AN ρ) (d:Val aY->AN ρ) (h:an->AN ρ):AN ρ :=
  ifb (ilt a (Ö b)) (ø b a fun i=>ifb (ilt i 0) (d ((0:Int),(0:Int),false)) (ø b a fun j=>ifb (ige j (Ö c)) (d ((0:Int),(0:Int),false)) (ø b a fun k=>ø c k fun l=>ifb (ine l.1 e) (d ((0:Int),(0:Int),false)) (ø b a fun m=>ø c m fun n=>ck (f+n.2.2) fun o=>ø b a fun p=>ø c p fun q=>ck (a+(1:Int)) fun r=>g q.2.1 o r)))) (h (e,f))
def Ym (d:ey) (e:Int) (f:ag) (k:Val aY->AN ρ):AN ρ :=
  Ì (fun(a:py) g=>sK f d.2 a.1 a.2.1 a.2.2 (fun h i j=>g (h,i,j)) (fun b=>k (b.1,b.2.1,b.2.2)) (fun c=>k (c.2,c.1,true))) (e,(0:Int),(0:Int))
def C9 (a:ey) (b:Int) (c:ag):AN ((Val aY)):=Ym a b c some
def NI (a:rx) (k:Bool->AN ρ):AN ρ :=
  Ä (tD a.1) fun d=>Ä (Μ a.1 a.2.1) fun e=>ifb (!a.2.2.1) (ifb (ilt a.2.2.2.1 (-1152921504606846976:Int)) (k false) (ifb (igt a.2.2.2.1 1152921504606846976) (k false) (ck ((0:Int)-a.2.2.2.1) fun f=>Ä (C9 d e a.2.2.2.2) fun b=>ifb (ile (Ö a.2.2.2.2) 80) (ifb b.2.2 (ifb (ieq b.2.1 0) (k (ieq b.1 f)) (k false)) (k false)) (k false)))) (Ä (C9 d (0:Int) a.2.2.2.2) fun c=>ifb (ile (Ö a.2.2.2.2) 80) (ifb c.2.2 (ifb (ieq c.2.1 e) (k (ieq c.1 a.2.2.2.1)) (k false)) (k false)) (k false))
def xp (a:rx):AN (Bool):=NI a some
def ym (a:rx) (k:Int->AN ρ):AN ρ :=
  Ä (lL a.1) fun b=>ifb (ine b 0) (k b) (Ä (Μ a.1 a.2.1) fun c=>ifb (ieq c 0) (k (5:Int)) (Ä (xp a) fun d=>ifb (!d) (k (8:Int)) (k (0:Int))))
def Ŷ (a:rx):AN (Int):=ym a some
end Go.Proofs.ZzM
end
