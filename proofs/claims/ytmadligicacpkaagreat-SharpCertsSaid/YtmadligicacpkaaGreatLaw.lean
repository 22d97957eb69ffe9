/- For every book of moderate size, a node and a certificate with at most 90 indices, CheckCert returns what the specification returns, also for a changed certificate of Certify, and that of Certify proves the end of the interval by a part of the book. Conditions: none. -/
import Derived.Test.YtmadligicacpkaaGreatMdMB
import Derived.Test.YtmadligicacpkaaGreatAmC
import Derived.Test.YtmadligicacpkaaGreatPlC
import Derived.Test.YtmadligicacpkaaGreatFactsA
import Derived.Test.YtmadligicacpkaaGreatMdCA
set_option linter.all false
set_option linter.unusedSectionVars false
set_option linter.unusedVariables false
set_option linter.unusedSimpArgs false
noncomputable section
namespace Go.Proofs.ZzM
open Go Go.Am
theorem book_num {b:Val Ä} (h:Go.Am.Rng Ä b):∀g∈(b:Þ).2.1,I64 g.2.2.2.2.1.1:=fun g hg=>(h.2.1 g hg).2.2.2.2.1.1
theorem sharpCerts_law:∀x:Val (tyL lm.ts),Go.Am.Rng (tyL lm.ts) x→lm.F x=some true:=fun x h=>amI (book_num h.1) x.2.1 x.2.2.1 (book_num h.2.2.2.1.1) h.2.2.2.1.2.2.2.1 x.2.2.2.2.1 x.2.2.2.2.2
end Go.Proofs.ZzM
end
noncomputable section
namespace Go.Proofs.YtmadligicacpkaaGreat
open Go Go.Am
set_option maxRecDepth 100000
theorem sharpCerts_inPlace:(Rows.sharpCertsRow.inPlace==Tryz.prog.inPlace 6)=true:=by kernel_rfl
theorem sharpCerts_unfollowed:(Rows.sharpCertsRow.unfollowed==Tryz.prog.unfollowed 6)=true:=by kernel_rfl
theorem sharpCerts_recurses:(Rows.sharpCertsRow.recurses==Tryz.prog.recurses 6)=true:=by kernel_rfl
theorem sharpCerts_named:(Rows.sharpCertsRow.named==Tryz.prog.varsNamed 6)=true:=by kernel_rfl
theorem sharpCerts_joined:joinedFacts Tryz.checked.prog 6 Tryz.f6 Rows.sharpCertsSpec Rows.sharpCertsRow=true :=
 joined_of (by kernel_rfl) laidOut mapsOk (by kernel_rfl) (by kernel_rfl) (by kernel_rfl) stopsNil (by kernel_rfl) knobsNil sharpCerts_inPlace sharpCerts_unfollowed sharpCerts_recurses sharpCerts_named
  (by kernel_rfl) (by kernel_rfl) (by kernel_rfl) (by kernel_rfl) (by kernel_rfl) (by kernel_rfl) (by kernel_rfl) (by kernel_rfl) (by kernel_rfl) plainKeysOk (by kernel_rfl) heard enters lifts makes (by kernel_rfl) (by kernel_rfl) (by kernel_rfl) (by kernel_rfl)
theorem sharpCerts_lifted (os:Os) (started:os.Started) (H:Type) (enc:TypeId×Value→H) :
 ReturnsInHanded {} Tryz.checked os 6 .any (Rows.sharpCertsSpec.pre6 enc Tryz.prog Tryz.f6 Rows.sharpCertsRow.domain false) (Rows.sharpCertsSpec.post enc Tryz.prog Tryz.f6 false true false false) :=
 law_lifted (C:=Tryz.checked) (tb:=4) own started (by kernel_rfl) Tryz.func6 (ChangeSpec.witness6 (enc:=enc) (C:=Tryz.checked) false ⟨#[],#[.agg #[.int .i64 0,.int .i64 0,.slice none 0 0,.slice none 0 0,.slice none 0 0,.slice none 0 0,.slice none 0 0],.agg #[.int .i64 0,.int .i64 0],.bool false,.agg #[.int .i64 0,.int .i64 0,.slice none 0 0,.slice none 0 0,.slice none 0 0,.slice none 0 0,.slice none 0 0,.int .i64 0,.int .i64 0,.bool false,.int .i64 0,.slice none 0 0],.int .u8 0,.int .i64 0],[]⟩ 8 (by kernel_rfl) (by kernel_rfl) (by kernel_rfl) (by kernel_rfl))
  ZzM.c_w6_SharpCerts rfl ZzM.sharpCerts_law (by kernel_rfl) rfl (fun ds h=>by
   rw[show Tryz.f6.params.toList.length=6 from by kernel_rfl] at h
   rcases ds with _|⟨d1,_|⟨d2,_|⟨d3,_|⟨d4,_|⟨d5,_|⟨d6,_|⟨d7,ds⟩⟩⟩⟩⟩⟩⟩<;>simp at h
   rfl) laidOut (by kernel_rfl) (by kernel_rfl) (by kernel_rfl)
theorem sharpCerts_holds:Rows.SharpCertsSaid :=
 OpenClaim.holds_of_wide 6 Tryz.f6 rfl rfl rfl rfl rfl rfl rfl ⟨rfl,rfl,rfl,rfl,rfl⟩ rfl rfl rfl rfl rfl (by kernel_rfl) Tryz.func6 sharpCerts_joined
  (of_decide_eq_true (by kernel_rfl)) (by unfold Func.isWrapper; first|(rw[if_pos (by decide +kernel)]; kernel_rfl)|(rw[if_neg (by decide +kernel)]; exact⟨rfl,rfl⟩))
  (fun os started H enc _=>sharpCerts_lifted os started H enc)
#print axioms sharpCerts_holds
end Go.Proofs.YtmadligicacpkaaGreat
end