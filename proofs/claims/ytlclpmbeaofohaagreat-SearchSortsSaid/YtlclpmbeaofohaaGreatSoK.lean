/- What the law of sorted answers leans on: known(), what slices.Clone makes of nothing, and slices.Insert over the model. -/
import Derived.Test.YtlclpmbeaofohaaGreatKnAll
import Derived.Test.YtlclpmbeaofohaaGreatSoB
import Derived.Test.YtlclpmbeaofohaaGreatSoI
namespace Go.Proofs.YtlclpmbeaofohaaGreat.So
open Go Am
theorem insRun : InsRun Tryz.prog 24 27 3 4 :=
  ⟨fun base n c m mc ya w w' v' h1 h2 h3 h4 => ins_fin base n c m mc ya w w' v' h1 h2 h3 h4,
   fun b off n c i m mc vb vo w W1 W2 k1 k2 tA kA tB kB hi hm hr hs hv hsa hsb hkB hf1 hf2 c1 c2 => ins_room b off n c i m mc vb vo w W1 W2 k1 k2 hi hm hr hs (fun lb cb => ins_apart vb vo m mc b (off + (i + m) * 4) lb cb tA kA tB kB w hv hsa hsb hkB hf1 hf2) c1 c2,
   fun b off n c i m mc nb G ya w W1 W2 W3 k1 k2 hi hm hnc hr hbig hG hz c1 c2 => ins_grow b off n c i m mc nb G ya w W1 W2 W3 k1 k2 hi hm hnc hr hbig hG hz c1 c2⟩
theorem cloned : entOk (envT Tryz.prog 392 344 Kn.kmask []) 1000 ⟨49, [.islice [] 0 3 true], .nilslice⟩ = true := by kernel_rfl
theorem given : Given :=
  ⟨Kn.known, (Kn.knownC_F (e := ⟨49, [.islice [] 0 3 true], .nilslice⟩) (knownC Kn.progOk (fun _ h => by cases h) cloned)).weak (.refl _) (.nil 3), insFn insRun⟩
end Go.Proofs.YtlclpmbeaofohaaGreat.So
