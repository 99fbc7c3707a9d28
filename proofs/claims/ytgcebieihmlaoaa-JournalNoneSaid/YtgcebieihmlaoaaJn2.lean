/-
  A journal is opened: the walk.
-/
import Derived.Test.YtgcebieihmlaoaaProg
import Derived.Test.YtgcebieihmlaoaaSlj
import Derived.Test.YtgcebieihmlaoaaJn1
namespace Go.Proofs.Ytgcebieihmlaoaa
open Go.SL Go.RowKit
set_option linter.unusedVariables false
set_option linter.unusedSimpArgs false
set_option maxRecDepth 100000
open DkA DkB DkC DkD DkE DkF DkG DkH DkI DkJ DkK DkL DkM DkN Fr1 Jn1
namespace Jn2
theorem sz3 : (Try.prog.info? 3).map (·.size) = some 1 := by kernel_rfl
theorem sz4 : (Try.prog.info? 4).map (·.size) = some 1 := by kernel_rfl
theorem sz9 : (Try.prog.info? 9).map (·.size) = some 1 := by kernel_rfl
theorem sz74 : (Try.prog.info? 74).map (·.size) = some 4 := by kernel_rfl
theorem sz113 : (Try.prog.info? 113).map (·.size) = some 1 := by kernel_rfl
theorem sz115 : (Try.prog.info? 115).map (·.size) = some 5 := by kernel_rfl
theorem sz119 : (Try.prog.info? 119).map (·.size) = some 3 := by kernel_rfl
theorem sz122 : (Try.prog.info? 122).map (·.size) = some 2 := by kernel_rfl
theorem ti5 : TI Try.prog 5 [.int .u8 0] 1 1 := TI.of (by kernel_rfl) rfl rfl
theorem ti74 : TI Try.prog 74 [.int .i64 0, .int .i64 0, str [], .bool false] 4 40 := TI.of (by kernel_rfl) rfl rfl
theorem ti115 : TI Try.prog 115 [.pointer none, .int .i64 0, .int .i64 0, .int .i64 0, .slice none 0 0] 5 56 := TI.of (by kernel_rfl) rfl rfl
theorem ti119 : TI Try.prog 119 [.int .i64 0, str [], .bool false] 3 32 := TI.of (by kernel_rfl) rfl rfl
theorem ti122 : TI Try.prog 122 [.pointer none, .slice none 0 0] 2 32 := TI.of (by kernel_rfl) rfl rfl
theorem fo115_2 : FO Try.prog 115 2 2 1 false := FO.of Try.underlying115 rfl rfl (by kernel_rfl) Try.underlying3 rfl rfl
theorem fo115_3 : FO Try.prog 115 3 3 1 false := FO.of Try.underlying115 rfl rfl (by kernel_rfl) Try.underlying3 rfl rfl
theorem fo115_4 : FO Try.prog 115 4 4 1 false := FO.of Try.underlying115 rfl rfl (by kernel_rfl) Try.underlying113 rfl rfl
theorem fo119_0 : FO Try.prog 119 0 0 1 false := FO.of Try.underlying119 rfl rfl (by kernel_rfl) Try.underlying3 rfl rfl
theorem fo119_1 : FO Try.prog 119 1 1 1 false := FO.of Try.underlying119 rfl rfl (by kernel_rfl) Try.underlying9 rfl rfl
theorem fo119_2 : FO Try.prog 119 2 2 1 false := FO.of Try.underlying119 rfl rfl (by kernel_rfl) Try.underlying4 rfl rfl
theorem pl74 : PL Try.prog 74 [(0, 1), (1, 1), (2, 1), (3, 1)] := PL.of Try.underlying74 (by kernel_rfl)
theorem pl115 : PL Try.prog 115 [(0, 1), (1, 1), (2, 1), (3, 1), (4, 1)] := PL.of Try.underlying115 (by kernel_rfl)

/-- the frames of a file as records -/
def recF (file : Nat) (fs : List Fr2.Fm) : List Rc := fs.map fun f => ⟨file, f.pos, f.body, f.good⟩
/-- what a journal reads of a disk's files: from one number on -/
def openF (fs : List DkB.Fm) : Nat → List Rc × Nat × Nat → List Rc × Nat × Nat
  | 0, s => s
  | n + 1, s => match findM ((s.2.1 + 1 : Nat) : Int) fs with
    | none => s
    | some f => if Fr2.endL (Fr2.scanL f.now) < f.now.length then (s.1 ++ recF (s.2.1 + 1) (Fr2.scanL f.now), s.2.1 + 1, f.now.length)
        else openF fs n (s.1 ++ recF (s.2.1 + 1) (Fr2.scanL f.now), s.2.1 + 1, f.now.length)
theorem recF_snoc (file : Nat) (fs : List Fr2.Fm) (f : Fr2.Fm) : recF file (fs ++ [f]) = recF file fs ++ [⟨file, f.pos, f.body, f.good⟩] := by simp [recF]
theorem recF_len (file : Nat) (fs : List Fr2.Fm) : (recF file fs).length = fs.length := by simp [recF]
def fmc (f : Fr2.Fm) : List Value := [i64 (f.pos : Int), str f.body, .bool f.good]
theorem fmc_len (f : Fr2.Fm) : (fmc f).length = 3 := rfl
/-- files that follow one another are no more than all -/
theorem run_le {fs : List DkB.Fm} {n : Nat} (h : ∀ k, k < n → ((k + 1 : Nat) : Int) ∈ fs.map (·.n)) : n ≤ fs.length := by
  have h1 : ((List.range n).map fun k => ((k + 1 : Nat) : Int)).Nodup := by
    rw [List.Nodup, List.pairwise_map]
    exact List.nodup_range.imp fun h e => h (by omega)
  have h2 := nodup_len _ (fs.map (·.n)) h1 (fun x hx => by
    obtain ⟨k, hk, rfl⟩ := List.mem_map.1 hx
    exact h k (List.mem_range.1 hk))
  simpa using h2

set_option maxHeartbeats 8000000 in
theorem JOpen_ct (d : Dk) (db : Nat) (most : Int) (B : Frag) (hF : d.abs.Fit) (hdd : d.dead = false) (hm : 1 ≤ most) (hsz : ∀ f ∈ d.abs.fs, f.now.length ≤ 1048576) : Ct Try.prog 34 [.pointer (some ⟨db, 0, none⟩), i64 most] B (dkH db d) (fun v B' H' => ∃ (jb : Nat) (Al : Option Addr) (cl : Nat), v = .tuple #[.pointer (some ⟨jb, 0, none⟩), i64 0] ∧ H' = dkH db d * jnH jb ⟨db, most, (openF d.abs.fs (d.abs.fs.length + 1) ([], 0, 0)).2.1, (openF d.abs.fs (d.abs.fs.length + 1) ([], 0, 0)).2.2, (openF d.abs.fs (d.abs.fs.length + 1) ([], 0, 0)).1, Al, cl⟩) := by
  have hfl : d.abs.fs.length ≤ 1000000 := hF.len
  refine Ct.of_body Try.func34 rfl (nt := 87) rfl (by kernel_rfl) rfl ?_
  intro N0 w0 R
  refine Cx.seq (fun K1 k1 => ?_)
  refine Cx.region ?_
  refine Lx.y (asg rfl) rfl ?_
  refine Lx.y (asg rfl) rfl ?_
  refine Lx.nil ?_
  refine Xx.tn (k1 _ _ _ _ ?_)
  refine Cx.seq (fun K2 k2 => ?_)
  refine Cx.seq (fun K3 k3 => ?_)
  refine Cx.region ?_
  refine Lx.y (mv rfl) rfl ?_
  refine Lx.y (Yx.ff (eqNilP Try.underlying26 rfl rfl) rfl) rfl ?_
  refine Lx.y (mv rfl) rfl ?_
  refine Lx.gT rfl rfl rfl ?_
  refine Lx.y (mv rfl) rfl ?_
  refine Lx.gT rfl rfl rfl ?_
  refine Lx.y (lss rfl rfl) rfl ?_
  refine Lx.y (pickF rfl rfl) rfl ?_
  refine Lx.nil ?_
  refine Xx.tn (k3 _ _ _ _ ?_)
  refine Cx.condD rfl (fun h4 => ?_) (fun h4 => ?_)
  · skip
    have h1 : most < 1 := h4
    omega
  · skip
    refine Cx.skip ?_
    refine Xx.tn (k2 _ _ _ _ ?_)
    refine Cx.seq (fun K5 k5 => ?_)
    refine Cx.seq (fun K6 k6 => ?_)
    refine Cx.region ?_
    refine Lx.y (mv rfl) rfl ?_
    refine Lx.co rfl rfl rfl (Dead_ct d db _) (rfl) rfl ?_
    refine Lx.nil ?_
    refine Xx.tn (k6 _ _ _ _ ?_)
    refine Cx.condB rfl (fun h7 => ?_) (fun h7 => ?_)
    · skip
      have h2 : d.dead = true := h7
      rw [hdd] at h2; cases h2
    · skip
      refine Cx.skip ?_
      refine Xx.tn (k5 _ _ _ _ ?_)
      refine Cx.seq (fun K8 k8 => ?_)
      refine Cx.region ?_
      refine Lx.y (mv rfl) rfl ?_
      refine Lx.y (mv rfl) rfl ?_
      refine Lx.y (bld ti115 pl115 rfl rfl) rfl ?_
      refine Lx.new (boxA rfl) rfl (fun jb => ?_)
      refine Lx.y (asg rfl) rfl ?_
      refine Lx.nil ?_
      refine Xx.tn (k8 _ _ _ _ ?_)
      refine Cx.block ?_
      refine Cx.loopK (Sub.cons (s := 0) rfl (Sub.cons (s := 1) rfl (Sub.cons (s := 6) rfl (Sub.cons (s := 13) rfl (Sub.cons (s := 14) rfl (Sub.cons (s := 15) rfl (Sub.cons (s := 16) rfl (Sub.cons (s := 17) rfl (Sub.cons (s := 18) rfl (Sub.cons (s := 19) rfl (Sub.cons (s := 20) rfl (Sub.cons (s := 21) rfl (Sub.cons (s := 22) rfl (Sub.cons (s := 23) rfl (Sub.cons (s := 24) rfl (Sub.nil _)))))))))))))))) (fun m ρ' B' H' => ∃ (n ls lg : Nat) (l : List Rc) (A : Option Addr) (c : Nat) (B2 : Frag), (openF d.abs.fs n (l, ls, lg) = (openF d.abs.fs (d.abs.fs.length + 1) ([], 0, 0)) ∧ n + ls = d.abs.fs.length + 1 ∧ (∀ k, k < ls → ((k + 1 : Nat) : Int) ∈ d.abs.fs.map (·.n)) ∧ l.length ≤ ls * 1048576 ∧ B.le B2) ∧ m = n + 1 ∧ ρ' = [] ∧ B2 = B' ∧ row jb 115 [.pointer (some ⟨db, 0, none⟩), i64 most, i64 ((ls : Nat) : Int), i64 ((lg : Nat) : Int), .slice A l.length c] * (sbuf 74 4 A l.length c (l.flatMap rcc) * (dkH db d * R)) = H') ⟨d.abs.fs.length + 1, 0, 0, [], none, 0, _, ⟨rfl, rfl, fun k hk => absurd hk (by omega), Nat.zero_le _, Frag.le_refl _⟩, rfl, rfl, rfl, by show _ * (sbuf _ 4 none 0 0 [] * _) = _; rw [sbuf_nil, one_star]; rfl⟩ (Sub.cons (s := 0) rfl (Sub.cons (s := 1) rfl (Sub.cons (s := 6) rfl (Sub.cons (s := 13) rfl (Sub.cons (s := 14) rfl (Sub.cons (s := 15) rfl (Sub.cons (s := 16) rfl (Sub.cons (s := 17) rfl (Sub.cons (s := 18) rfl (Sub.cons (s := 19) rfl (Sub.cons (s := 20) rfl (Sub.cons (s := 21) rfl (Sub.cons (s := 22) rfl (Sub.cons (s := 23) rfl (Sub.cons (s := 24) rfl (Sub.nil _)))))))))))))))) ?_
      rintro m ρ' B' H' ⟨n, ls, lg, l, A, c, B2, ⟨hst, hnl, hrun, hll, hBle⟩, rfl, rfl, rfl, rfl⟩
      have hrl := run_le hrun
      obtain ⟨n, rfl⟩ : ∃ k, n = k + 1 := ⟨n - 1, by omega⟩
      refine Cx.block ?_
      refine Cx.seq (fun K9 k9 => ?_)
      refine Cx.region ?_
      refine Lx.y (mv rfl) rfl ?_
      refine Lx.y (mv rfl) rfl ?_
      refine Lx.y (nilc rfl) rfl ?_
      refine Lx.y (fa' fo115_2 rfl) rfl ?_
      refine Lx.y (ld Try.underlying3 rfl rfl rfl) rfl ?_
      refine Lx.y (Yx.val (add rfl rfl (by first | exact wrap64 (by omega) (by omega) | rfl)) (show _ = i64 ((ls + 1 : Nat) : Int) from rfl)) rfl ?_
      refine Lx.co rfl rfl rfl (Read_ct d db ((ls + 1 : Nat) : Int) _ hF) ((show _ = dkH db d * (row jb 115 [.pointer (some ⟨db, 0, none⟩), i64 most, i64 ((ls : Nat) : Int), i64 ((lg : Nat) : Int), .slice A l.length c] * (sbuf 74 4 A l.length c (l.flatMap rcc) * R)) by ac_rfl)) rfl ?_
      refine Lx.y (mv rfl) rfl ?_
      refine Lx.y (ext rfl rfl) rfl ?_
      refine Lx.y (ext rfl rfl) rfl ?_
      refine Lx.y (asg rfl) rfl ?_
      refine Lx.y (asg rfl) rfl ?_
      refine Lx.nil ?_
      refine Xx.tn (k9 _ _ _ _ ?_)
      refine Cx.seq (fun K10 k10 => ?_)
      refine Cx.seq (fun K11 k11 => ?_)
      refine Cx.region ?_
      refine Lx.y (mv rfl) rfl ?_
      refine Lx.y (neI rfl rfl) rfl ?_
      refine Lx.nil ?_
      refine Xx.tn (k11 _ _ _ _ ?_)
      refine Cx.condN rfl (fun h12 => ?_) (fun h12 => ?_)
      · skip
        have he := h12
        have hnone : findM ((ls + 1 : Nat) : Int) d.abs.fs = none := by
          unfold errM at he
          rw [if_neg (by rw [show d.abs.dead = d.dead from rfl, hdd]; decide)] at he
          cases hq : findM ((ls + 1 : Nat) : Int) d.abs.fs with
          | none => rfl
          | some f => rw [hq] at he; exact absurd rfl he
        have hfin : (openF d.abs.fs (d.abs.fs.length + 1) ([], 0, 0)) = (l, ls, lg) := by rw [← hst]; unfold openF; rw [hnone]
        refine Cx.seq (fun K13 k13 => ?_)
        refine Cx.region ?_
        refine Lx.y (mv rfl) rfl ?_
        refine Lx.y (asg rfl) rfl ?_
        refine Lx.y (asg rfl) rfl ?_
        refine Lx.nil ?_
        refine Xx.tn (k13 _ _ _ _ ?_)
        refine Cx.ret ?_
        refine Xx.tr ?_
        refine Xx.br ?_
        refine Xx.tr ?_
        refine Xx.br ?_
        exact Xx.ret2 rfl rfl rfl ⟨jb, A, c, rfl, rfl⟩ hBle (by rw [hfin]; unfold jnH jcs; ac_rfl)
      · skip
        have he := h12
        obtain ⟨_, f, hff, _, hfm⟩ := file_ok he
        have hsome : findM ((ls + 1 : Nat) : Int) d.abs.fs = some f.m := by
          have := findF_m ((ls + 1 : Nat) : Int) d.fs
          rw [hff] at this
          exact this.symm
        have hfs := hsz _ (findM_mem hsome).1
        obtain ⟨fr, hfr⟩ : ∃ fr, fr = Fr2.scanL f.m.now := ⟨_, rfl⟩
        have hfrl : fr.length ≤ 1048576 := by
          have := Fr2.scanF_len f.m.now (f.m.now.length + 1) 0 (by omega)
          rw [hfr]; unfold Fr2.scanL; omega
        have hrun2 : ∀ k, k < ls + 1 → ((k + 1 : Nat) : Int) ∈ d.abs.fs.map (·.n) := fun k hk => by
          by_cases e : k = ls
          · rw [e]; obtain ⟨g1, g2⟩ := findM_mem hsome; exact List.mem_map.2 ⟨f.m, g1, g2⟩
          · exact hrun k (by omega)
        have hls2 := run_le hrun2
        rw [if_pos he, hfm]
        refine Cx.skip ?_
        refine Xx.tn (k10 _ _ _ _ ?_)
        refine Cx.seq (fun K14 k14 => ?_)
        refine Cx.region ?_
        refine Lx.y (mv rfl) rfl ?_
        refine Lx.y (nilc rfl) rfl ?_
        refine Lx.y (fa' fo115_2 rfl) rfl ?_
        refine Lx.y (ld Try.underlying3 rfl rfl rfl) rfl ?_
        refine Lx.y (Yx.val (add rfl rfl (by first | exact wrap64 (by omega) (by omega) | rfl)) (show _ = i64 ((ls + 1 : Nat) : Int) from rfl)) rfl ?_
        refine Lx.y (nilc rfl) rfl ?_
        refine Lx.y (fa' fo115_2 rfl) rfl ?_
        refine Lx.st (stO Try.underlying3 sz3 rfl rfl rfl (by show 2 < 5; omega) rfl) ?_
        refine Lx.nil ?_
        refine Xx.tn (k14 _ _ _ _ ?_)
        refine Cx.seq (fun K15 k15 => ?_)
        refine Cx.region ?_
        refine Lx.y (mv rfl) rfl ?_
        refine Lx.cb rfl rfl rfl (Fr3.Scan_ct f.m.now _ hfs) rfl ?_
        rintro v3 B3 ⟨Af, cf, rfl, hRo, hcf⟩ hB3
        rw [← hfr] at hRo ⊢
        have hBle3 := Frag.le_trans hBle hB3
        have hRf : 0 < fr.length → RoS B3 3 Af fr.length (fr.flatMap fmc) := fun _ => hRo
        refine Lx.y (mv rfl) rfl ?_
        refine Lx.y (ext rfl rfl) rfl ?_
        refine Lx.y (ext rfl rfl) rfl ?_
        refine Lx.y (asg rfl) rfl ?_
        refine Lx.y (asg rfl) rfl ?_
        refine Lx.nil ?_
        refine Xx.tn (k15 _ _ _ _ ?_)
        refine Cx.seq (fun K17 k17 => ?_)
        refine Cx.region ?_
        refine Lx.y (mv rfl) rfl ?_
        refine Lx.y (mv rfl) rfl ?_
        refine Lx.y (lenS Try.underlying9 rfl) rfl ?_
        refine Lx.y (nilc rfl) rfl ?_
        refine Lx.y (fa' fo115_3 rfl) rfl ?_
        refine Lx.st (stO Try.underlying3 sz3 rfl rfl rfl (by show 3 < 5; omega) rfl) ?_
        refine Lx.nil ?_
        refine Xx.tn (k17 _ _ _ _ ?_)
        refine Cx.seq (fun K18 k18 => ?_)
        refine Cx.seq (fun K19 k19 => ?_)
        refine Cx.region ?_
        refine Lx.y (mv rfl) rfl ?_
        refine Lx.y (lenV (ty' := 0) Try.underlying116 rfl) rfl ?_
        refine Lx.y (mv rfl) rfl ?_
        refine Lx.nil ?_
        refine Xx.tn (k19 _ _ _ _ ?_)
        refine Cx.block ?_
        refine Cx.loopK (Sub.cons (s := 0) rfl (Sub.cons (s := 1) rfl (Sub.cons (s := 6) rfl (Sub.cons (s := 7) rfl (Sub.cons (s := 8) rfl (Sub.cons (s := 9) rfl (Sub.cons (s := 10) rfl (Sub.cons (s := 13) rfl (Sub.cons (s := 14) rfl (Sub.cons (s := 15) rfl (Sub.cons (s := 16) rfl (Sub.cons (s := 17) rfl (Sub.cons (s := 18) rfl (Sub.cons (s := 19) rfl (Sub.cons (s := 20) rfl (Sub.cons (s := 21) rfl (Sub.cons (s := 22) rfl (Sub.cons (s := 23) rfl (Sub.cons (s := 24) rfl (Sub.cons (s := 25) rfl (Sub.cons (s := 26) rfl (Sub.cons (s := 27) rfl (Sub.cons (s := 28) rfl (Sub.cons (s := 29) rfl (Sub.cons (s := 30) rfl (Sub.cons (s := 31) rfl (Sub.cons (s := 32) rfl (Sub.cons (s := 33) rfl (Sub.cons (s := 34) rfl (Sub.cons (s := 35) rfl (Sub.cons (s := 36) rfl (Sub.cons (s := 38) rfl (Sub.cons (s := 39) rfl (Sub.cons (s := 40) rfl (Sub.cons (s := 41) rfl (Sub.cons (s := 42) rfl (Sub.cons (s := 43) rfl (Sub.cons (s := 44) rfl (Sub.cons (s := 45) rfl (Sub.cons (s := 46) rfl (Sub.cons (s := 47) rfl (Sub.cons (s := 48) rfl (Sub.cons (s := 49) rfl (Sub.cons (s := 50) rfl (Sub.cons (s := 51) rfl (Sub.cons (s := 52) rfl (Sub.cons (s := 53) rfl (Sub.cons (s := 54) rfl (Sub.cons (s := 55) rfl (Sub.cons (s := 56) rfl (Sub.nil _))))))))))))))))))))))))))))))))))))))))))))))))))) (fun m ρ' B' H' => ∃ (i : Nat) (A : Option Addr) (c : Nat), (i ≤ fr.length) ∧ m = fr.length - i ∧ ρ' = [(57, i64 (i : Int))] ∧ B3 = B' ∧ row jb 115 [.pointer (some ⟨db, 0, none⟩), i64 most, i64 ((ls + 1 : Nat) : Int), i64 ((f.m.now.length : Nat) : Int), .slice A (l ++ recF (ls + 1) (fr.take i)).length c] * (sbuf 74 4 A (l ++ recF (ls + 1) (fr.take i)).length c ((l ++ recF (ls + 1) (fr.take i)).flatMap rcc) * (dkH db d * R)) = H') ⟨0, A, c, Nat.zero_le _, rfl, rfl, rfl, (by rw [List.take_zero]; show row jb _ [_, _, _, _, .slice A (l ++ []).length c] * (sbuf _ 4 A (l ++ []).length c ((l ++ []).flatMap rcc) * _) = _; rw [List.append_nil]; ac_rfl)⟩ (Sub.cons (s := 57) rfl (Sub.cons (s := 0) rfl (Sub.cons (s := 1) rfl (Sub.cons (s := 6) rfl (Sub.cons (s := 7) rfl (Sub.cons (s := 8) rfl (Sub.cons (s := 9) rfl (Sub.cons (s := 10) rfl (Sub.cons (s := 13) rfl (Sub.cons (s := 14) rfl (Sub.cons (s := 15) rfl (Sub.cons (s := 16) rfl (Sub.cons (s := 17) rfl (Sub.cons (s := 18) rfl (Sub.cons (s := 19) rfl (Sub.cons (s := 20) rfl (Sub.cons (s := 21) rfl (Sub.cons (s := 22) rfl (Sub.cons (s := 23) rfl (Sub.cons (s := 24) rfl (Sub.cons (s := 25) rfl (Sub.cons (s := 26) rfl (Sub.cons (s := 27) rfl (Sub.cons (s := 28) rfl (Sub.cons (s := 29) rfl (Sub.cons (s := 30) rfl (Sub.cons (s := 31) rfl (Sub.cons (s := 32) rfl (Sub.cons (s := 33) rfl (Sub.cons (s := 34) rfl (Sub.cons (s := 35) rfl (Sub.cons (s := 36) rfl (Sub.cons (s := 38) rfl (Sub.cons (s := 39) rfl (Sub.cons (s := 40) rfl (Sub.cons (s := 41) rfl (Sub.cons (s := 42) rfl (Sub.cons (s := 43) rfl (Sub.cons (s := 44) rfl (Sub.cons (s := 45) rfl (Sub.cons (s := 46) rfl (Sub.cons (s := 47) rfl (Sub.cons (s := 48) rfl (Sub.cons (s := 49) rfl (Sub.cons (s := 50) rfl (Sub.cons (s := 51) rfl (Sub.cons (s := 52) rfl (Sub.cons (s := 53) rfl (Sub.cons (s := 54) rfl (Sub.cons (s := 55) rfl (Sub.cons (s := 56) rfl (Sub.nil _)))))))))))))))))))))))))))))))))))))))))))))))))))) ?_
        rintro m ρ' B' H' ⟨i, A, c, hi, rfl, rfl, rfl, rfl⟩
        refine Cx.seq (fun K20 k20 => ?_)
        refine Cx.region ?_
        refine Lx.y (lss rfl rfl) rfl ?_
        refine Lx.nil ?_
        refine Xx.tn (k20 _ _ _ _ ?_)
        refine Cx.seq (fun K21 k21 => ?_)
        refine Cx.condD rfl (fun h22 => ?_) (fun h22 => ?_)
        · skip
          have hlt := h22
          have hlt : i < fr.length := by omega
          obtain ⟨b0, o0, cs0, et0, fz0, hA0, hB0, hc0⟩ := DkF.flat_at fmc_len hRo hlt
          obtain ⟨x, hx⟩ : ∃ x, x = fr[i] := ⟨_, rfl⟩
          rw [← hx] at hc0
          have hsn : l ++ recF (ls + 1) (fr.take (i + 1)) = (l ++ recF (ls + 1) (fr.take i)) ++ [(⟨ls + 1, x.pos, x.body, x.good⟩ : Rc)] := by rw [List.take_succ_eq_append_getElem hlt, recF_snoc, hx, List.append_assoc]
          have hrl2 : (l ++ recF (ls + 1) (fr.take i)).length = l.length + i := by rw [List.length_append, recF_len, List.length_take]; omega
          refine Cx.skip ?_
          refine Xx.tn (k21 _ _ _ _ ?_)
          refine Cx.seq (fun K23 k23 => ?_)
          refine Cx.block ?_
          refine Cx.seq (fun K24 k24 => ?_)
          refine Cx.region ?_
          refine Lx.y (Yx.val (ia (b := b0) (o := o0) Try.underlying116 sz119 (by rw [← hA0]; rfl) rfl (Int.toNat_natCast _) (by omega) (by omega)) rfl) rfl ?_
          refine Lx.y (ldA Try.underlying119 rfl sz119 rfl (Cells.base (n := 3) hB0 hc0) rfl) rfl ?_
          refine Lx.new (allocO ti119) rfl (fun bf => ?_)
          refine Lx.st (stA (d := .bool) sz119 rfl rfl rfl rfl (by show 0 + 3 ≤ 3; omega) rfl) ?_
          refine Lx.nil ?_
          refine Xx.tn (k24 _ _ _ _ ?_)
          refine Cx.drawn (by kernel_rfl) ?_
          refine Dx.p (i := 0) rfl (by kernel_rfl) (mv rfl) rfl ?_
          refine Dx.p (i := 1) rfl (by kernel_rfl) (mv rfl) rfl ?_
          refine Dx.p (i := 2) rfl (by kernel_rfl) (nilc rfl) rfl ?_
          refine Dx.p (i := 3) rfl (by kernel_rfl) (fa' fo115_4 rfl) rfl ?_
          refine Dx.r (i := 4) rfl (by kernel_rfl) (ld Try.underlying113 rfl rfl rfl) rfl ?_
          refine Dx.p (i := 5) rfl (by kernel_rfl) (mv rfl) rfl ?_
          refine Dx.p (i := 6) rfl (by kernel_rfl) (nilc rfl) rfl ?_
          refine Dx.p (i := 7) rfl (by kernel_rfl) (fa' fo115_2 rfl) rfl ?_
          refine Dx.r (i := 8) rfl (by kernel_rfl) (ld Try.underlying3 rfl rfl rfl) rfl ?_
          refine Dx.p (i := 9) rfl (by kernel_rfl) (fa' fo119_0 rfl) rfl ?_
          refine Dx.r (i := 10) rfl (by kernel_rfl) (ld Try.underlying3 rfl rfl rfl) rfl ?_
          refine Dx.p (i := 11) rfl (by kernel_rfl) (fa' fo119_1 rfl) rfl ?_
          refine Dx.r (i := 12) rfl (by kernel_rfl) (ld Try.underlying9 rfl rfl rfl) rfl ?_
          refine Dx.p (i := 13) rfl (by kernel_rfl) (fa' fo119_2 rfl) rfl ?_
          refine Dx.r (i := 14) rfl (by kernel_rfl) (ld Try.underlying4 rfl rfl rfl) rfl ?_
          refine Dx.p (i := 15) rfl (by kernel_rfl) (bld ti74 pl74 rfl rfl) rfl ?_
          refine Dx.one (i := 16) (by kernel_rfl) ?_
          refine Dstep.o (i := 16) rfl (bslA Try.underlying113 ti74 rfl rfl (by decide)) rfl (fun v B' H' hΦ hB => ?_)
          obtain ⟨bv, rfl, hBB, rfl⟩ := hΦ; have hBB2 := hBB.symm; subst hBB2; clear hB
          refine ⟨JOk.yes (JOk.yes (JOk.yes (JOk.yes (JOk.yes (JOk.top) (ld Try.underlying113 rfl rfl rfl)) (ld Try.underlying3 rfl rfl rfl)) (ld Try.underlying3 rfl rfl rfl)) (ld Try.underlying9 rfl rfl rfl)) (ld Try.underlying4 rfl rfl rfl), ?_⟩
          refine Dx.one (i := 17) (by kernel_rfl) ?_
          refine Dstep.o (i := 17) rfl (appN (A := A) ((l ++ recF (ls + 1) (fr.take i)).length + 1) (rcc ⟨ls + 1, x.pos, x.body, x.good⟩) (((l ++ recF (ls + 1) (fr.take i)) ++ [(⟨ls + 1, x.pos, x.body, x.good⟩ : Rc)]).flatMap rcc) Try.underlying113 Try.underlying113 ti74 rfl rfl rfl rfl rfl (by omega) (by omega) rfl (by simp only [List.flatMap_append, List.flatMap_cons, List.flatMap_nil, List.append_nil])) rfl (fun v B' H' hΦ hB => ?_)
          obtain ⟨A2, c2, rfl, hA2, hl2, hc2, hBB, rfl⟩ := hΦ
          have hBB2 := hBB.symm
          subst hBB2
          refine ⟨JOk.yes (JOk.yes (JOk.yes (JOk.yes (JOk.edge (JOk.top) (by kernel_rfl)) (ld Try.underlying3 rfl rfl rfl)) (ld Try.underlying3 rfl rfl rfl)) (ld Try.underlying9 rfl rfl rfl)) (ld Try.underlying4 rfl rfl rfl), ?_⟩
          refine Dx.p (i := 18) rfl (by kernel_rfl) (nilc rfl) rfl ?_
          refine Dx.p (i := 19) rfl (by kernel_rfl) (fa' fo115_4 rfl) rfl ?_
          refine Dx.one (i := 20) (by kernel_rfl) ?_
          refine Dstep.o0 (i := 20) rfl (stO Try.underlying113 sz113 rfl rfl rfl (by show 4 < 5; omega) rfl) (fun v B' H' hΦ hB => ?_)
          obtain ⟨hBB, rfl⟩ := hΦ; have hBB2 := hBB.symm; subst hBB2; clear hB v
          refine ⟨JOk.edge (JOk.edge (JOk.edge (JOk.edge (JOk.edge (JOk.top) (by kernel_rfl)) (by kernel_rfl)) (by kernel_rfl)) (by kernel_rfl)) (by kernel_rfl), ?_⟩
          refine Dx.done (by kernel_rfl) ?_
          refine Xx.bn ?_
          refine Xx.tn (k23 _ _ _ _ ?_)
          refine Xx.dropB bv (Xx.dropB bf ?_)
          have hsl : (l ++ recF (ls + 1) (fr.take (i + 1))).length = (l ++ recF (ls + 1) (fr.take i)).length + 1 := by rw [hsn, List.length_append]; rfl
          refine Cx.region ?_
          refine Lx.y (Yx.val (add rfl rfl (by first | exact wrap64 (by omega) (by omega) | rfl)) (show _ = i64 ((i + 1 : Nat) : Int) from rfl)) rfl ?_
          refine Lx.y (mv rfl) rfl ?_
          refine Lx.nil ?_
          exact Xx.againK ⟨i + 1, A2, c2, hlt, rfl, rfl, rfl, (by rw [hsl, hsn])⟩ (by omega) (Sub.cons (s := 57) rfl (Sub.cons (s := 0) rfl (Sub.cons (s := 1) rfl (Sub.cons (s := 6) rfl (Sub.cons (s := 7) rfl (Sub.cons (s := 8) rfl (Sub.cons (s := 9) rfl (Sub.cons (s := 10) rfl (Sub.cons (s := 13) rfl (Sub.cons (s := 14) rfl (Sub.cons (s := 15) rfl (Sub.cons (s := 16) rfl (Sub.cons (s := 17) rfl (Sub.cons (s := 18) rfl (Sub.cons (s := 19) rfl (Sub.cons (s := 20) rfl (Sub.cons (s := 21) rfl (Sub.cons (s := 22) rfl (Sub.cons (s := 23) rfl (Sub.cons (s := 24) rfl (Sub.cons (s := 25) rfl (Sub.cons (s := 26) rfl (Sub.cons (s := 27) rfl (Sub.cons (s := 28) rfl (Sub.cons (s := 29) rfl (Sub.cons (s := 30) rfl (Sub.cons (s := 31) rfl (Sub.cons (s := 32) rfl (Sub.cons (s := 33) rfl (Sub.cons (s := 34) rfl (Sub.cons (s := 35) rfl (Sub.cons (s := 36) rfl (Sub.cons (s := 38) rfl (Sub.cons (s := 39) rfl (Sub.cons (s := 40) rfl (Sub.cons (s := 41) rfl (Sub.cons (s := 42) rfl (Sub.cons (s := 43) rfl (Sub.cons (s := 44) rfl (Sub.cons (s := 45) rfl (Sub.cons (s := 46) rfl (Sub.cons (s := 47) rfl (Sub.cons (s := 48) rfl (Sub.cons (s := 49) rfl (Sub.cons (s := 50) rfl (Sub.cons (s := 51) rfl (Sub.cons (s := 52) rfl (Sub.cons (s := 53) rfl (Sub.cons (s := 54) rfl (Sub.cons (s := 55) rfl (Sub.cons (s := 56) rfl (Sub.nil _))))))))))))))))))))))))))))))))))))))))))))))))))))
        · skip
          have hge := h22
          obtain rfl : i = fr.length := by omega
          rw [List.take_length]
          refine Cx.exit ?_
          refine Xx.te ?_
          refine Xx.te ?_
          refine Xx.bh ?_
          refine Xx.tn (k18 _ _ _ _ ?_)
          refine Cx.seq (fun K25 k25 => ?_)
          refine Cx.region ?_
          refine Lx.y (mv rfl) rfl ?_
          refine Lx.y (mv rfl) rfl ?_
          refine Lx.y (lenS Try.underlying9 rfl) rfl ?_
          refine Lx.y (lss rfl rfl) rfl ?_
          refine Lx.nil ?_
          refine Xx.tn (k25 _ _ _ _ ?_)
          refine Cx.condD rfl (fun h26 => ?_) (fun h26 => ?_)
          · skip
            have hend := h26
            have hfin : (openF d.abs.fs (d.abs.fs.length + 1) ([], 0, 0)) = (l ++ recF (ls + 1) fr, ls + 1, f.m.now.length) := by rw [← hst]; unfold openF; rw [hsome]; simp only [← hfr]; rw [if_pos (by omega)]
            refine Cx.seq (fun K27 k27 => ?_)
            refine Cx.region ?_
            refine Lx.y (mv rfl) rfl ?_
            refine Lx.y (asg rfl) rfl ?_
            refine Lx.y (asg rfl) rfl ?_
            refine Lx.nil ?_
            refine Xx.tn (k27 _ _ _ _ ?_)
            refine Cx.ret ?_
            refine Xx.br ?_
            refine Xx.tr ?_
            refine Xx.br ?_
            exact Xx.ret2 rfl rfl rfl ⟨jb, A, c, rfl, rfl⟩ hBle3 (by rw [hfin]; unfold jnH jcs; ac_rfl)
          · skip
            have hend := h26
            have hst2 : openF d.abs.fs n (l ++ recF (ls + 1) fr, ls + 1, f.m.now.length) = (openF d.abs.fs (d.abs.fs.length + 1) ([], 0, 0)) := by rw [← hst]; conv => rhs; unfold openF; rw [hsome]; simp only [← hfr]; rw [if_neg (by omega)]
            refine Cx.skip ?_
            refine Xx.bn ?_
            exact Xx.againK ⟨n, ls + 1, f.m.now.length, l ++ recF (ls + 1) fr, A, c, _, ⟨hst2, by omega, hrun2, by rw [List.length_append, recF_len]; omega, hBle3⟩, rfl, rfl, rfl, rfl⟩ (by omega) (Sub.cons (s := 0) rfl (Sub.cons (s := 1) rfl (Sub.cons (s := 6) rfl (Sub.cons (s := 13) rfl (Sub.cons (s := 14) rfl (Sub.cons (s := 15) rfl (Sub.cons (s := 16) rfl (Sub.cons (s := 17) rfl (Sub.cons (s := 18) rfl (Sub.cons (s := 19) rfl (Sub.cons (s := 20) rfl (Sub.cons (s := 21) rfl (Sub.cons (s := 22) rfl (Sub.cons (s := 23) rfl (Sub.cons (s := 24) rfl (Sub.nil _))))))))))))))))
end Jn2
end Go.Proofs.Ytgcebieihmlaoaa
