import Derived.Test.YtpdeedplgmbopaaGreatDoorZ4
import Derived.Test.YtpdeedplgmbopaaGreatDoorZ19
import Derived.Test.YtpdeedplgmbopaaGreatDoorZ12
set_option linter.unusedSimpArgs false
set_option linter.unusedVariables false
/- Texts of mine, joined, their names in short: VT VO VMove VDel VPut. -/
section
namespace Go.Proofs.YtpdeedplgmbopaaGreatDoor
open Go.RowKit
open _root_.Go.Proofs.Tryz
section
variable {w0 w : World} {F : HP} {v fv : Value} {l : List Int} {x n key c r : Int} {P : Int → Bool} {given : Bool}
theorem Zo (H : V w0 w F) (hr : jO w0 F .i32 v l) (hf : ∀ W r, V w0 W F → zo prog fv [.int .i32 r] W fun u W' => u = .bool (!P r) ∧ V w0 W' F) : jf prog 40 #[v, fv] w fun u w' => u = .int .i64 (if oJ P l 0 < l.length then oJ P l 0 else -1) ∧ V w0 w' F := by
 have hl9 : l.length ≤ 9223372036854775807 := by have := (hr _ H).open; obtain ⟨a, c, e, h3, h4, _⟩ := this; omega
 refine qo func40 ntmps40 ?_
 refine kH O (aI (bI O (aV (gZ (hr _ (H)) ah O) (bW O (iR (bf ?_))))))
 refine iy [(0, _), (1, _), (7, _)] (fun (i : Int) => [(8, .int .i64 i)]) (fun (i : Int) W => ((0 ≤ i ∧ i ≤ l.length) ∧ oJ P l i = oJ P l 0) ∧ V w0 W F) (fun (i : Int) => (l.length - i).toNat) (0) wW lH ⟨⟨by omega, O⟩, H⟩ ?_
 rintro i w1 ⟨⟨hi, hE⟩, HL⟩
 dsimp only [List.cons_append, List.nil_append]
 refine jg (aV (gG O O) (rW (bg O (fun h1 => ?_) (fun h1 => ?_))))
 ·(try simp only [Z] at h1)
  refine gy (aI (bf (bI O (fO O (bI O (jU O O ?_))))))
  obtain ⟨bv, ov, cv, ev⟩ := gB.qN (hr _ (HL)) (by omega)
  cases ev
  refine aV (dI ah bP O O (by omega)) ?_
  refine aV (dW (bV bC O) O (by first | exact gB.lN (hr _ (HL)) (by omega) | exact gB.uP (hr _ (HL)) (by omega) | exact gB.wO (hr _ (HL)) (by omega))) ?_
  refine kV (uF O O (hf _ (l.getD i.toNat 0) HL)) ?_
  rintro _ w2 ⟨rfl, H2⟩
  refine iW O (fun h2 => ?_) (fun h2 => ?_)
  ·(try simp only [Z] at h2)
   have hP : ¬ P (l.getD i.toNat 0) = true := by have h9 := h2; simpa using h9
   refine bI O (fP O (aN (aC (aC (aN (aC (dL results40 O ?_)))))))
   exact ⟨by rw [← hE, qF hi.1 (by omega) hP, if_pos (by omega)], H2⟩
  ·(try simp only [Z] at h2)
   have hP : P (l.getD i.toNat 0) = true := by have h9 := h2; simpa using h9
   refine bU (aH (aU (aF (aV (fH O O (by omega)) (bW O (bT ?_))))))
   refine dN (i + 1) ?_ ?_ ?_ ?_
   ·exact lH
   ·exact wW
   ·(try dsimp only)
    first | done | exact ⟨⟨by omega, (yJ hi.1 (by omega) hP).symm.trans hE⟩, H2⟩
   ·(try dsimp only); omega
 ·(try simp only [Z] at h1)
  refine dR (aP (aP (bH (aU (jS O (dL results40 O ?_))))))
  exact ⟨by rw [← hE, mO (by omega), if_neg (by omega)], HL⟩
theorem Zp (H : V w0 w F) (hT : Bq w0) : jf prog 41 #[.int .i32 r] w fun u w' => u = .bool (!(jc r == 0)) ∧ V w0 w' F := by
  refine jE func41 ntmps41 ?_
  refine kH O (bI O (dX O func14 (tu H hT) ?_))
  rintro _ w1 ⟨rfl, H1⟩
  refine aV (fF O O) (fP O (dL results41 O ?_))
  exact ⟨O, H1⟩
theorem adO (h : key = 119 ∨ key = 87 ∨ key = 98 ∨ key = 66 ∨ key = 101 ∨ key = 69) : qG l x key c n = DV l x key n := by
  unfold qG
  rw [if_neg (by omega), if_neg (by omega), if_neg (by omega), if_neg (by omega), if_neg (by omega), if_neg (by omega), if_neg (by omega), if_neg (by omega)]
theorem af4 (h : ¬ (key = 119 ∨ key = 87 ∨ key = 98 ∨ key = 66 ∨ key = 101 ∨ key = 69)) : DV l x key n = (0, false, false) := by
  unfold DV
  rw [if_neg (by omega), if_neg (by omega), if_neg (by omega)]
theorem Es (H : V w0 w F) (hr : jO w0 F .i32 v l) (hT : Bq w0) (hl8 : l.length ≤ 4611686018427387904) (hn : n ≤ 9223372036854775807) : jf prog 11 #[v, .int .i64 x, .int .i32 key, .int .i32 c, .int .i64 n, .bool given] w fun u w' => u = abF (CO l x key c n) ∧ V w0 w' F := by
 obtain ⟨y, hy⟩ : ∃ y, y = min (max x 0) (l.length : Int) := ⟨_, rfl⟩
 obtain ⟨m, hm⟩ : ∃ m, m = max n 1 := ⟨_, rfl⟩
 unfold CO
 rw [← hy, ← hm]
 have hy2 : 0 ≤ y ∧ y ≤ l.length := by omega
 have hm2 : 1 ≤ m ∧ m ≤ 9223372036854775807 := by omega
 refine xqR func11 ntmps11 ?_
 dsimp only [Dv, Nat.reduceAdd]
 refine jg (gW O (gW O (fO O (bI O (aV (Ov O O) (bW O (aV (gZ (hr _ (H)) ah O) (aV (NG (mW O O) (congrArg (Value.int .i64) hy.symm)) (fO O (bI O (aV (NG (Ov O O) (congrArg (Value.int .i64) hm.symm)) (tX O (jg (dX O func39 (Zn H) ?_))))))))))))))
 rintro _ w1 ⟨b1, q1, q2, q3, q4, q5, q6, rfl, H1⟩
 refine bW O (aV (Hu (H1) tH bC zeroValue85 O O) (bW O (oZ O O (oZ O O (gW O (fO O (bI O (iW O (fun h1 => ?_) (fun h1 => ?_)))))))))
 ·(try simp only [Z] at h1)
  try (exfalso; first | contradiction | omega)
  all_goals
   have hk : key = 119 ∨ key = 87 ∨ key = 98 ∨ key = 66 ∨ key = 101 ∨ key = 69 := Decidable.byContradiction fun hc => by have h9 := h1; rw [Xu hc] at h9; exact absurd h9 (by decide)
   refine bI O (jU O O (bW O (kV (uF O O (Xw H1.f2 hk hT (fun W HW => hr W HW.right) hl8 hy2 hm2.2 _)) ?_)))
   rintro _ w2 ⟨rfl, H2⟩
   refine oZ O O (oZ O O (oZ O O (gW O (gW O (fP O (aC ?_))))))
   refine dU (.inl O) qM O O O ?_
   exact ⟨by rw [adO hk]; rfl, H2.right.right⟩
 ·(try simp only [Z] at h1)
  try (exfalso; first | contradiction | omega)
  all_goals
   have hk : ¬ (key = 119 ∨ key = 87 ∨ key = 98 ∨ key = 66 ∨ key = 101 ∨ key = 69) := fun hc => by have h9 := h1; rw [Xv hc] at h9; exact absurd h9 (by decide)
   refine gy (aI (bI O (iR (bf (jg (aV (fB O O) (fO O (bg O (fun h2 => ?_) (fun h2 => ?_)))))))))
   ·(try simp only [Z] at h2)
    try (exfalso; first | contradiction | omega)
    all_goals
     refine aI (bI O (aV (fB O O) (iW O (fun h3 => ?_) (fun h3 => ?_))))
     ·(try simp only [Z] at h3)
      try (exfalso; first | contradiction | omega)
      all_goals
       refine jg (gW O (gW O (fP O (aC (aN (aC ?_))))))
       refine dU (.inl O) qM O O O ?_
       exact ⟨by unfold qG; rw [if_pos (by omega), if_pos (by omega)]; rfl, H1.right.right⟩
     ·(try simp only [Z] at h3)
      try (exfalso; first | contradiction | omega)
      all_goals
       refine gy (bI O (jU O O (aV (mW O O) (aV (jJ O O (by omega)) (gW O (gW O (fP O (aN (aC ?_)))))))))
       refine dU (.inl O) qM O O O ?_
       exact ⟨by unfold qG; rw [if_pos (by omega), if_neg (by omega)]; rfl, H1.right.right⟩
   ·(try simp only [Z] at h2)
    try (exfalso; first | contradiction | omega)
    all_goals
     refine kE [(0, _), (1, _), (2, _), (3, _), (4, _), (40, _)] (fun (_ : Unit) => [(50, .bool (decide (key = 108 ∨ key = 32)))]) (fun (_ : Unit) W => V w0 W (jv (DN .i32) b1 (Iq q1 q2 q3 q4 q5 q6) • Nv q1 q2 q3 q4 q5 q6 • F)) sb6 ?_ ?_
     ·rintro _ w3 HJ
      dsimp only [List.cons_append, List.nil_append]
      refine bg O (fun h4 => ?_) (fun h4 => ?_)
      ·(try simp only [Z] at h4)
       try (exfalso; first | contradiction | omega)
       all_goals
        refine aI (bI O (bW O (aV (gZ (hr _ (HJ.right.right)) ah O) (aV (fB O O) (iW O (fun h5 => ?_) (fun h5 => ?_))))))
        ·(try simp only [Z] at h5)
         try (exfalso; first | contradiction | omega)
         all_goals
          refine jg (gW O (gW O (fP O (aC (aN (aC ?_))))))
          refine dU (.inl O) qM O O O ?_
          exact ⟨by unfold qG; rw [if_neg (by omega), if_pos (by omega), if_pos (by omega)]; rfl, HJ.right.right⟩
        ·(try simp only [Z] at h5)
         try (exfalso; first | contradiction | omega)
         all_goals
          refine gy (bI O (jU O O (aV (gZ (hr _ (HJ.right.right)) ah O) (bW O (aV (jJ O O (by omega)) (aV (mW O O) (aV (fH O O (by omega)) (gW O (gW O (fP O (aN (aC ?_))))))))))))
          refine dU (.inl O) qM O O O ?_
          exact ⟨by unfold qG; rw [if_neg (by omega), if_pos (by omega), if_neg (by omega)]; rfl, HJ.right.right⟩
      ·(try simp only [Z] at h4)
       try (exfalso; first | contradiction | omega)
       all_goals
        refine jg (aV (fB O O) (fO O (bg O (fun h6 => ?_) (fun h6 => ?_))))
        ·(try simp only [Z] at h6)
         try (exfalso; first | contradiction | omega)
         all_goals
          refine jg (gW O (gW O (fP O (aN (aC ?_)))))
          refine dU (.inl O) qM O O O ?_
          exact ⟨by unfold qG; rw [if_neg (by omega), if_neg (by omega), if_pos (by omega)]; rfl, HJ.right.right⟩
        ·(try simp only [Z] at h6)
         try (exfalso; first | contradiction | omega)
         all_goals
          refine jg (aV (fB O O) (fO O (bg O (fun h7 => ?_) (fun h7 => ?_))))
          ·(try simp only [Z] at h7)
           try (exfalso; first | contradiction | omega)
           all_goals
            refine bI O (aV (gZ (hr _ (HJ.right.right)) ah O) (gW O (gW O (fP O (aN (aC ?_))))))
            refine dU (.inl O) qM O O O ?_
            exact ⟨by unfold qG; rw [if_neg (by omega), if_neg (by omega), if_neg (by omega), if_pos (by omega)]; rfl, HJ.right.right⟩
          ·(try simp only [Z] at h7)
           try (exfalso; first | contradiction | omega)
           all_goals
            refine jg (aV (fB O O) (fO O (bg O (fun h8 => ?_) (fun h8 => ?_))))
            ·(try simp only [Z] at h8)
             try (exfalso; first | contradiction | omega)
             all_goals
              refine bI O (aV (jJ O O (by omega)) (bW O (aV (gZ (hr _ (HJ.right.right)) ah O) (aV (mW O O) (gW O (gW O (fP O (aN (aC ?_)))))))))
              refine dU (.inl O) qM O O O ?_
              exact ⟨by unfold qG; rw [if_neg (by omega), if_neg (by omega), if_neg (by omega), if_neg (by omega), if_neg (by omega), if_pos (by omega)]; rfl, HJ.right.right⟩
            ·(try simp only [Z] at h8)
             try (exfalso; first | contradiction | omega)
             all_goals
              refine jg (aV (fB O O) (fO O (bg O (fun h9 => ?_) (fun h9 => ?_))))
              ·(try simp only [Z] at h9)
               try (exfalso; first | contradiction | omega)
               all_goals
                refine bI O (dX O func40 (Zo (P := fun r => jc r == 0) HJ (fun W HW => hr _ (HW.right.right)) (fun W r HW => ⟨41, [], [], _, _, O, func41, O, O, Zp HW hT⟩)) ?_)
                rintro _ w4 ⟨rfl, H4⟩
                have hrb := yS (P := fun r => jc r == 0) (l := l) (x := 0) (by omega) (by omega)
                refine fO O ?_
                refine kE [] (fun (_ : Unit) => [(17, .int .i64 (oJ (fun r => jc r == 0) l 0))]) (fun (_ : Unit) W => V w0 W (jv (DN .i32) b1 (Iq q1 q2 q3 q4 q5 q6) • Nv q1 q2 q3 q4 q5 q6 • F)) (Sub.nil _) ?_ ?_
                ·rintro _ w5 HN
                 dsimp only [List.cons_append, List.nil_append]
                 refine bI O (gW O (gW O (fP O (aN (aC ?_)))))
                 refine dU (.inl O) qM O O O ?_
                 exact ⟨by unfold qG; rw [if_neg (by omega), if_neg (by omega), if_neg (by omega), if_neg (by omega), if_pos (by omega)]; rfl, HN.right.right⟩
                ·skip
                 refine bI O (aV (gG O O) (iW O (fun h10 => ?_) (fun h10 => ?_)))
                 ·(try simp only [Z] at h10)
                  try (exfalso; first | contradiction | omega)
                  all_goals
                   refine aF (bW O (aV (gZ (hr _ (H4.right.right)) ah O) (gW O (bT ?_))))
                   refine dG (()) ?_ ?_ ?_
                   ·exact (Sub.kJ O (by congr 1; by_cases hq : oJ (fun r => jc r == 0) l 0 < l.length <;> simp_all <;> omega) (Sub.nil _))
                   ·exact (Sub.nil _)
                   ·(try dsimp only)
                    first | done | exact H4.f2.f2
                 ·(try simp only [Z] at h10)
                  try (exfalso; first | contradiction | omega)
                  all_goals
                   refine bU ?_
                   refine dG (()) ?_ ?_ ?_
                   ·exact (Sub.kJ O (by congr 1; by_cases hq : oJ (fun r => jc r == 0) l 0 < l.length <;> simp_all <;> omega) (Sub.nil _))
                   ·exact (Sub.nil _)
                   ·(try dsimp only)
                    first | done | exact H4.f2.f2
              ·(try simp only [Z] at h9)
               try (exfalso; first | contradiction | omega)
               all_goals
                refine kE [(0, _), (1, _), (2, _), (3, _), (4, _), (40, _)] (fun (_ : Unit) => [(87, .bool (decide (key = 102 ∨ key = 70 ∨ key = 116 ∨ key = 84)))]) (fun (_ : Unit) W => V w0 W (jv (DN .i32) b1 (Iq q1 q2 q3 q4 q5 q6) • Nv q1 q2 q3 q4 q5 q6 • F)) sb6 ?_ ?_
                ·rintro _ w6 HK
                 dsimp only [List.cons_append, List.nil_append]
                 refine bg O (fun h11 => ?_) (fun h11 => ?_)
                 ·(try simp only [Z] at h11)
                  try (exfalso; first | contradiction | omega)
                  all_goals
                   refine bI O (jU O O (jU O O (dX O func42 (Za HK (fun W HW => hr _ (HW.right.right)) (by omega) (by omega) (by omega) (by omega)) ?_)))
                   rintro _ w7 ⟨rfl, H7⟩
                   refine oZ O O (oZ O O (oZ O O (gW O (gW O (fP O (aN (aC ?_)))))))
                   refine dU (.inl O) qM O O O ?_
                   exact ⟨by unfold qG; rw [if_neg (by omega), if_neg (by omega), if_neg (by omega), if_neg (by omega), if_neg (by omega), if_neg (by omega), if_pos (by omega)]; rfl, H7.right.right⟩
                 ·(try simp only [Z] at h11)
                  try (exfalso; first | contradiction | omega)
                  all_goals
                   refine jg (aV (fB O O) (fO O (bg O (fun h12 => ?_) (fun h12 => ?_))))
                   ·(try simp only [Z] at h12)
                    try (exfalso; first | contradiction | omega)
                    all_goals
                     refine bI O (bW O (dX O func43 (Va HK (fun W HW => hr _ (HW.right.right)) (by omega) (by omega)) ?_))
                     rintro _ w8 ⟨rfl, H8⟩
                     refine oZ O O (oZ O O (oZ O O (gW O (gW O (fP O (aN (aC ?_)))))))
                     refine dU (.inl O) qM O O O ?_
                     exact ⟨by unfold qG; rw [if_neg (by omega), if_neg (by omega), if_neg (by omega), if_neg (by omega), if_neg (by omega), if_neg (by omega), if_neg (by omega), if_pos (by omega)]; rfl, H8.right.right⟩
                   ·(try simp only [Z] at h12)
                    try (exfalso; first | contradiction | omega)
                    all_goals
                     refine bU (aH (aU (jg (gW O (gW O (fP O ?_))))))
                     refine dU (.inl O) qM O O O ?_
                     exact ⟨by unfold qG; rw [if_neg (by omega), if_neg (by omega), if_neg (by omega), if_neg (by omega), if_neg (by omega), if_neg (by omega), if_neg (by omega), if_neg (by omega), af4 hk]; rfl, HK.right.right⟩
                ·skip
                 refine jg (aV (fB O O) (fO O (bg O (fun h13 => ?_) (fun h13 => ?_))))
                 ·(try simp only [Z] at h13)
                  try (exfalso; first | contradiction | omega)
                  all_goals
                   refine bU ?_
                   refine dG (()) ?_ ?_ ?_
                   ·exact (Sub.kJ O (congrArg Value.bool (decide_eq_decide.2 (by omega))) (Sub.nil _))
                   ·exact sb6
                   ·(try dsimp only)
                    first | done | exact HJ.f2.f2
                 ·(try simp only [Z] at h13)
                  try (exfalso; first | contradiction | omega)
                  all_goals
                   refine jg (aV (fB O O) (fO O (bg O (fun h14 => ?_) (fun h14 => ?_))))
                   ·(try simp only [Z] at h14)
                    try (exfalso; first | contradiction | omega)
                    all_goals
                     refine bU ?_
                     refine dG (()) ?_ ?_ ?_
                     ·exact (Sub.kJ O (congrArg Value.bool (decide_eq_decide.2 (by omega))) (Sub.nil _))
                     ·exact sb6
                     ·(try dsimp only)
                      first | done | exact HJ.f2.f2
                   ·(try simp only [Z] at h14)
                    try (exfalso; first | contradiction | omega)
                    all_goals
                     refine jg (aV (fB O O) (fO O (bg O (fun h15 => ?_) (fun h15 => ?_))))
                     ·(try simp only [Z] at h15)
                      try (exfalso; first | contradiction | omega)
                      all_goals
                       refine bU ?_
                       refine dG (()) ?_ ?_ ?_
                       ·exact (Sub.kJ O (congrArg Value.bool (decide_eq_decide.2 (by omega))) (Sub.nil _))
                       ·exact sb6
                       ·(try dsimp only)
                        first | done | exact HJ.f2.f2
                     ·(try simp only [Z] at h15)
                      try (exfalso; first | contradiction | omega)
                      all_goals
                       refine aF (aV (fB O O) (gW O (bT ?_)))
                       refine dG (()) ?_ ?_ ?_
                       ·exact (Sub.kJ O (congrArg Value.bool (decide_eq_decide.2 (by omega))) (Sub.nil _))
                       ·exact sb6
                       ·(try dsimp only)
                        first | done | exact HJ.f2.f2
     ·skip
      refine jg (aV (fB O O) (fO O (bg O (fun h16 => ?_) (fun h16 => ?_))))
      ·(try simp only [Z] at h16)
       try (exfalso; first | contradiction | omega)
       all_goals
        refine bU ?_
        refine dG (()) ?_ ?_ ?_
        ·exact (Sub.kJ O (congrArg Value.bool (decide_eq_decide.2 (by omega))) (Sub.nil _))
        ·exact sb6
        ·(try dsimp only)
         first | done | exact H1.f2.f2
      ·(try simp only [Z] at h16)
       try (exfalso; first | contradiction | omega)
       all_goals
        refine aF (aV (fB O O) (gW O (bT ?_)))
        refine dG (()) ?_ ?_ ?_
        ·exact (Sub.kJ O (congrArg Value.bool (decide_eq_decide.2 (by omega))) (Sub.nil _))
        ·exact sb6
        ·(try dsimp only)
         first | done | exact H1.f2.f2
end
def Zq : ByteArray := ⟨#[102, 70, 116, 84]⟩
def wL (n : ByteArray) : ByteArray :=
  if n.toList = CP.toList then ⟨#[100, 68]⟩ else if n.toList = F8.toList then ⟨#[99, 67]⟩ else if n.toList = Il.toList then ⟨#[121, 89]⟩ else if n.toList = aay.toList then ⟨#[120, 88]⟩ else
  if n.toList = aaA.toList then ⟨#[115, 83]⟩ else if n.toList = aaz.toList then ⟨#[112, 80]⟩ else if n.toList = Xk.toList then ⟨#[105, 97, 73, 65]⟩ else if n.toList = Zb.toList then ⟨#[117, 85]⟩ else ⟨#[]⟩
namespace VM
variable (M : VM)
def tgt (l : List Int) (p : Int) (keys : List Int) (n : Int) : Int × Bool × Bool :=
  if keys.length = 0 then (0, false, false)
  else if keys.getD 0 0 = 96 then (M.at (if 1 < keys.length then keys.getD 1 0 else 0), false, decide (0 ≤ M.at (if 1 < keys.length then keys.getD 1 0 else 0) ∧ M.at (if 1 < keys.length then keys.getD 1 0 else 0) ≤ l.length))
  else if keys.getD 0 0 = 59 ∨ keys.getD 0 0 = 44 then (if M.fk = 0 then (0, false, false) else CO l p (if keys.getD 0 0 = 44 then bits .xor .i32 M.fk 32 else M.fk) M.fc n)
  else CO l p (keys.getD 0 0) (if 1 < keys.length then keys.getD 1 0 else 0) n
def sought (l : List Int) (p : Int) (keys : List Int) (n : Int) : VM :=
  if keys.length = 0 then M else if keys.getD 0 0 = 96 then M else if keys.getD 0 0 = 59 ∨ keys.getD 0 0 = 44 then M
  else if (CO l p (keys.getD 0 0) (if 1 < keys.length then keys.getD 1 0 else 0) n).2.2 = true ∧ keys.getD 0 0 ∈ EN Zq then { M with fk := keys.getD 0 0, fc := if 1 < keys.length then keys.getD 1 0 else 0 } else M
end VM
section
variable {w0 w : World} {F : HP} {c m e : Nat} {s : bQ} {name : ByteArray} {kv lv qv : Value} {keys l ks : List Int} {n p x q : Int} {g : Bool} {M M' : VM}
theorem Nw : jf prog 160 #[.string name] w fun v w' => v = .string (wL name) ∧ w = w' := by
 refine jE func160 ntmps160 ?_
 refine kH O (aI (bI O (iR (bf (jg (aV (eP O O) (fO O (bg O (fun h1 => ?_) (fun h1 => ?_)))))))))
 ·(try simp only [Z] at h1)
  refine jS O (aN (aC (dL sN O ?_)))
  refine ⟨congrArg Value.string ?_, O⟩
  unfold wL
  repeat (first | (rw [if_pos (by assumption)]; done) | rw [if_neg (by assumption)])
 ·(try simp only [Z] at h1)
  refine jg (aV (eP O O) (fO O (bg O (fun h2 => ?_) (fun h2 => ?_))))
  ·(try simp only [Z] at h2)
   refine jS O (aN (aC (dL sN O ?_)))
   refine ⟨congrArg Value.string ?_, O⟩
   unfold wL
   repeat (first | (rw [if_pos (by assumption)]; done) | rw [if_neg (by assumption)])
  ·(try simp only [Z] at h2)
   refine jg (aV (eP O O) (fO O (bg O (fun h3 => ?_) (fun h3 => ?_))))
   ·(try simp only [Z] at h3)
    refine jS O (aN (aC (dL sN O ?_)))
    refine ⟨congrArg Value.string ?_, O⟩
    unfold wL
    repeat (first | (rw [if_pos (by assumption)]; done) | rw [if_neg (by assumption)])
   ·(try simp only [Z] at h3)
    refine jg (aV (eP O O) (fO O (bg O (fun h4 => ?_) (fun h4 => ?_))))
    ·(try simp only [Z] at h4)
     refine jS O (aN (aC (dL sN O ?_)))
     refine ⟨congrArg Value.string ?_, O⟩
     unfold wL
     repeat (first | (rw [if_pos (by assumption)]; done) | rw [if_neg (by assumption)])
    ·(try simp only [Z] at h4)
     refine jg (aV (eP O O) (fO O (bg O (fun h5 => ?_) (fun h5 => ?_))))
     ·(try simp only [Z] at h5)
      refine jS O (aN (aC (dL sN O ?_)))
      refine ⟨congrArg Value.string ?_, O⟩
      unfold wL
      repeat (first | (rw [if_pos (by assumption)]; done) | rw [if_neg (by assumption)])
     ·(try simp only [Z] at h5)
      refine jg (aV (eP O O) (fO O (bg O (fun h6 => ?_) (fun h6 => ?_))))
      ·(try simp only [Z] at h6)
       refine jS O (aN (aC (dL sN O ?_)))
       refine ⟨congrArg Value.string ?_, O⟩
       unfold wL
       repeat (first | (rw [if_pos (by assumption)]; done) | rw [if_neg (by assumption)])
      ·(try simp only [Z] at h6)
       refine jg (aV (eP O O) (fO O (bg O (fun h7 => ?_) (fun h7 => ?_))))
       ·(try simp only [Z] at h7)
        refine jS O (aN (aC (dL sN O ?_)))
        refine ⟨congrArg Value.string ?_, O⟩
        unfold wL
        repeat (first | (rw [if_pos (by assumption)]; done) | rw [if_neg (by assumption)])
       ·(try simp only [Z] at h7)
        refine jg (aV (eP O O) (fO O (bg O (fun h8 => ?_) (fun h8 => ?_))))
        ·(try simp only [Z] at h8)
         refine jS O (aN (aC (dL sN O ?_)))
         refine ⟨congrArg Value.string ?_, O⟩
         unfold wL
         repeat (first | (rw [if_pos (by assumption)]; done) | rw [if_neg (by assumption)])
        ·(try simp only [Z] at h8)
         refine bU (aH (aU (jS O (dL sN O ?_))))
         refine ⟨congrArg Value.string ?_, O⟩
         unfold wL
         repeat (first | (rw [if_pos (by assumption)]; done) | rw [if_neg (by assumption)])
theorem ajQ (h : keys.length = 0) : M.tgt l p keys n = (0, false, false) ∧ M.sought l p keys n = M := ⟨if_pos h, if_pos h⟩
theorem agX (h : ¬ keys.length = 0) (h1 : keys.getD 0 0 = 96) : M.tgt l p keys n = (M.at (if 1 < keys.length then keys.getD 1 0 else 0), false, decide (0 ≤ M.at (if 1 < keys.length then keys.getD 1 0 else 0) ∧ M.at (if 1 < keys.length then keys.getD 1 0 else 0) ≤ l.length)) ∧ M.sought l p keys n = M := by
  unfold VM.tgt VM.sought; rw [if_neg h, if_neg h, if_pos h1, if_pos h1]; exact ⟨rfl, rfl⟩
theorem ajR (h : ¬ keys.length = 0) (h1 : ¬ keys.getD 0 0 = 96) (h2 : keys.getD 0 0 = 59 ∨ keys.getD 0 0 = 44) : M.tgt l p keys n = (if M.fk = 0 then (0, false, false) else CO l p (if keys.getD 0 0 = 44 then bits .xor .i32 M.fk 32 else M.fk) M.fc n) ∧ M.sought l p keys n = M := by
  unfold VM.tgt VM.sought; rw [if_neg h, if_neg h, if_neg h1, if_neg h1, if_pos h2, if_pos h2]; exact ⟨rfl, rfl⟩
theorem ajS (h : ¬ keys.length = 0) (h1 : ¬ keys.getD 0 0 = 96) (h2 : ¬ (keys.getD 0 0 = 59 ∨ keys.getD 0 0 = 44)) : M.tgt l p keys n = CO l p (keys.getD 0 0) (if 1 < keys.length then keys.getD 1 0 else 0) n ∧ M.sought l p keys n = (if (CO l p (keys.getD 0 0) (if 1 < keys.length then keys.getD 1 0 else 0) n).2.2 = true ∧ keys.getD 0 0 ∈ EN Zq then { M with fk := keys.getD 0 0, fc := (if 1 < keys.length then keys.getD 1 0 else 0) } else M) := by
  unfold VM.tgt VM.sought; rw [if_neg h, if_neg h, if_neg h1, if_neg h1, if_neg h2, if_neg h2]; exact ⟨rfl, rfl⟩
theorem wu (H : V w0 w (VC c m e name kv q g lv p • je 21 .i32 lv l • jW m M • F)) (hr : jO w0 F .i32 qv keys) (hT : Bq w0) (hl9 : l.length ≤ 4611686018427387904) (hn : n ≤ 9223372036854775807) :
  jf prog 162 #[.pointer (some ⟨c, 0, none⟩), qv, .int .i64 n] w fun v w' => v = abF (M.tgt l p keys n) ∧ V w0 w' (VC c m e name kv q g lv p • je 21 .i32 lv l • jW m (M.sought l p keys n) • F) := by
 refine EU func162 ntmps162 ?_
 refine jg (gW O (gW O (tX O (bI O (aV (gZ (hr _ (H.right.right.right)) ah O) (aV (fB O O) (iW O (fun h1 => ?_) (fun h1 => ?_))))))))
 ·(try simp only [Z] at h1)
  refine jg (gW O (gW O (fP O (aC ?_))))
  refine dU (.inl O) results162 O O O ?_
  obtain ⟨h8, h9⟩ := ajQ (M := M) (l := l) (p := p) (n := n) (keys := keys) (by omega)
  exact ⟨by rw [h8]; rfl, by rw [h9]; exact H.f3.f3.f3⟩
 ·(try simp only [Z] at h1)
  refine gy (aI ?_)
  have hk0 : ¬ keys.length = 0 := by omega
  refine aF (bW O ?_)
  obtain ⟨bqv, oqv, cqv, eqv⟩ := gB.qN (hr _ (H.right.right.right)) (by omega)
  cases eqv
  refine aV (dI ah bP O O (by omega)) ?_
  refine aV (dW (bV bC O) O (by first | exact gB.lN (hr _ (H.right.right.right)) (by omega) | exact gB.uP (hr _ (H.right.right.right)) (by omega) | exact gB.wO (hr _ (H.right.right.right)) (by omega))) ?_
  refine gW O (fO O ?_)
  refine kE [(0, _), (2, _), (9, _)] (fun (_ : Unit) => [(10, .int .i32 (if 1 < keys.length then keys.getD 1 0 else 0))]) (fun (_ : Unit) W => V w0 W (VC c m e name kv q g lv p • je 21 .i32 lv l • jW m M • F)) wW ?_ ?_
  ·rintro _ w1 HJ
   dsimp only [List.cons_append, List.nil_append]
   refine aI (bI O (iR (bf (jg (aV (fB O O) (fO O (bg O (fun h2 => ?_) (fun h2 => ?_))))))))
   ·(try simp only [Z] at h2)
    have hk1 : keys.getD 0 0 = 96 := h2
    refine bI O (dV O (bM 0 aB O qH O (eH jG O (HJ).get.2 O (bW O (dX O func183 (Xm HJ.f3) ?_)))))
    rintro _ w2 ⟨rfl, H2⟩
    refine tX O ?_
    have af5 := H2.drew
    have uM := V.kp (af5.f3.f3.f3)
    refine nG [8] uM O (fD 0 O uM O (fD 1 O uM O (dS 2 O uM (fun _ => mJ O O) ?_)))
    refine zn 3 O O (by kernel_rfl) (by kernel_rfl) uM (gV O) (fun h3 => ?_) (fun h3 => ?_)
    ·(try simp only [Z] at h3)
     refine dh 4 O O O (by kernel_rfl) (by kernel_rfl) uM (fun _ => uy O) (gV O) ?_
     refine dh 5 O O O (by kernel_rfl) (by kernel_rfl) uM (fun _ => uy O) (gV O) ?_
     refine dh 6 O O O (by kernel_rfl) (by kernel_rfl) uM (fun _ => ES O) (gV O) ?_
     refine dh 7 O O O (by kernel_rfl) (by kernel_rfl) uM (fun _ => pq 6 aB O O bD (by decide) O rfl) (gV O) ?_
     refine jP 8 O O O (by kernel_rfl) (by kernel_rfl) uM (by decide) (fun W hW => dW (bV ah O) O (iI ((Kp.h hW).f2).get.2 O)) (gV O) ?_
     refine dh 9 O O O (by kernel_rfl) (by kernel_rfl) uM (fun _ => gZ ((af5.f3).aO) ah O) (gV O) ?_
     refine dh 10 O O O (by kernel_rfl) (by kernel_rfl) uM (fun _ => rQ O O) (gV O) ?_
     refine dS 11 O uM (fun _ => xY O O) (dS 12 O uM (fun _ => aW O) (dS 13 O uM (fun _ => aW O) (dS 14 O uM (fun _ => aW O) (lJ (aU (iL (aN (aC ?_))))))))
     refine dU (.inl O) results162 O O O ?_
     obtain ⟨e1, e2⟩ := agX (M := M) (l := l) (p := p) (n := n) hk0 hk1
     refine ⟨?_, by rw [e2]; exact af5.f3.f3⟩
     rw [e1]
     refine congrArg (fun b => Value.tuple #[.int .i64 (M.at (if 1 < keys.length then keys.getD 1 0 else 0)), .bool false, .bool b]) ?_
     first | exact decide_eq_decide.2 (by omega) | exact (decide_eq_false (by omega)).symm
    ·(try simp only [Z] at h3)
     refine eG 4 O O O O (by kernel_rfl) (by kernel_rfl) uM (gV O) ?_
     refine eG 5 O O O O (by kernel_rfl) (by kernel_rfl) uM (gV O) ?_
     refine eG 6 O O O O (by kernel_rfl) (by kernel_rfl) uM (gV O) ?_
     refine eG 7 O O O O (by kernel_rfl) (by kernel_rfl) uM (gV O) ?_
     refine eG 8 O O O O (by kernel_rfl) (by kernel_rfl) uM (gV O) ?_
     refine eG 9 O O O O (by kernel_rfl) (by kernel_rfl) uM (gV O) ?_
     refine eG 10 O O O O (by kernel_rfl) (by kernel_rfl) uM (gV O) ?_
     refine dS 11 O uM (fun _ => uz O O) (dS 12 O uM (fun _ => aW O) (dS 13 O uM (fun _ => aW O) (dS 14 O uM (fun _ => aW O) (lJ (aU (iL (aN (aC ?_))))))))
     refine dU (.inl O) results162 O O O ?_
     obtain ⟨e1, e2⟩ := agX (M := M) (l := l) (p := p) (n := n) hk0 hk1
     refine ⟨?_, by rw [e2]; exact af5.f3.f3⟩
     rw [e1]
     refine congrArg (fun b => Value.tuple #[.int .i64 (M.at (if 1 < keys.length then keys.getD 1 0 else 0)), .bool false, .bool b]) ?_
     first | exact decide_eq_decide.2 (by omega) | exact (decide_eq_false (by omega)).symm
   ·(try simp only [Z] at h2)
    have hk1 : ¬ keys.getD 0 0 = 96 := h2
    refine kE [(0, _), (2, _), (9, _), (10, _)] (fun (_ : Unit) => [(49, .bool (decide (keys.getD 0 0 = 59 ∨ keys.getD 0 0 = 44)))]) (fun (_ : Unit) W => V w0 W (VC c m e name kv q g lv p • je 21 .i32 lv l • jW m M • F)) FC ?_ ?_
    ·rintro _ w3 HK
     dsimp only [List.cons_append, List.nil_append]
     refine bg O (fun h4 => ?_) (fun h4 => ?_)
     ·(try simp only [Z] at h4)
      refine aI ?_
      obtain ⟨Io, GH, F9, oK, rP⟩ := (HK.f3).vm
      have hk2 : keys.getD 0 0 = 59 ∨ keys.getD 0 0 = 44 := by omega
      obtain ⟨e1, e2⟩ := ajR (M := M) (l := l) (p := p) (n := n) hk0 hk1 hk2
      refine aF (mX O O (bM 0 aB O qH O (eH jG O (rP.f5).get.2 O (dV O (bM 1 fZ O sizeOf115 O (aV (pz 1 (xs := [_, _]) rH O sizeOf115 O O (rP).get.2 O) ?_))))))
      have UA := rP.f4.f4.f4.f4
      have QU := V.zW (M := M) oK UA
      refine kV (iO (l := [_, _]) QU zeroValue115 O) ?_
      rintro _ w8 ⟨b8, rfl, H8⟩
      refine aQ (dM 0 (l' := [_, _]) (us := [_, _]) H8 sizeOf115 O O O (aJ (aJ dn)) O O) ?_
      rintro _ w9 H9
      refine rW (jg (bM 0 rH O bP O (eH bC O (H9).get.2 O (aV (fB O O) (iW O (fun h5 => ?_) (fun h5 => ?_))))))
      ·(try simp only [Z] at h5)
       have hf0 : M.fk = 0 := h5
       refine jg (gW O (gW O (fP O (aC (aN (aC ?_))))))
       refine dU (.inl O) results162 O O O ?_
       exact ⟨by rw [e1, if_pos hf0]; rfl, by rw [e2]; exact H9.right.f3.f3⟩
      ·(try simp only [Z] at h5)
       have hf0 : ¬ M.fk = 0 := h5
       refine gy ?_
       refine kE [(0, _), (2, _), (12, _)] (fun (_ : Unit) => []) (fun (_ : Unit) W => V w0 W (gJ b8 (.cells #[.int .i32 (if keys.getD 0 0 = 44 then bits .xor .i32 M.fk 32 else M.fk), .int .i32 M.fc] 115 (0, 0)) • VC c m e name kv q g lv p • je 21 .i32 lv l • jW m M • F)) wW ?_ ?_
       ·rintro _ w10 HN
        dsimp only [List.cons_append, List.nil_append]
        refine aI ?_
        have adP := HN.drew
        have rM := V.kp (adP.f4.f4.f4.f4)
        refine nG [3, 7, 9, 11, 16] rM O (fD 0 O rM O (iG 1 O rM O (dJ 2 O rM 6 aB O bD O (fM 3 O rM (fun W hW => fQ ah O ((Kp.h hW).f2).get.2 O) (fD 4 O rM O (iG 5 O rM O (dJ 6 O rM 7 aB O aj O (fM 7 O rM (fun W hW => fQ aA O ((Kp.h hW).f2).get.2 O) (dJ 8 O rM 0 rH O bP O (fM 9 O rM (fun W hW => fQ bC O ((Kp.h hW)).get.2 O) (dJ 10 O rM 1 rH O bP O (fM 11 O rM (fun W hW => fQ bC O ((Kp.h hW)).get.2 O) (fD 12 O rM O (fD 13 O rM O (iG 14 O rM O (dJ 15 O rM 5 aB O aT O (fM 16 O rM (fun W hW => fQ bJ O ((Kp.h hW).f2).get.2 O) (ny 17 O (wM O func11 (Es adP (fun W HW => (HW.f3).aO) hT (by omega) (by omega))) ?_))))))))))))))))))
        rintro _ FK ⟨rfl, ru⟩
        have DI := V.kp (ru.f4.f4.f4.f4)
        refine gU DI (by kernel_rfl) ?_
        refine dS 18 O DI (fun _ => oM O O) (dS 19 O DI (fun _ => oM O O) (dS 20 O DI (fun _ => oM O O) (dS 21 O DI (fun _ => aW O) (dS 22 O DI (fun _ => aW O) (dS 23 O DI (fun _ => aW O) (lJ (aU (iL (aN (aC ?_))))))))))
        refine dU (.inl O) results162 O O O ?_
        exact ⟨by rw [e1, if_neg hf0]; rfl, by rw [e2]; exact ru.right.f3.f3.f3⟩
       ·skip
        refine bI O (aV (fB O O) (iW O (fun h6 => ?_) (fun h6 => ?_)))
        ·(try simp only [Z] at h6)
         refine aF (bM 0 rH O bP O (eH bC O (H9).get.2 O ?_))
         refine aV (aat .xor O O (by simp)) ?_
         refine bM 0 rH O bP O (aQ (st2 0 H9 bP) ?_)
         rintro _ w12 wQ
         refine bT ?_
         refine dG (()) ?_ ?_ ?_
         ·exact (Sub.nil _)
         ·exact wW
         ·(try dsimp only)
          first | done | exact (by first | (rw [if_pos (by assumption)]; exact wQ.f2.f4.f4.f4) | (rw [if_neg (by assumption)]; exact wQ.f2.f4.f4.f4))
        ·(try simp only [Z] at h6)
         refine bU ?_
         refine dG (()) ?_ ?_ ?_
         ·exact (Sub.nil _)
         ·exact wW
         ·(try dsimp only)
          first | done | exact (by first | (rw [if_pos (by assumption)]; exact H9.f2.f4.f4.f4) | (rw [if_neg (by assumption)]; exact H9.f2.f4.f4.f4))
     ·(try simp only [Z] at h4)
      refine bU (aH (aU (aI ?_)))
      have hk2 : ¬ (keys.getD 0 0 = 59 ∨ keys.getD 0 0 = 44) := by omega
      obtain ⟨e1, e2⟩ := ajS (M := M) (l := l) (p := p) (n := n) hk0 hk1 hk2
      have adQ := HK.drew
      have tZ := V.kp (adQ.f3.f3.f3)
      refine nG [3, 7, 14] tZ O (fD 0 O tZ O (iG 1 O tZ O (dJ 2 O tZ 6 aB O bD O (fM 3 O tZ (fun W hW => fQ ah O ((Kp.h hW)).get.2 O) (fD 4 O tZ O (iG 5 O tZ O (dJ 6 O tZ 7 aB O aj O (fM 7 O tZ (fun W hW => fQ aA O ((Kp.h hW)).get.2 O) (fD 8 O tZ O (fD 9 O tZ O (fD 10 O tZ O (fD 11 O tZ O (iG 12 O tZ O (dJ 13 O tZ 5 aB O aT O (fM 14 O tZ (fun W hW => fQ bJ O ((Kp.h hW)).get.2 O) (ny 15 O (wM O func11 (Es adQ (fun W HW => (HW.f2).aO) hT (by omega) (by omega))) ?_))))))))))))))))
      rintro _ OL ⟨rfl, wB⟩
      have yh := V.kp (wB.f3.f3.f3)
      refine gU yh (by kernel_rfl) ?_
      refine fD 16 O yh O (dS 17 O yh (fun _ => oM O O) (dS 18 O yh (fun _ => oM O O) (dS 19 O yh (fun _ => oM O O) (dS 20 O yh (fun _ => aW O) (dS 21 O yh (fun _ => aW O) (dS 22 O yh (fun _ => aW O) (lJ (aU (aI (bI O (jY O (fun h7 => ?_) (fun h7 => ?_))))))))))))
      ·(try simp only [Z] at h7)
       refine bF (bW O (bF (dX O func50 (AO (s := Zq) (by decide)) ?_)))
       rintro _ _ ⟨rfl, rfl⟩
       refine jQ O O (iW O (fun h8 => ?_) (fun h8 => ?_))
       ·(try simp only [Z] at h8)
        obtain ⟨Io, GH, F9, oK, rP⟩ := (wB.f3).vm
        refine aF (mX O O (bM 0 aB O qH O (eH jG O (rP.f5).get.2 O (jU O O ?_))))
        refine aV (iJ (zl := [.int .i32 0, .int .i32 0]) (pl := [(0, 1), (1, 1)]) [_, _] rH zeroValue115 O (fun w => by kernel_rfl) O (.on (.on .nil)) O) ?_
        refine dV O (bM 1 fZ O sizeOf115 O (aQ (dM 1 (l' := [_, _, _, _, _, _, _, _]) (us := [_, _]) rP sizeOf115 O O O (aJ (aJ dn)) O O) ?_))
        rintro _ w16 uT
        have UK := uT.f4.f4.f4.f4
        have NU := V.zW (M := { M with fk := keys.getD 0 0, fc := (if 1 < keys.length then keys.getD 1 0 else 0) }) oK UK
        refine uS O (jU O O (gW O (gW O (fP O ?_))))
        refine dU (.inl O) results162 O O O ?_
        refine ⟨by rw [e1]; rfl, ?_⟩
        rw [e2]
        first | (rw [if_pos ⟨by assumption, by assumption⟩]; exact NU.f3.f3) | (rw [if_neg (fun hc => absurd hc.2 (by assumption))]; exact NU.f3.f3) | (rw [if_neg (fun hc => absurd hc.1 (by simp only [*]; decide))]; exact NU.f3.f3)
       ·(try simp only [Z] at h8)
        refine gy (bI O (jU O O (gW O (gW O (fP O ?_)))))
        refine dU (.inl O) results162 O O O ?_
        refine ⟨by rw [e1]; rfl, ?_⟩
        rw [e2]
        first | (rw [if_pos ⟨by assumption, by assumption⟩]; exact wB.f3.f3.f3) | (rw [if_neg (fun hc => absurd hc.2 (by assumption))]; exact wB.f3.f3.f3) | (rw [if_neg (fun hc => absurd hc.1 (by simp only [*]; decide))]; exact wB.f3.f3.f3)
      ·(try simp only [Z] at h7)
       refine bK (bK (iH O O (iR (oL (gy (bI O (jU O O (gW O (gW O (fP O ?_))))))))))
       refine dU (.inl O) results162 O O O ?_
       refine ⟨by rw [e1]; rfl, ?_⟩
       rw [e2]
       first | (rw [if_pos ⟨by assumption, by assumption⟩]; exact wB.f3.f3.f3) | (rw [if_neg (fun hc => absurd hc.2 (by assumption))]; exact wB.f3.f3.f3) | (rw [if_neg (fun hc => absurd hc.1 (by simp only [*]; decide))]; exact wB.f3.f3.f3)
    ·skip
     refine jg (aV (fB O O) (fO O (bg O (fun h9 => ?_) (fun h9 => ?_))))
     ·(try simp only [Z] at h9)
      refine bU ?_
      refine dG (()) ?_ ?_ ?_
      ·exact (Sub.kJ O (congrArg Value.bool (decide_eq_decide.2 (by omega))) (Sub.nil _))
      ·exact FC
      ·(try dsimp only)
       first | done | exact HJ.f3.f3.f3
     ·(try simp only [Z] at h9)
      refine aF (aV (fB O O) (gW O (bT ?_)))
      refine dG (()) ?_ ?_ ?_
      ·exact (Sub.kJ O (congrArg Value.bool (decide_eq_decide.2 (by omega))) (Sub.nil _))
      ·exact FC
      ·(try dsimp only)
       first | done | exact HJ.f3.f3.f3
  ·skip
   refine bI O (aV (jd ah O) (aV (gK O O) (iW O (fun h10 => ?_) (fun h10 => ?_))))
   ·(try simp only [Z] at h10)
    refine aF (bW O (aV (dI ah bP O O (by omega)) ?_))
    refine aV (dW (bV bC O) O (by first | exact gB.lN (hr _ (H.right.right.right)) (by omega) | exact gB.uP (hr _ (H.right.right.right)) (by omega) | exact gB.wO (hr _ (H.right.right.right)) (by omega))) ?_
    refine gW O (bT ?_)
    refine dG (()) ?_ ?_ ?_
    ·exact (Sub.kJ O (by first | (rw [if_pos (by omega)]; rfl) | rw [if_neg (by omega)]) (Sub.nil _))
    ·exact wW
    ·(try dsimp only)
     first | done | exact H.f3.f3.f3
   ·(try simp only [Z] at h10)
    refine bU ?_
    refine dG (()) ?_ ?_ ?_
    ·exact (Sub.kJ O (by first | (rw [if_pos (by omega)]; rfl) | rw [if_neg (by omega)]) (Sub.nil _))
    ·exact wW
    ·(try dsimp only)
     first | done | exact H.f3.f3.f3
end
theorem Gv {a b : ByteArray} (h : a.data.toList ≠ b.data.toList) : ¬ a.toList = b.toList := by rw [ByteArray.toList_eq, ByteArray.toList_eq]; exact h
theorem Zr : wL yK = ⟨#[]⟩ := by
  unfold wL
  rw [if_neg (Gv (by decide)), if_neg (Gv (by decide)), if_neg (Gv (by decide)), if_neg (Gv (by decide)), if_neg (Gv (by decide)), if_neg (Gv (by decide)), if_neg (Gv (by decide)), if_neg (Gv (by decide))]
theorem xH {w0 w : World} {F : HP} {e : Nat} {s : bQ} (H : V w0 w (dZ e s • F)) : s.c.L.length ≤ 1024 ∧ (0 ≤ s.c.pt ∧ s.c.pt ≤ s.c.L.length) := by
  obtain ⟨pb, pr, pw, pt, pm, ph, bl, pv, es, u0, u1, u2, u3, u4, u5, u6, u7, u8, u9, ua, h, _, _, H2⟩ := H.Jp
  obtain ⟨a, c, xs, f, t, h1, h2, h3, h4, h5, h6, h7, _⟩ := H2.f2.buf
  exact ⟨h4, h6⟩
namespace bQ
variable (s : bQ)
def adR (M : VM) (keys : List Int) (n : Int) : Int := if (M.tgt s.c.L s.c.pt keys n).2.2 = true then s.DL (M.tgt s.c.L s.c.pt keys n).1 else 6
def adS (M : VM) (keys : List Int) (n : Int) : bQ := if (M.tgt s.c.L s.c.pt keys n).2.2 = true then s.wK (M.tgt s.c.L s.c.pt keys n).1 else s
end bQ
section
variable {w0 : World} {s : bQ} {keys : List Int} {n : Int} {g : Bool} {M : VM}
theorem abS (hT : Bq w0) (hn : n ≤ 9223372036854775807) : U8 w0 yK keys n g s M fun x t M' => x = s.adR M keys n ∧ t = s.adS M keys n ∧ M' = M.sought s.c.L s.c.pt keys n := by
 intro F w c m e kv lv H hk
 have hln := (xH H.f4).1
 refine jE func124 ntmps124 ?_
 refine kH O (aI (bI O (dV O (bM 2 aB O kM O (eH iD O (H).get.2 O (dX O func160 (Nw) ?_))))))
 rintro _ _ ⟨rfl, rfl⟩
 refine fO O (bI O (aV (LK O O) (jY O (fun h => by exfalso; (try simp only [Z] at h); exact h (by rw [Zr])) (fun h1 => ?_))))
 (try simp only [Z] at h1)
 refine bK (bK (bK (bK (bK (bK (bK (bK (bK (iH O O (iR (oL (gy (aI (bI O (dV O (bM 2 aB O kM O (eH iD O (H).get.2 O (iR (bf (jg (aV (eP O O) (fO O (bg O (fun h => by exfalso; (try simp only [Z] at h); exact absurd h (Gv (by decide))) (fun h2 => ?_))))))))))))))))))))))))
 (try simp only [Z] at h2)
 refine jg (aV (eP O O) (fO O (bg O (fun h3 => ?_) (fun h => by exfalso; (try simp only [Z] at h); exact h O))))
 (try simp only [Z] at h3)
 refine aI ?_
 have ajT := H.drew
 have JA := V.kp (ajT.f4.f4.f4.f4)
 refine nG [4, 8] JA O (fD 0 O JA O (fD 1 O JA O (iG 2 O JA O (dJ 3 O JA 3 aB O bD O (fM 4 O JA (fun W hW => fQ ah O ((Kp.h hW)).get.2 O) (fD 5 O JA O (iG 6 O JA O (dJ 7 O JA 4 aB O aj O (fM 8 O JA (fun W hW => fQ aA O ((Kp.h hW)).get.2 O) (ny 9 O (wM O func162 (wu ajT.f3.f3.f3 (fun W HW => hk _ (HW.right)) hT (by omega) (by omega))) ?_))))))))))
 rintro _ w2 ⟨rfl, H2⟩
 have zB := V.kp (H2.f4.f4.f4.f4)
 refine gU zB (by kernel_rfl) ?_
 refine fD 10 O zB O (dS 11 O zB (fun _ => oM O O) (dS 12 O zB (fun _ => oM O O) (dS 13 O zB (fun _ => oM O O) (dS 14 O zB (fun _ => aW O) (dS 15 O zB (fun _ => aW O) (dS 16 O zB (fun _ => aW O) (lJ (aU (aI (bI O (aV (jR O) (iW O (fun h4 => ?_) (fun h4 => ?_)))))))))))))
 ·(try simp only [Z] at h4)
  have hok : ¬ (M.tgt s.c.L s.c.pt keys n).2.2 = true := by have h9 := h4; simpa using h9
  refine jS O (aC (aN (aC (dL jw O ?_))))
  exact ⟨_, _, _, ⟨by unfold bQ.adR; rw [if_neg hok], by unfold bQ.adS; rw [if_neg hok], O⟩, O, H2.f4.f4.f4.f4⟩
 ·(try simp only [Z] at h4)
  have hok : (M.tgt s.c.L s.c.pt keys n).2.2 = true := by have h9 := h4; simpa using h9
  refine gy (bI O (dV O (bM 1 aB O fA O (eH bY O (H2).get.2 O (bW O (dX O func30 (kD H2.f4) ?_))))))
  rintro _ w3 ⟨rfl, H3⟩
  refine fP O (aN (aC (dL jw O ?_)))
  exact ⟨_, _, _, ⟨by unfold bQ.adR; rw [if_pos hok], by unfold bQ.adS; rw [if_pos hok], O⟩, O, H3.f4.f4.f4⟩
end
namespace bQ
variable (s : bQ)
def adT (i j : Int) : Int := if i = j then 6 else if s.Nb i j false = 0 then (s.zG i j false).DL i else s.Nb i j false
def Zt (i j : Int) : bQ := if i = j then s else if s.Nb i j false = 0 then (s.zG i j false).wK i else s.zG i j false
def vdA (keys : List Int) (n : Int) : Int := if keys.getD 0 0 = 88 then s.c.pt - min n s.c.pt else s.c.pt
def vdB (keys : List Int) (n : Int) : Int := if keys.getD 0 0 = 88 then s.c.pt else s.c.pt + min n (s.c.L.length - s.c.pt)
def alW (keys : List Int) (n : Int) : Int := if keys.getD 0 0 ∈ EN ⟨#[120, 88]⟩ then s.adT (s.vdA keys n) (s.vdB keys n) else 6
def alX (keys : List Int) (n : Int) : bQ := if keys.getD 0 0 ∈ EN ⟨#[120, 88]⟩ then s.Zt (s.vdA keys n) (s.vdB keys n) else s
end bQ
section
variable {w0 w : World} {F : HP} {c m e : Nat} {s : bQ} {name : ByteArray} {kv lv : Value} {n p i j q : Int} {g : Bool}
theorem Et (H : V w0 w (VC c m e name kv q g lv p • dZ e s • F)) : jf prog 164 #[.pointer (some ⟨c, 0, none⟩), .int .i64 i, .int .i64 j] w fun v w' => v = .int .i64 (s.adT i j) ∧ V w0 w' (VC c m e name kv q g lv p • dZ e (s.Zt i j) • F) := by
  refine EU func164 ntmps164 ?_
  refine kH O (aI (bI O (bW O (aV (fB O O) (iW O (fun h1 => ?_) (fun h1 => ?_))))))
  · (try simp only [Z] at h1)
    have hij := h1
    refine jS O (aC (dL results164 O ?_))
    exact ⟨by unfold bQ.adT; rw [if_pos hij], by unfold bQ.Zt; rw [if_pos hij]; exact H.f2.f2⟩
  · (try simp only [Z] at h1)
    have hij : ¬ i = j := h1
    refine gy (aI (bI O (dV O (bM 1 aB O fA O (eH bY O (H).get.2 O (jU O O (dX O func186 (WO H.f2) ?_)))))))
    rintro _ w1 ⟨rfl, H1⟩
    refine fO O (bI O (aV (fF O O) (iW O (fun h2 => ?_) (fun h2 => ?_))))
    · (try simp only [Z] at h2)
      have hke : ¬ s.Nb i j false = 0 := h2
      refine bI O (fP O (aC (dL results164 O ?_)))
      exact ⟨by unfold bQ.adT; rw [if_neg hij, if_neg hke], by unfold bQ.Zt; rw [if_neg hij, if_neg hke]; exact H1.f2⟩
    · (try simp only [Z] at h2)
      have hke : s.Nb i j false = 0 := by have h9 := h2; omega
      refine gy (bI O (dV O (bM 1 aB O fA O (eH bY O (H1.f2).get.2 O (bW O (dX O func30 (kD H1) ?_))))))
      rintro _ w2 ⟨rfl, H2⟩
      refine fP O (dL results164 O ?_)
      exact ⟨by unfold bQ.adT; rw [if_neg hij, if_pos hke], by unfold bQ.Zt; rw [if_neg hij, if_pos hke]; exact H2.f2⟩
end
section
variable {w0 : World} {s : bQ} {keys : List Int} {n : Int} {g : Bool} {M : VM}
end
namespace bQ
def NZ (a : Int) : Nat → bQ → Int × bQ
  | 0, s => (s.DL (s.c.pt - 1), s.wK (s.c.pt - 1))
  | k + 1, s => if s.xg = 0 then (if s.oI.c.pt = a then (0, s.oI) else NZ a k s.oI) else (s.xg, s.oI)
variable (s : bQ)
def Zu (keys : List Int) : Prop := keys.getD 0 0 = 112 ∧ 0 < s.c.L.length
instance (keys : List Int) : Decidable (s.Zu keys) := by unfold Zu; infer_instance
def Ig (keys : List Int) : Int × bQ := if s.Zu keys then (s.DL (min (s.c.pt + 1) s.c.L.length), s.wK (min (s.c.pt + 1) s.c.L.length)) else (0, s)
def adU (keys : List Int) (n : Int) : Int × bQ := if (s.Ig keys).1 = 0 then NZ (s.Ig keys).2.c.pt n.toNat (s.Ig keys).2 else s.Ig keys
end bQ
section
variable {w0 w : World} {F : HP} {c m e : Nat} {s t : bQ} {name : ByteArray} {kv lv : Value} {n p i j q a : Int} {g : Bool} {keys : List Int} {k : Nat}
theorem Qr (h : s.Zu keys) : s.Ig keys = (s.DL (min (s.c.pt + 1) s.c.L.length), s.wK (min (s.c.pt + 1) s.c.L.length)) := if_pos h
theorem JX (h : ¬ s.Zu keys) : s.Ig keys = (0, s) := if_neg h
theorem adV (h : (s.Ig keys).1 = 0) : s.adU keys n = bQ.NZ (s.Ig keys).2.c.pt n.toNat (s.Ig keys).2 := if_pos h
theorem adW (h : ¬ (s.Ig keys).1 = 0) : s.adU keys n = s.Ig keys := if_neg h
theorem ail : bQ.NZ a 0 t = (t.DL (t.c.pt - 1), t.wK (t.c.pt - 1)) := rfl
theorem adX (hk : 0 < k) (h : ¬ t.xg = 0) : bQ.NZ a k t = (t.xg, t.oI) := by
  obtain ⟨k, rfl⟩ : ∃ j, k = j + 1 := ⟨k - 1, by omega⟩
  exact if_neg h
theorem adY (hk : 0 < k) (h : t.xg = 0) (h2 : t.oI.c.pt = a) : bQ.NZ a k t = (0, t.oI) := by
  obtain ⟨k, rfl⟩ : ∃ j, k = j + 1 := ⟨k - 1, by omega⟩
  exact (if_pos h).trans (if_pos h2)
theorem adZ (h : t.xg = 0) (h2 : ¬ t.oI.c.pt = a) : bQ.NZ a (k + 1) t = bQ.NZ a k t.oI := (if_pos h).trans (if_neg h2)
theorem ad0 (H : V w0 w (VC c m e name kv n g lv s.c.pt • je 21 .i32 lv s.c.L • dZ e s • F)) (hk : jO w0 F .i32 kv keys) (hk1 : 1 ≤ keys.length) (hn : 1 ≤ n ∧ n ≤ 1000000) :
  jf prog 167 #[.pointer (some ⟨c, 0, none⟩)] w fun v w' => v = .int .i64 (s.adU keys n).1 ∧ V w0 w' (VC c m e name kv n g lv s.c.pt • je 21 .i32 lv s.c.L • dZ e (s.adU keys n).2 • F) := by
 obtain ⟨hln, hpt⟩ := xH H.f3
 refine jE func167 ntmps167 ?_
 refine kH O ?_
 refine kE [(0, _)] (fun (_ : Unit) => []) (fun (_ : Unit) W => (s.Ig keys).1 = 0 ∧ V w0 W (dZ e (s.Ig keys).2 • VC c m e name kv n g lv s.c.pt • je 21 .i32 lv s.c.L • F)) lH ?_ ?_
 ·rintro _ w1 ⟨hm0, HJ⟩
  dsimp only [List.cons_append, List.nil_append]
  refine aI ?_
  obtain ⟨t0, ht0⟩ : ∃ t0, t0 = (s.Ig keys).2 := ⟨_, rfl⟩
  have HQ := HJ
  rw [← ht0] at HQ
  have hR := adV (n := n) hm0
  rw [← ht0] at hR
  refine aF (mX O O (bM 1 aB O fA O (eH bY O (HQ.f2).get.2 O (dX O func28 (pU HQ) ?_))))
  rintro _ w2 ⟨u2, rfl, H2⟩
  refine aV (pY 1 fK O O (bV aA O) O O) (tX O (bI O (dV O (bM 4 aB O aj O (eH aA O (H2.f3).get.2 O (bW O (iR (bf ?_))))))))
  refine iy [(0, _), (4, _), (49, _)] (fun (⟨t, j⟩ : bQ × Nat) => [(50, .int .i64 (j : Int))]) (fun (⟨t, j⟩ : bQ × Nat) W => (j : Int) ≤ n ∧ bQ.NZ t0.c.pt (n.toNat - j) t = bQ.NZ t0.c.pt n.toNat t0 ∧ V w0 W (dZ e t • VC c m e name kv n g lv s.c.pt • je 21 .i32 lv s.c.L • F)) (fun (⟨t, j⟩ : bQ × Nat) => n.toNat - j) ((t0, 0)) wW lH ⟨by omega, O, H2.right.f3.f3.f3⟩ ?_
  rintro ⟨t, j⟩ w3 ⟨hj, hL, HL⟩
  dsimp only [List.cons_append, List.nil_append]
  refine jg (aV (gG O O) (rW (bg O (fun h1 => ?_) (fun h1 => ?_))))
  ·(try simp only [Z] at h1)
   refine gy (aI (bf (aI (bI O (dV O (bM 1 aB O fA O (eH bY O (HL.f2).get.2 O (dX O func191 (WS HL) ?_))))))))
   rintro _ w4 ⟨rfl, H4⟩
   refine fO O (bI O (aV (fF O O) (iW O (fun h2 => ?_) (fun h2 => ?_))))
   ·(try simp only [Z] at h2)
    refine bI O (fP O (aC (aN (aC (aC (aN (aC (dL results167 O ?_))))))))
    have e9 := hR.trans (hL.symm.trans (adX (by omega) (by assumption)))
    exact ⟨by rw [e9], by rw [e9]; exact H4.f3.f3⟩
   ·(try simp only [Z] at h2)
    refine gy (bI O (dV O (bM 1 aB O fA O (eH bY O (H4.f2).get.2 O (dX O func28 (pU H4) ?_)))))
    rintro _ w5 ⟨u5, rfl, H5⟩
    refine aV (pY 1 fK O O (bV aA O) O O) (bW O (aV (fB O O) (iW O (fun h3 => ?_) (fun h3 => ?_))))
    ·(try simp only [Z] at h3)
     refine jS O (aN (aC (aC (aN (aC (dL results167 O ?_))))))
     have e9 := hR.trans (hL.symm.trans (adY (by omega) (by omega) (by assumption)))
     exact ⟨by rw [e9], by rw [e9]; exact H5.right.f3.f3⟩
    ·(try simp only [Z] at h3)
     refine bU (aH (aU (aF (aV (fH O O (by omega)) (bW O (bT ?_))))))
     refine dN ((t.oI, j + 1)) ?_ ?_ ?_ ?_
     ·exact lH
     ·exact wW
     ·(try dsimp only)
      first | done | exact ⟨by omega, (by rw [← hL, show n.toNat - j = (n.toNat - (j + 1)) + 1 from by omega, adZ (by omega) (by assumption)]), H5.right.f3.f3.f3⟩
     ·(try dsimp only); omega
  ·(try simp only [Z] at h1)
   refine dR (aP (aP (bH (aU (aI ?_)))))
   have hb9 := xH (HL)
   have agY := HL.drew
   have Gf := V.kp (agY.right.f2.f2)
   refine nG [3, 7] Gf O (fD 0 O Gf O (iG 1 O Gf O (dJ 2 O Gf 1 aB O fA O (fM 3 O Gf (fun W hW => fQ bY O ((Kp.h hW)).get.2 O) (fD 4 O Gf O (iG 5 O Gf O (dJ 6 O Gf 1 aB O fA O (fM 7 O Gf (fun W hW => fQ bY O ((Kp.h hW)).get.2 O) (ny 8 O (wM O func28 (pU agY)) ?_)))))))))
   rintro _ w6 ⟨u6, rfl, H6⟩
   have jV := V.kp (H6.f4.f4.f4.f4)
   refine dK jV (fun W hW => (Kp.h hW).right.right.f2.f2) ?_
   refine dS 9 O jV (fun _ => pY 1 fK O O (bV aA O) O O) (dS 10 O jV (fun _ => jJ O O (by omega)) (ny 11 O (wM O func30 (kD H6.f2)) ?_))
   rintro _ w7 ⟨rfl, H7⟩
   have Ae := V.kp (H7.f4.f4.f4.f4)
   refine gU Ae (by kernel_rfl) ?_
   refine dS 12 O Ae (fun _ => aW O) (lJ (aU (iL (dL results167 O ?_))))
   have e9 := hR.trans (hL.symm.trans ((congrArg (fun k => bQ.NZ t0.c.pt k t) (show n.toNat - j = 0 from by omega)).trans ail))
   exact ⟨by rw [e9], by rw [e9]; exact H7.f2.right.f3.f3⟩
 ·skip
  refine bI O (dV O (bM 3 aB O bD O (eH ah O (H).get.2 O ?_)))
  obtain ⟨Xx, Xy, Xz, ekv⟩ := gB.qN (hk _ (H.right.right.right)) (by omega)
  cases ekv
  refine aV (dI ah bP O O (by omega)) ?_
  refine aV (dW (bV bC O) O (by first | exact gB.lN (hk _ (H.right.right.right)) (by omega) | exact gB.uP (hk _ (H.right.right.right)) (by omega) | exact gB.wO (hk _ (H.right.right.right)) (by omega))) ?_
  refine aV (fB O O) (jY O (fun h4 => ?_) (fun h4 => ?_))
  ·(try simp only [Z] at h4)
   refine bF (bW O (bF (dV O (bF (bM 6 aB O bD O (bF (eH ah O (H).get.2 O (bF (aV (gZ ((H.f2).aO) ah O) (bF (aV (gK O O) (jQ O O (iW O (fun h5 => ?_) (fun h5 => ?_))))))))))))))
   ·(try simp only [Z] at h5)
    refine aI ?_
    have hp : s.Zu keys := ⟨by assumption, by omega⟩
    have hmy := Qr hp
    have aim := H.drew
    have BP := V.kp (aim.f3.f3.f3)
    refine nG [3, 7, 12] BP O (fD 0 O BP O (iG 1 O BP O (dJ 2 O BP 1 aB O fA O (fM 3 O BP (fun W hW => fQ bY O ((Kp.h hW)).get.2 O) (fD 4 O BP O (iG 5 O BP O (dJ 6 O BP 7 aB O aj O (fM 7 O BP (fun W hW => fQ aA O ((Kp.h hW)).get.2 O) (dS 8 O BP (fun _ => fH O O (by omega)) (fD 9 O BP O (iG 10 O BP O (dJ 11 O BP 6 aB O bD O (fM 12 O BP (fun W hW => fQ ah O ((Kp.h hW)).get.2 O) (dS 13 O BP (fun _ => gZ ((aim.f2).aO) ah O) (dS 14 O BP (fun _ => mW O O) (ny 15 O (wM O func30 (kD aim.f3)) ?_))))))))))))))))
    rintro _ w8 ⟨rfl, H8⟩
    have LX := V.kp (H8.f3.f3.f3)
    refine gU LX (by kernel_rfl) ?_
    refine dS 16 O LX (fun _ => aW O) (lJ (aU (bI O (aV (fF O O) (iW O (fun h6 => ?_) (fun h6 => ?_))))))
    ·(try simp only [Z] at h6)
     have hm9 : ¬ s.DL (min (s.c.pt + 1) s.c.L.length) = 0 := h6
     refine bI O (fP O (aC (dL results167 O ?_)))
     have e9 := (adW (n := n) (s := s) (keys := keys) (by rw [hmy]; exact hm9)).trans hmy
     exact ⟨by rw [e9], by rw [e9]; exact H8.f3.f3⟩
    ·(try simp only [Z] at h6)
     have hm9 : s.DL (min (s.c.pt + 1) s.c.L.length) = 0 := by have h9 := h6; omega
     refine bU ?_
     refine dG (()) ?_ ?_ ?_
     ·exact (Sub.nil _)
     ·exact lH
     ·(try dsimp only)
      first | done | exact (by first | (rw [Qr ⟨by assumption, by omega⟩]; exact ⟨hm9, H8.f3.f3.f3⟩) | (rw [JX (fun hc => absurd hc.1 (by assumption))]; exact ⟨rfl, H8.f3.f3.f3⟩) | (rw [JX (fun hc => by have h8 := hc.2; omega)]; exact ⟨rfl, H8.f3.f3.f3⟩))
   ·(try simp only [Z] at h5)
    refine bU ?_
    refine dG (()) ?_ ?_ ?_
    ·exact (Sub.nil _)
    ·exact lH
    ·(try dsimp only)
     first | done | exact (by first | (rw [Qr ⟨by assumption, by omega⟩]; exact ⟨hm9, H.f2.f2.f3⟩) | (rw [JX (fun hc => absurd hc.1 (by assumption))]; exact ⟨rfl, H.f2.f2.f3⟩) | (rw [JX (fun hc => by have h8 := hc.2; omega)]; exact ⟨rfl, H.f2.f2.f3⟩))
  ·(try simp only [Z] at h4)
   refine bK (bK (bK (bK (bK (bK (iH O O (iR (oL (bU ?_)))))))))
   refine dG (()) ?_ ?_ ?_
   ·exact (Sub.nil _)
   ·exact lH
   ·(try dsimp only)
    first | done | exact (by first | (rw [Qr ⟨by assumption, by omega⟩]; exact ⟨hm9, H.f2.f2.f3⟩) | (rw [JX (fun hc => absurd hc.1 (by assumption))]; exact ⟨rfl, H.f2.f2.f3⟩) | (rw [JX (fun hc => by have h8 := hc.2; omega)]; exact ⟨rfl, H.f2.f2.f3⟩))
end
end Go.Proofs.YtpdeedplgmbopaaGreatDoor
end
