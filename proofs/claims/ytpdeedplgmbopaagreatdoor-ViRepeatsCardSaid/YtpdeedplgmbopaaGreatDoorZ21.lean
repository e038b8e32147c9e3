import Derived.Test.YtpdeedplgmbopaaGreatDoorZ4
import Derived.Test.YtpdeedplgmbopaaGreatDoorZ19
import Derived.Test.YtpdeedplgmbopaaGreatDoorZ16
import Derived.Test.YtpdeedplgmbopaaGreatDoorZ20
import Derived.Test.YtpdeedplgmbopaaGreatDoorZ13
set_option linter.unusedSimpArgs false
set_option linter.unusedVariables false
/- Texts of mine, joined, their names in short: VReach VWk VRedo VOneW VChg VChg2. -/
section
namespace Go.Proofs.YtpdeedplgmbopaaGreatDoor
open Go.RowKit
open _root_.Go.Proofs.Tryz
def UW : ByteArray := ⟨#[68, 67, 89]⟩
def NS : ByteArray := ⟨#[100, 99, 121]⟩
def rnM (n k : Int) : Int := if 0 < k then min (IntKind.i64.wrap (n * k)) 1000000 else n
namespace VM
variable (M : VM)
def NT (L : List Int) (p : Int) (T : Int × Bool × Bool) : Int × Int × Bool :=
  if ¬ T.2.2 = true then (0, 0, false) else if T.1 < p then (T.1, p, true) else (p, min (if T.2.1 = true then IntKind.i64.wrap (T.1 + 1) else T.1) L.length, true)
def reach (L : List Int) (p : Int) (keys : List Int) (n : Int) : Int × Int × Bool :=
  if keys.getD 0 0 ∈ rJ UW then (p, L.length, true)
  else if 0 < (kE (keys.drop 1)).length ∧ (kE (keys.drop 1)).getD 0 0 = keys.getD 0 0 ∧ keys.getD 0 0 ∈ rJ NS then (0, L.length, true)
  else if (kE (keys.drop 1)).length = 0 ∨ ¬ keys.getD 0 0 ∈ rJ NS then (0, 0, false)
  else NT L p (M.tgt L p (kE (keys.drop 1)) (rnM n (Uz (keys.drop 1))))
def AZ (L : List Int) (p : Int) (keys : List Int) (n : Int) : VM :=
  if keys.getD 0 0 ∈ rJ UW then M
  else if 0 < (kE (keys.drop 1)).length ∧ (kE (keys.drop 1)).getD 0 0 = keys.getD 0 0 ∧ keys.getD 0 0 ∈ rJ NS then M
  else if (kE (keys.drop 1)).length = 0 ∨ ¬ keys.getD 0 0 ∈ rJ NS then M
  else M.sought L p (kE (keys.drop 1)) (rnM n (Uz (keys.drop 1)))
end VM
def ai4 (r : Int × Int × Bool) : Value := .tuple #[.int .i64 r.1, .int .i64 r.2.1, .bool r.2.2]
section
variable {w0 w : World} {F : HP} {c m e : Nat} {s t : bF} {name : ByteArray} {kv lv : Value} {n p i j q a r x : Int} {g : Bool} {keys l L : List Int} {k : Nat} {k0 : Int} {M : VM} {T : Int × Bool × Bool}
theorem adD (h : keys.getD 0 0 ∈ rJ UW) : M.reach L p keys n = (p, (L.length : Int), true) ∧ M.AZ L p keys n = M := ⟨if_pos h, if_pos h⟩
theorem adE (h : ¬ keys.getD 0 0 ∈ rJ UW) (h2 : 0 < (kE (keys.drop 1)).length ∧ (kE (keys.drop 1)).getD 0 0 = keys.getD 0 0 ∧ keys.getD 0 0 ∈ rJ NS) : M.reach L p keys n = (0, (L.length : Int), true) ∧ M.AZ L p keys n = M := ⟨(if_neg h).trans (if_pos h2), (if_neg h).trans (if_pos h2)⟩
theorem YA (h : ¬ keys.getD 0 0 ∈ rJ UW) (h2 : ¬ (0 < (kE (keys.drop 1)).length ∧ (kE (keys.drop 1)).getD 0 0 = keys.getD 0 0 ∧ keys.getD 0 0 ∈ rJ NS)) (h3 : (kE (keys.drop 1)).length = 0 ∨ ¬ keys.getD 0 0 ∈ rJ NS) : M.reach L p keys n = (0, 0, false) ∧ M.AZ L p keys n = M :=
  ⟨(if_neg h).trans ((if_neg h2).trans (if_pos h3)), (if_neg h).trans ((if_neg h2).trans (if_pos h3))⟩
theorem adF (h : ¬ keys.getD 0 0 ∈ rJ UW) (h2 : ¬ (0 < (kE (keys.drop 1)).length ∧ (kE (keys.drop 1)).getD 0 0 = keys.getD 0 0 ∧ keys.getD 0 0 ∈ rJ NS)) (h3 : ¬ ((kE (keys.drop 1)).length = 0 ∨ ¬ keys.getD 0 0 ∈ rJ NS)) :
    M.reach L p keys n = VM.NT L p (M.tgt L p (kE (keys.drop 1)) (rnM n (Uz (keys.drop 1)))) ∧ M.AZ L p keys n = M.sought L p (kE (keys.drop 1)) (rnM n (Uz (keys.drop 1))) :=
  ⟨(if_neg h).trans ((if_neg h2).trans (if_neg h3)), (if_neg h).trans ((if_neg h2).trans (if_neg h3))⟩
theorem ab1 (h : ¬ T.2.2 = true) : VM.NT L p T = (0, 0, false) := if_pos h
theorem ab2 (h : T.2.2 = true) (h2 : T.1 < p) : VM.NT L p T = (T.1, p, true) := (if_neg (fun c => c h)).trans (if_pos h2)
theorem UY (h : T.2.2 = true) (h2 : ¬ T.1 < p) : VM.NT L p T = (p, min (if T.2.1 = true then IntKind.i64.wrap (T.1 + 1) else T.1) (L.length : Int), true) := (if_neg (fun c => c h)).trans (if_neg h2)
theorem afL (h : n ≤ 1000000) : rnM n k0 ≤ 1000000 := by unfold rnM; split <;> omega
theorem UZ {X : HP} {v : Value} (H : V w0 w (X • F)) (hr : jh w0 F .i32 v l) : iQ prog 51 #[v] w fun u w' => ∃ kv, u = .tuple #[kv, .int .i64 (Uz l)] ∧ jh w0 F .i32 kv (kE l) ∧ V w0 w' (X • F) := by
 have Yk : l.length ≤ 9223372036854775807 := by have := (hr _ H.right).open; obtain ⟨a, c, e, h3, h4, _⟩ := this; omega
 have hcl := abC (l := l)
 refine ji func51 ntmps51 ?_
 refine iy (gU O (dZ O (iy (gU O (uf O (bf ?_))))))
 refine iC [(0, _)] (fun (⟨i, n⟩ : Nat × Int) => [(4, .int .i64 n), (5, .int .i64 (i : Int))]) (fun (⟨i, n⟩ : Nat × Int) W => (i ≤ (uK l).length ∧ (0 ≤ n ∧ n ≤ 1000000) ∧ n = ((uK l).take i).foldl Iy 0) ∧ V w0 W (X • F)) (fun (⟨i, n⟩ : Nat × Int) => (uK l).length - i) ((0, 0)) mO uh ⟨⟨by omega, by omega, O⟩, H⟩ ?_
 rintro ⟨i, n⟩ w1 ⟨⟨hi, hn, hE⟩, HL⟩
 dsimp only [List.cons_append, List.nil_append]
 have hca := abB (l := l) hi
 refine aI (bM O (bJ O (aQ (iT (hr _ (HL.right)) ah O) (aQ (gW O O) (jm O (fun h1 => ?_) (fun h1 => ?_))))))
 ·(try simp only [Z] at h1)
  refine aY (bJ O (aY (bJ O (aY ?_))))
  obtain ⟨bv, ov, cv, ev⟩ := fJ.rW (hr _ (HL.right)) (by omega)
  cases ev
  refine aQ (dM ah bK O O (by omega)) (aY ?_)
  refine aQ (fF (dA bC O) O (by first | exact fJ.lX (hr _ (HL.right)) (by omega) | exact fJ.xJ (hr _ (HL.right)) (by omega) | exact fJ.xH (hr _ (HL.right)) (by omega))) ?_
  refine aY (aQ (lI O O) (je O O (jm O (fun h2 => ?_) (fun h2 => ?_))))
  ·(try simp only [Z] at h2)
   refine aY (bJ O (aY (bJ O (aY (aQ (dM ah bK O O (by omega)) (aY ?_))))))
   refine aQ (fF (dA bC O) O (by first | exact fJ.lX (hr _ (HL.right)) (by omega) | exact fJ.xJ (hr _ (HL.right)) (by omega) | exact fJ.xH (hr _ (HL.right)) (by omega))) ?_
   refine aY (aQ (pV O O) (je O O (jm O (fun h3 => ?_) (fun h3 => ?_))))
   ·(try simp only [Z] at h3)
    refine aY (bJ O (aY (aQ (eX O O) (aY (jm O (fun h4 => ?_) (fun h4 => ?_))))))
    ·(try simp only [Z] at h4)
     refine bn (bn (bn (bn (bn (aY (je O O (je O O (iE (C9 (fV (bf (aI ?_))))))))))))
     have hlt : i < (uK l).length := by omega
     refine aB (bJ O (aQ (XE O O (by omega)) (jX O O (aQ (dM ah bK O O (by omega)) ?_))))
     refine aQ (fF (dA bC O) O (by first | exact fJ.lX (hr _ (HL.right)) (by omega) | exact fJ.xJ (hr _ (HL.right)) (by omega) | exact fJ.xH (hr _ (HL.right)) (by omega))) ?_
     refine aQ (Om (Gq O O) (congrArg (Value.int .i32) (Fv (by omega)))) ?_
     refine aQ (sU O (by rw [underlying21]; rfl) aC (La (by omega))) ?_
     refine aQ (fQ O O (by omega)) (aQ (wO O O) (dZ O (aB (bJ O (aQ (fQ O O (by omega)) (gU O (bZ (aH ?_))))))))
     refine dX ((i + 1, Iy n (l.getD i 0))) ?_ ?_ ?_ ?_
     ·exact uh
     ·exact mO
     ·(try dsimp only)
      first | done | exact ⟨⟨by omega, Le hn (by omega), by rw [Iz hlt, ← hE]⟩, HL⟩
     ·(try dsimp only); omega
    ·(try simp only [Z] at h4)
     refine aY (bJ O (aY (bJ O (aY (aQ (dM ah bK O O (by omega)) (aY ?_))))))
     refine aQ (fF (dA bC O) O (by first | exact fJ.lX (hr _ (HL.right)) (by omega) | exact fJ.xJ (hr _ (HL.right)) (by omega) | exact fJ.xH (hr _ (HL.right)) (by omega))) ?_
     refine aY (aQ (gY O O) (aY (fG O O (je O O (jr O (fun h5 => ?_) (fun h5 => ?_))))))
     ·(try simp only [Z] at h5)
      refine fV (bf (aI ?_))
      have hlt : i < (uK l).length := by omega
      refine aB (bJ O (aQ (XE O O (by omega)) (jX O O (aQ (dM ah bK O O (by omega)) ?_))))
      refine aQ (fF (dA bC O) O (by first | exact fJ.lX (hr _ (HL.right)) (by omega) | exact fJ.xJ (hr _ (HL.right)) (by omega) | exact fJ.xH (hr _ (HL.right)) (by omega))) ?_
      refine aQ (Om (Gq O O) (congrArg (Value.int .i32) (Fv (by omega)))) ?_
      refine aQ (sU O (by rw [underlying21]; rfl) aC (La (by omega))) ?_
      refine aQ (fQ O O (by omega)) (aQ (wO O O) (dZ O (aB (bJ O (aQ (fQ O O (by omega)) (gU O (bZ (aH ?_))))))))
      refine dX ((i + 1, Iy n (l.getD i 0))) ?_ ?_ ?_ ?_
      ·exact uh
      ·exact mO
      ·(try dsimp only)
       first | done | exact ⟨⟨by omega, Le hn (by omega), by rw [Iz hlt, ← hE]⟩, HL⟩
      ·(try dsimp only); omega
     ·(try simp only [Z] at h5)
      refine dR (aO (aO (bG (aX (aI ?_)))))
      have hlt : i = (uK l).length := by omega
      refine aB (jX O O (aQ (oO (hr _ (HL.right)) ah bK O O O (by omega)) ?_))
      refine bJ O (gU O (fA O (KP results51 O O ?_)))
      exact ⟨_, by rw [hE, hlt, BA], fun W HW => by unfold kE; rw [← hlt]; exact (hr W HW).from (by omega), HL⟩
   ·(try simp only [Z] at h3)
    refine bn (bn (bn (lH (lH (lH (lH (lH (bn (fG O O (iE (oh (dR (aO (aO (bG (aX (aI ?_)))))))))))))))))
    have hlt : i = (uK l).length := by omega
    refine aB (jX O O (aQ (oO (hr _ (HL.right)) ah bK O O O (by omega)) ?_))
    refine bJ O (gU O (fA O (KP results51 O O ?_)))
    exact ⟨_, by rw [hE, hlt, BA], fun W HW => by unfold kE; rw [← hlt]; exact (hr W HW).from (by omega), HL⟩
  ·(try simp only [Z] at h2)
   refine bn (bn (bn (bn (bn (fG O O (bJ O (bn (bn (bn (lH (lH (lH (lH (lH (bn (fG O O (iE (oh (dR (aO (aO (bG (aX (aI ?_))))))))))))))))))))))))
   have hlt : i = (uK l).length := by omega
   refine aB (jX O O (aQ (oO (hr _ (HL.right)) ah bK O O O (by omega)) ?_))
   refine bJ O (gU O (fA O (KP results51 O O ?_)))
   exact ⟨_, by rw [hE, hlt, BA], fun W HW => by unfold kE; rw [← hlt]; exact (hr W HW).from (by omega), HL⟩
 ·(try simp only [Z] at h1)
  refine bn (bn (bn (bn (bn (fG O O (bJ O (bn (bn (bn (bn (bn (fG O O (bJ O (bn (bn (bn (lH (lH (lH (lH (lH (bn (fG O O (iE (oh (dR (aO (aO (bG (aX (aI ?_)))))))))))))))))))))))))))))))
  have hlt : i = (uK l).length := by omega
  refine aB (jX O O (aQ (oO (hr _ (HL.right)) ah bK O O O (by omega)) ?_))
  refine bJ O (gU O (fA O (KP results51 O O ?_)))
  exact ⟨_, by rw [hE, hlt, BA], fun W HW => by unfold kE; rw [← hlt]; exact (hr W HW).from (by omega), HL⟩
theorem Xo (H : V w0 w (VC c m e name kv n g lv p • jw 21 .i32 lv L • jY m M • F)) (hk : jh w0 F .i32 kv keys) (hT : vZ w0) (hnc : ¬ name.toList = Dv.toList) (hk1 : 1 ≤ keys.length) (Yk : L.length ≤ 1024) (hp : 0 ≤ p ∧ p ≤ L.length) (hn : 1 ≤ n ∧ n ≤ 1000000) :
  iQ prog 184 #[.pointer (some ⟨c, 0, none⟩)] w fun v w' => v = ai4 (M.reach L p keys n) ∧ V w0 w' (VC c m e name kv n g lv p • jw 21 .i32 lv L • jY m (M.AZ L p keys n) • F) := by
 refine ji func184 ntmps184 ?_
 refine iy (gU O (gU O (dZ O (bM O (dK O (bI 3 aN O bV O (fC ah O (H).get.2 O ?_)))))))
 obtain ⟨bkv, okv, ckv, ekv⟩ := fJ.rW (hk _ (H.right.right.right)) (by omega)
 cases ekv
 refine aQ (dM ah bK O O (by omega)) ?_
 refine aQ (fF (dA bC O) O (by first | exact fJ.lX (hk _ (H.right.right.right)) (by omega) | exact fJ.xJ (hk _ (H.right.right.right)) (by omega) | exact fJ.xH (hk _ (H.right.right.right)) (by omega))) ?_
 refine uf O (bM O (dS O func50 (yD (by decide)) ?_))
 rintro _ _ ⟨rfl, rfl⟩
 refine jr O (fun h1 => ?_) (fun h1 => ?_)
 ·(try simp only [Z] at h1)
  have hd1 : keys.getD 0 0 ∈ rJ UW := h1
  refine aI ?_
  have afM := H.drew
  have CW := V.kp (afM.f3.f3.f3)
  refine uN [3, 7] CW O (gX 0 O CW O (jE 1 O CW O (gy 2 O CW 7 aN O ay O (jf 3 O CW (fun W hW => jv aC O ((Kp.h hW)).get.2 O) (gX 4 O CW O (jE 5 O CW O (gy 6 O CW 6 aN O bV O (jf 7 O CW (fun W hW => jv ah O ((Kp.h hW)).get.2 O) (iI 8 O CW (fun _ => iT ((afM.f2).aP) ah O) (iI 9 O CW (fun _ => dB O) (iI 10 O CW (fun _ => dB O) (iI 11 O CW (fun _ => dB O) (pq (aX (lQ (aA ?_))))))))))))))))
  refine iP (.inl O) rC O O O ?_
  obtain ⟨e1, e2⟩ := adD (M := M) (L := L) (p := p) (n := n) hd1
  exact ⟨by rw [e1]; rfl, by rw [e2]; exact afM.f3.f3.f3⟩
 ·(try simp only [Z] at h1)
  have hd1 : ¬ keys.getD 0 0 ∈ rJ UW := h1
  refine fV (bM O (dK O (bI 3 aN O bV O (fC ah O (H).get.2 O (aQ (oO (hk _ (H.right.right.right)) ah bK O O O (by omega)) ?_)))))
  refine dS O func51 (UZ (l := keys.drop 1) (X := VC c m e name (.slice (some ⟨bkv, okv, none⟩) (keys.length) ckv) n g lv p • jw 21 .i32 lv L • jY m M) (H.of_eq (by simp only [dH])) (fun W HW => fJ.from (hk W HW) (by omega))) ?_
  rintro _ w2 ⟨k2, rfl, hk2, HX⟩
  have HY := HX.of_eq (show _ = VC c m e name (.slice (some ⟨bkv, okv, none⟩) (keys.length) ckv) n g lv p • jw 21 .i32 lv L • jY m M • F from by simp only [dH])
  refine bJ O (pW O O (pW O O (gU O (gU O ?_))))
  obtain ⟨r, hr0⟩ : ∃ r, r = kE (keys.drop 1) := ⟨_, rfl⟩
  obtain ⟨q, hq0⟩ : ∃ q, q = Uz (keys.drop 1) := ⟨_, rfl⟩
  rw [← hr0] at hk2
  have hrn : rnM n q ≤ 1000000 := afL hn.2
  try rw [← hq0]
  refine sG O (dK O (bI 4 aN O ay O (fC aC O (HY).get.2 O (dZ O ?_))))
  refine kL [(0, _), (5, _), (6, _)] (fun (_ : Unit) => [(8, .int .i64 (rnM n q))]) (fun (_ : Unit) W => V w0 W (VC c m e name (.slice (some ⟨bkv, okv, none⟩) (keys.length) ckv) n g lv p • jw 21 .i32 lv L • jY m M • F)) vC ?_ ?_
  ·rintro _ w3 HJ
   dsimp only [List.cons_append, List.nil_append]
   refine kL [(0, _), (5, _), (6, _), (8, _)] (fun (_ : Unit) => []) (fun (_ : Unit) W => ¬ (0 < r.length ∧ r.getD 0 0 = keys.getD 0 0 ∧ keys.getD 0 0 ∈ rJ NS) ∧ V w0 W (VC c m e name (.slice (some ⟨bkv, okv, none⟩) (keys.length) ckv) n g lv p • jw 21 .i32 lv L • jY m M • F)) JF ?_ ?_
   ·rintro _ w4 ⟨hc2, HK⟩
    dsimp only [List.cons_append, List.nil_append]
    refine aI (bM O (aQ (iT (hk2 _ (HK.right.right.right)) ah O) (aQ (eF O O) (jm O (fun h2 => ?_) (fun h2 => ?_)))))
    ·(try simp only [Z] at h2)
     refine bn (bn (bn (je O O (iE (C9 (iy (gU O (gU O (fA O (aA ?_))))))))))
     refine iP (.inl O) rC O O O ?_
     obtain ⟨e1, e2⟩ := YA (M := M) (L := L) (p := p) (n := n) hd1 (by rw [← hr0]; exact hc2) (by rw [← hr0]; first | exact .inl (by omega) | exact .inr (by assumption))
     exact ⟨by rw [e1]; rfl, by rw [e2]; exact HK.f3.f3.f3⟩
    ·(try simp only [Z] at h2)
     refine aY (bJ O (aY (dS O func50 (yD (by decide)) ?_)))
     rintro _ _ ⟨rfl, rfl⟩
     refine aY (aQ (kG O) (fG O O (jr O (fun h3 => ?_) (fun h3 => ?_))))
     ·(try simp only [Z] at h3)
      refine iy (gU O (gU O (fA O (aA ?_))))
      refine iP (.inl O) rC O O O ?_
      obtain ⟨e1, e2⟩ := YA (M := M) (L := L) (p := p) (n := n) hd1 (by rw [← hr0]; exact hc2) (by rw [← hr0]; first | exact .inl (by omega) | exact .inr (by assumption))
      exact ⟨by rw [e1]; rfl, by rw [e2]; exact HK.f3.f3.f3⟩
     ·(try simp only [Z] at h3)
      refine fV (aI (aI ?_))
      have aeB := HK.drew
      have jZ := V.kp (aeB.f3.f3.f3)
      refine uN [3, 8, 15, 19, 27, 31, 33] jZ O (gX 0 O jZ O (jE 1 O jZ O (gy 2 O jZ 2 aN O eG O (jf 3 O jZ (fun W hW => jv dw O ((Kp.h hW)).get.2 O) (iI 4 O jZ (fun _ => bY O O) ?_)))))
      refine Hg 5 O O (by kernel_rfl) (by kernel_rfl) jZ (lN O) (fun h => by exfalso; (try simp only [Z] at h); exact hnc h) (fun h4 => ?_)
      (try simp only [Z] at h4)
      refine lC 6 O O O O (by kernel_rfl) (by kernel_rfl) jZ (lN O) ?_
      refine lC 7 O O O O (by kernel_rfl) (by kernel_rfl) jZ (lN O) ?_
      refine lC 8 O O O O (by kernel_rfl) (by kernel_rfl) jZ (lN O) ?_
      refine lC 9 O O O O (by kernel_rfl) (by kernel_rfl) jZ (lN O) ?_
      refine iI 10 O jZ (fun _ => Ac O O) (gX 11 O jZ O ?_)
      refine lC 12 O O O O (by kernel_rfl) (by kernel_rfl) jZ (lN O) ?_
      refine lC 13 O O O O (by kernel_rfl) (by kernel_rfl) jZ (lN O) ?_
      refine lC 14 O O O O (by kernel_rfl) (by kernel_rfl) jZ (lN O) ?_
      refine lC 15 O O O O (by kernel_rfl) (by kernel_rfl) jZ (lN O) ?_
      refine lC 16 O O O O (by kernel_rfl) (by kernel_rfl) jZ (lN O) ?_
      refine lC 17 O O O O (by kernel_rfl) (by kernel_rfl) jZ (lN O) ?_
      refine lC 18 O O O O (by kernel_rfl) (by kernel_rfl) jZ (lN O) ?_
      refine lC 19 O O O O (by kernel_rfl) (by kernel_rfl) jZ (lN O) ?_
      refine lC 20 O O O O (by kernel_rfl) (by kernel_rfl) jZ (lN O) ?_
      refine lC 21 O O O O (by kernel_rfl) (by kernel_rfl) jZ (lN O) ?_
      refine iI 22 O jZ (fun _ => Ac O O) (gX 23 O jZ O ?_)
      refine lC 24 O O O O (by kernel_rfl) (by kernel_rfl) jZ (lN O) ?_
      refine lC 25 O O O O (by kernel_rfl) (by kernel_rfl) jZ (lN O) ?_
      refine lC 26 O O O O (by kernel_rfl) (by kernel_rfl) jZ (lN O) ?_
      refine lC 27 O O O O (by kernel_rfl) (by kernel_rfl) jZ (lN O) ?_
      refine lC 28 O O O O (by kernel_rfl) (by kernel_rfl) jZ (lN O) ?_
      refine lC 29 O O O O (by kernel_rfl) (by kernel_rfl) jZ (lN O) ?_
      refine lC 30 O O O O (by kernel_rfl) (by kernel_rfl) jZ (lN O) ?_
      refine lC 31 O O O O (by kernel_rfl) (by kernel_rfl) jZ (lN O) ?_
      refine lC 32 O O O O (by kernel_rfl) (by kernel_rfl) jZ (lN O) ?_
      refine lC 33 O O O O (by kernel_rfl) (by kernel_rfl) jZ (lN O) ?_
      refine lC 34 O O O O (by kernel_rfl) (by kernel_rfl) jZ (lN O) ?_
      refine lC 35 O O O O (by kernel_rfl) (by kernel_rfl) jZ (lN O) ?_
      refine iI 36 O jZ (fun _ => Ac O O) (pq (aX (oh (fV (aI ?_)))))
      have hc3 : ¬ (r.length = 0 ∨ ¬ keys.getD 0 0 ∈ rJ NS) := by rintro (b1 | b1); omega; contradiction
      obtain ⟨e1, e2⟩ := adF (M := M) (L := L) (p := p) (n := n) hd1 (by rw [← hr0]; exact hc2) (by rw [← hr0]; exact hc3)
      rw [← hr0, ← hq0] at e1 e2
      refine aB (jX O O (bJ O (dS O func162 (UN aeB.f3.f3.f3 (fun W HW => hk2 _ (HW)) hT (by omega) (by omega)) ?_)))
      rintro _ w6 ⟨rfl, H6⟩
      refine bJ O (pW O O (pW O O (pW O O (gU O (gU O (uf O (bf (bM O (aQ (kG O) (dZ O (aZ O (fun h5 => ?_) (fun h5 => ?_))))))))))))
      ·(try simp only [Z] at h5)
       have hok : ¬ (M.tgt L p r (rnM n q)).2.2 = true := by have h9 := h5; simpa using h9
       refine iy (gU O (gU O (fA O (aU (aA ?_)))))
       refine iP (.inl O) rC O O O ?_
       rw [ab1 hok] at e1
       exact ⟨by rw [e1]; rfl, by rw [e2]; exact H6.f3.f3.f3⟩
      ·(try simp only [Z] at h5)
       have hok : (M.tgt L p r (rnM n q)).2.2 = true := by have h9 := h5; simpa using h9
       refine bM O (oq O O (bI 7 aN O ay O (fC aC O (H6).get.2 O (aQ (gW O O) (dZ O (aZ O (fun h6 => ?_) (fun h6 => ?_)))))))
       ·(try simp only [Z] at h6)
        refine aI ?_
        have aeC := H6.drew
        have Dy := V.kp (aeC.f3.f3.f3)
        refine uN [4] Dy O (gX 0 O Dy O (gX 1 O Dy O (jE 2 O Dy O (gy 3 O Dy 7 aN O ay O (jf 4 O Dy (fun W hW => jv aC O ((Kp.h hW)).get.2 O) (iI 5 O Dy (fun _ => dB O) (iI 6 O Dy (fun _ => dB O) (iI 7 O Dy (fun _ => dB O) (pq (aX (lQ (aU (aA ?_)))))))))))))
        refine iP (.inl O) rC O O O ?_
        rw [ab2 hok (by omega)] at e1
        exact ⟨by rw [e1]; rfl, by rw [e2]; exact aeC.f3.f3.f3⟩
       ·(try simp only [Z] at h6)
        refine bM O (dZ O (aZ O (fun h7 => ?_) (fun h7 => ?_)))
        ·(try simp only [Z] at h7)
         refine aB (bJ O (aQ (I8 O O) (gU O (bZ (aH (aX (aI ?_)))))))
         have NU := H6.drew
         have lu := V.kp (NU.f3.f3.f3)
         refine uN [3, 8] lu O (gX 0 O lu O (jE 1 O lu O (gy 2 O lu 7 aN O ay O (jf 3 O lu (fun W hW => jv aC O ((Kp.h hW)).get.2 O) (gX 4 O lu O (gX 5 O lu O (jE 6 O lu O (gy 7 O lu 6 aN O bV O (jf 8 O lu (fun W hW => jv ah O ((Kp.h hW)).get.2 O) (iI 9 O lu (fun _ => iT ((NU.f2).aP) ah O) (iI 10 O lu (fun _ => wO O O) (iI 11 O lu (fun _ => dB O) (iI 12 O lu (fun _ => dB O) (iI 13 O lu (fun _ => dB O) (pq (aX (lQ ?_)))))))))))))))))
         refine iP (.inl O) rC O O O ?_
         rw [UY hok (by omega)] at e1
         exact ⟨by rw [e1]; first | (rw [if_pos (by assumption)]; rfl) | (rw [if_neg (fun h9 => Bool.noConfusion (h9.symm.trans (show _ = false from by assumption)))]; rfl), by rw [e2]; exact NU.f3.f3.f3⟩
        ·(try simp only [Z] at h7)
         refine dh (aH (aX (aI ?_)))
         have NU := H6.drew
         have lu := V.kp (NU.f3.f3.f3)
         refine uN [3, 8] lu O (gX 0 O lu O (jE 1 O lu O (gy 2 O lu 7 aN O ay O (jf 3 O lu (fun W hW => jv aC O ((Kp.h hW)).get.2 O) (gX 4 O lu O (gX 5 O lu O (jE 6 O lu O (gy 7 O lu 6 aN O bV O (jf 8 O lu (fun W hW => jv ah O ((Kp.h hW)).get.2 O) (iI 9 O lu (fun _ => iT ((NU.f2).aP) ah O) (iI 10 O lu (fun _ => wO O O) (iI 11 O lu (fun _ => dB O) (iI 12 O lu (fun _ => dB O) (iI 13 O lu (fun _ => dB O) (pq (aX (lQ ?_)))))))))))))))))
         refine iP (.inl O) rC O O O ?_
         rw [UY hok (by omega)] at e1
         exact ⟨by rw [e1]; first | (rw [if_pos (by assumption)]; rfl) | (rw [if_neg (fun h9 => Bool.noConfusion (h9.symm.trans (show _ = false from by assumption)))]; rfl), by rw [e2]; exact NU.f3.f3.f3⟩
   ·skip
    refine bM O (aQ (iT (hk2 _ (HJ.right.right.right)) ah O) (aQ (eX O O) (jm O (fun h8 => ?_) (fun h8 => ?_))))
    ·(try simp only [Z] at h8)
     refine aY (bJ O (aY ?_))
     obtain ⟨bk2, ok2, ck2, ek2⟩ := fJ.rW (hk2 _ (HJ.right.right.right)) (by omega)
     cases ek2
     refine aQ (dM ah bK O O (by omega)) (aY ?_)
     refine aQ (fF (dA bC O) O (by first | exact fJ.lX (hk2 _ (HJ.right.right.right)) (by omega) | exact fJ.xJ (hk2 _ (HJ.right.right.right)) (by omega) | exact fJ.xH (hk2 _ (HJ.right.right.right)) (by omega))) ?_
     refine aY (bJ O (aY (aQ (eF O O) (je O O (jm O (fun h9 => ?_) (fun h9 => ?_))))))
     ·(try simp only [Z] at h9)
      refine aY (bJ O (aY (dS O func50 (yD (by decide)) ?_)))
      rintro _ _ ⟨rfl, rfl⟩
      refine je O O (jr O (fun h10 => ?_) (fun h10 => ?_))
      ·(try simp only [Z] at h10)
       refine aI ?_
       have Y0 := HJ.drew
       have xO := V.kp (Y0.f3.f3.f3)
       refine uN [3] xO O (gX 0 O xO O (jE 1 O xO O (gy 2 O xO 6 aN O bV O (jf 3 O xO (fun W hW => jv ah O ((Kp.h hW)).get.2 O) (iI 4 O xO (fun _ => iT ((Y0.f2).aP) ah O) (iI 5 O xO (fun _ => dB O) (iI 6 O xO (fun _ => dB O) (iI 7 O xO (fun _ => dB O) (pq (aX (lQ (aA ?_))))))))))))
       refine iP (.inl O) rC O O O ?_
       obtain ⟨e1, e2⟩ := adE (M := M) (L := L) (p := p) (n := n) hd1 (by rw [← hr0]; exact ⟨by omega, by assumption, by assumption⟩)
       exact ⟨by rw [e1]; rfl, by rw [e2]; exact Y0.f3.f3.f3⟩
      ·(try simp only [Z] at h10)
       refine dh ?_
       refine dD (()) ?_ ?_ ?_
       ·exact (Sub.nil _)
       ·exact JF
       ·(try dsimp only)
        first | done | exact ⟨by rintro ⟨b1, b2, b3⟩; first | omega | contradiction, HJ.f3.f3.f3⟩
     ·(try simp only [Z] at h9)
      refine bn (bn (fG O O (iE (oh (dh ?_)))))
      refine dD (()) ?_ ?_ ?_
      ·exact (Sub.nil _)
      ·exact JF
      ·(try dsimp only)
       first | done | exact ⟨by rintro ⟨b1, b2, b3⟩; first | omega | contradiction, HJ.f3.f3.f3⟩
    ·(try simp only [Z] at h8)
     refine bn (bn (bn (bn (bn (fG O O (bJ O (bn (bn (fG O O (iE (oh (dh ?_))))))))))))
     refine dD (()) ?_ ?_ ?_
     ·exact (Sub.nil _)
     ·exact JF
     ·(try dsimp only)
      first | done | exact ⟨by rintro ⟨b1, b2, b3⟩; first | omega | contradiction, HJ.f3.f3.f3⟩
  ·skip
   refine bM O (aQ (eX O O) (jr O (fun h11 => ?_) (fun h11 => ?_)))
   ·(try simp only [Z] at h11)
    refine aB (jX O O (aQ (aag O O) (aQ (wO O O) (gU O (bZ ?_)))))
    refine dD (()) ?_ ?_ ?_
    ·exact (Sub.jW O (congrArg (Value.int .i64) (by unfold rnM; first | rw [if_pos (by omega)] | rw [if_neg (by omega)])) (Sub.nil _))
    ·exact vC
    ·(try dsimp only)
     first | done | exact HY.f3.f3.f3
   ·(try simp only [Z] at h11)
    refine dh ?_
    refine dD (()) ?_ ?_ ?_
    ·exact (Sub.jW O (congrArg (Value.int .i64) (by unfold rnM; first | rw [if_pos (by omega)] | rw [if_neg (by omega)])) (Sub.nil _))
    ·exact vC
    ·(try dsimp only)
     first | done | exact HY.f3.f3.f3
end
end Go.Proofs.YtpdeedplgmbopaaGreatDoor
end
section
namespace Go.Proofs.YtpdeedplgmbopaaGreatDoor
open Go.RowKit
section
variable {w0 w : World} {F : HP} {c m e : Nat} {s t : bF} {name : ByteArray} {kv lv : Value} {n p i j q a r x : Int} {g : Bool} {keys l L : List Int} {k : Nat} {M : VM}
end
end Go.Proofs.YtpdeedplgmbopaaGreatDoor
end
section
namespace Go.Proofs.YtpdeedplgmbopaaGreatDoor
open Go.RowKit
open _root_.Go.Proofs.Tryz
def RQ (s : bF) (M : VM) (Q : Int → bF → VM → Prop) (x : Int) (t : bF) (M' : VM) : Prop := (Q x t M' ∧ M.name.toList ≠ [] ∧ (x ≠ 0 ∨ ¬ uY M.name)) ∨ (M.name.toList = [] ∧ x = 6 ∧ t = s ∧ M' = M) ∨ (uY M.name ∧ ∃ t0 M0, Q 0 t0 M0 ∧ Fr t0 t)
section
variable {w0 w : World} {F : HP} {c m e : Nat} {s t : bF} {name : ByteArray} {kv lv : Value} {n p i j q a r x : Int} {g : Bool} {keys l L : List Int} {k : Nat} {M : VM} {Q : Int → bF → VM → Prop}
theorem ab3 (h1 : GV w0 name keys n g s M Q) (H : V w0 w (VC c m e name kv n g lv s.c.pt • jw 21 .i32 lv s.c.L • jY m M • eH e s • F)) (hk : jh w0 F .i32 kv keys) :
    iQ prog 124 #[.pointer (some ⟨c, 0, none⟩)] w fun v W' => ∃ x t M', Q x t M' ∧ v = .int .i64 x ∧ V w0 W' (VC c m e name kv n g lv s.c.pt • jw 21 .i32 lv s.c.L • jY m M' • eH e t • F) := h1 _ _ _ _ _ _ _ H hk
theorem ZH (H : V w0 w (VC c m e name kv n g lv s.c.pt • jw 21 .i32 lv s.c.L • jY m M • eH e s • F)) (hone : M.name.toList ≠ [] → GV w0 M.name M.keys (if g = true then n else M.n) g s M Q) :
  iQ prog 171 #[.pointer (some ⟨c, 0, none⟩)] w fun v w' => ∃ x t M', RQ s M Q x t M' ∧ v = .int .i64 x ∧ V w0 w' (VC c m e name kv n g lv s.c.pt • jw 21 .i32 lv s.c.L • jY m M' • eH e t • F) := by
 obtain ⟨hln, hpt⟩ := BG H.f4
 refine ji func171 ntmps171 ?_
 refine ku O (aI ?_)
 obtain ⟨NG, KJ, Ju, tX, wL⟩ := (H.f3).vm
 have V6 := wL.f4
 have adG := (V6).sQ
 have Ho5 := adG.f5
 have RU := (Ho5).sQ
 refine aB (oq O O (bI 0 aN O vX O (fC fO O (RU.f7).get.2 O (dK O (bI 3 gQ O rO O (aQ (pY 3 (xs := [_, _, _, _]) jd O rO O O (RU.f5).get.2 O) (kF (iR (l := [_, _, _, _]) RU zeroValue117 O) ?_)))))))
 rintro _ w6 ⟨b6, rfl, H6⟩
 refine aJ (dG 0 (l' := [_, _, _, _]) (us := [_, _, _, _]) H6 rO O O O (aG (bg (by first | rfl | exact Rd.one ((H6.f2).kD)) (aG (bg (by first | rfl | exact Rd.one ((H6.f4).kD)) bW)))) O O) ?_
 rintro _ w7 H7
 have Ho8 := H7.f4.f3.f7.f7
 have Vr := V.CS (M := M) tX Ho8
 refine rP (iy (bI 0 jd O eG O (fC dw O (Vr.f2).get.2 O (aQ (bY O O) (jr O (fun h1 => ?_) (fun h1 => ?_))))))
 ·(try simp only [Z] at h1)
  have hn0 : M.name.toList = [] := by have h9 := h1; rw [h9, ByteArray.toList_eq]
  refine kC O (aA (dI results171 O ?_))
  exact ⟨_, _, _, .inr (.inl ⟨hn0, O, O, O⟩), O, Vr.f2.right.f2.right.f2.right.f4.f2.f4.f4⟩
 ·(try simp only [Z] at h1)
  have hn0 : M.name.toList ≠ [] := fun h9 => h1 (by rw [h9, ByteArray.toList_eq])
  refine fV (aI ?_)
  have akj := tX.1
  have ahA := Vr.drew
  have qX := V.kp (ahA.f7.f7.f7.f7.f7.f7.f7)
  refine uN [3, 7, 9, 11, 14, 18, 22, 26] qX O (gX 0 O qX O (jE 1 O qX O (gy 2 O qX 0 aN O vX O (jf 3 O qX (fun W hW => jv fO O ((Kp.h hW).f5).get.2 O) (gX 4 O qX O (jE 5 O qX O (gy 6 O qX 1 aN O jM O (jf 7 O qX (fun W hW => jv dU O ((Kp.h hW).f5).get.2 O) (gy 8 O qX 0 jd O eG O (jf 9 O qX (fun W hW => jv dw O ((Kp.h hW).f2).get.2 O) (gy 10 O qX 1 jd O bV O (jf 11 O qX (fun W hW => jv ah O ((Kp.h hW).f2).get.2 O) (gy 13 O qX 2 jd O ay O (jf 14 O qX (fun W hW => jv aC O ((Kp.h hW).f2).get.2 O) (gX 15 O qX O (jE 16 O qX O (gy 17 O qX 5 aN O aS O (jf 18 O qX (fun W hW => jv cZ O ((Kp.h hW).f5).get.2 O) (gX 19 O qX O (jE 20 O qX O (gy 21 O qX 6 aN O bV O (jf 22 O qX (fun W hW => jv ah O ((Kp.h hW).f5).get.2 O) (gX 23 O qX O (jE 24 O qX O (gy 25 O qX 7 aN O ay O (jf 26 O qX (fun W hW => jv aC O ((Kp.h hW).f5).get.2 O) (mQ 12 O (wR O func71 (oL ahA (fun W HW => (HW.f3).kD) (by omega))) ?_)))))))))))))))))))))))))))
  rintro u10 w10 pz
  have PL := V.kp (pz.f8.f8.f8.f8.f8.f8.f8.f8)
  refine fD PL (fun W hW => (Kp.h hW).right.f7.f7.f7.f7.f7.f7.f7) ?_
  refine iI 27 O PL (fun _ => fU (zl := [.pointer none, .pointer none, .string .empty, .slice none 0 0, .int .i64 0, .bool false, .slice none 0 0, .int .i64 0]) (pl := [(0, 1), (1, 1), (2, 1), (3, 1), (4, 1), (5, 1), (6, 1), (7, 1)]) [_, _, _, _, _, _, _, _] aN zeroValue130 O (fun w => by kernel_rfl) O (.on (.on (.on (.one (Rd.one ((pz).aP)) (.on (.on (.one (Rd.one ((pz.f7).aP)) (.on .nil)))))))) O) ?_
  refine mQ 28 O (jF (l := [_, _, _, _, _, _, _, _]) pz O O) ?_
  rintro _ FM ⟨b11, rfl, rY⟩
  have Aq := V.kp (rY.f9.f9.f9.f9.f9.f9.f9.f9.f9)
  refine iK Aq (by kernel_rfl) ?_
  refine iI 29 O Aq (fun _ => dB O) (pq (aX ?_))
  refine kL [(0, _), (3, _), (4, _)] (fun (_ : Unit) => []) (fun (_ : Unit) W => V w0 W (VC b11 m e M.name u10 (if g = true then n else M.n) g lv s.c.pt • VC c m e name kv n g lv s.c.pt • jw 21 .i32 lv s.c.L • jY m M • eH e s • eP b6 (.cells #[.string M.name, KJ, .int .i64 M.n, Ju] 117 (0, 0)) • pF .i32 Ju M.typed • jw 21 .i32 u10 M.keys • F)) vC ?_ ?_
  ·rintro _ w12 HJ
   dsimp only [List.cons_append, List.nil_append]
   refine aI (bM O (dS O func124 (ab3 (hone hn0) HJ.f5.f5.f5.f4 (fun W HW => (HW.f4).aP)) ?_))
   rintro _ PD ⟨x, t, M2, hQ, rfl, xI⟩
   refine dZ O (bM O (aQ (gY O O) (jr O (fun h2 => ?_) (fun h2 => ?_))))
   ·(try simp only [Z] at h2)
    have hxn : ¬ x = 0 := h2
    refine bM O (fA O (aA (dI results171 O ?_)))
    exact ⟨_, _, _, .inl ⟨hQ, hn0, .inl hxn⟩, O, xI.right.f5.right.f5.right.f5.right.f3.f3.f3.f4⟩
   ·(try simp only [Z] at h2)
    have hx0 : x = 0 := h2
    have hQ0 : Q 0 t M2 := hx0 ▸ hQ
    refine fV (aI (iy (bI 0 jd O eG O (fC dw O (xI.f6).get.2 O (dS O func125 (II xI) ?_)))))
    rintro _ Pz ⟨rfl, yF⟩
    refine bJ O (pW O O (pW O O (gU O (dZ O (bM O (aQ (kG O) (jr O (fun h3 => ?_) (fun h3 => ?_))))))))
    ·(try simp only [Z] at h3)
     have hnt : ¬ uY M.name := by have h9 := h3; simpa using h9
     refine kC O (aA (dI results171 O ?_))
     exact ⟨_, _, _, .inl ⟨hQ0, hn0, .inr hnt⟩, O, yF.right.f5.right.f5.right.f5.right.f3.f3.f3.f4⟩
    ·(try simp only [Z] at h3)
     have hnt : uY M.name := by have h9 := h3; simpa using h9
     refine fV (aI ?_)
     have hb9 := BG (yF.f4)
     have htl := tX.2.1
     refine aB (oq O O (bI 1 aN O jM O (fC dU O (yF.f5).get.2 O (dS O func28 (nI yF.f4) ?_))))
     rintro _ QI ⟨u15, rfl, yA⟩
     refine aQ (oK 1 iD O O (dA aC O) O O) (dZ O (bM O (uf O (iy (bI 0 jd O eG O (fC dw O (yA.f7).get.2 O (aQ (bY O O) (jr O (fun h4 => ?_) (fun h4 => ?_)))))))))
     ·(try simp only [Z] at h4)
      have Xp := yA.drew
      have yE := V.kp (Xp.f2.right.f8.f8.f8.f8.f8.f8.f8.f8)
      refine uN [2, 8] yE O (gX 0 O yE O (gy 1 O yE 3 jd O bV O (jf 2 O yE (fun W hW => jv ah O ((Kp.h hW).f6).get.2 O) (iI 3 O yE (fun _ => iT ((Xp.f8).kD) ah O) (iI 4 O yE (fun _ => fQ O O (by omega)) (gX 5 O yE O (jE 6 O yE O (gy 7 O yE 1 aN O jM O (jf 8 O yE (fun W hW => jv dU O ((Kp.h hW).f5).get.2 O) (mQ 9 O (wR O func28 (nI Xp.f2)) ?_))))))))))
      rintro _ w16 ⟨u16, rfl, vN⟩
      have yI := V.kp (vN.f10.f10.f10.f10.f10.f10.f10.f10.f10.f10)
      refine fD yI (fun W hW => (Kp.h hW).right.right.f8.f8.f8.f8.f8.f8.f8.f8) ?_
      refine iI 10 O yI (fun _ => oK 0 iD O O (dA ah O) O O) (iI 11 O yI (fun _ => iT ((vN).aP) ah O) (iI 12 O yI (fun _ => wO O O) (iI 13 O yI (fun _ => dB O) (pq (aX (aI (aI ?_)))))))
      have ab4 := vN.drew
      have zO := V.kp (ab4.f10.f10.f10.f10.f10.f10.f10.f10.f10.f10)
      refine uN [3, 7] zO O (gX 0 O zO O (jE 1 O zO O (gy 2 O zO 1 aN O jM O (jf 3 O zO (fun W hW => jv dU O ((Kp.h hW).f7).get.2 O) (gX 4 O zO O (gX 5 O zO O (gy 6 O zO 3 jd O bV O (jf 7 O zO (fun W hW => jv ah O ((Kp.h hW).f8).get.2 O) (mQ 8 O (wR O func188 (tN ab4.f2 (fun W HW => (HW.f8).kD))) ?_)))))))))
      rintro _ Z5 ⟨rfl, DF⟩
      have Ep := V.kp (DF.f10.f10.f10.f10.f10.f10.f10.f10.f10.f10)
      refine iK Ep (by kernel_rfl) ?_
      refine iI 9 O Ep (fun _ => dB O) (pq (aX (bM O (aQ (gY O O) (jr O (fun h5 => ?_) (fun h5 => ?_))))))
      ·(try simp only [Z] at h5)
       refine bM O (fA O (aA (dI results171 O ?_)))
       exact ⟨_, _, _, .inr (.inr ⟨hnt, _, _, hQ0, IQ _ _ _ _⟩), O, DF.f2.right.f2.right.f2.right.f5.right.f5.right.f5.right.f3.f3.f4⟩
      ·(try simp only [Z] at h5)
       refine fV (aI ?_)
       have Wy := DF.f9.right
       obtain ⟨NG, KJ, Ju, tX, wL⟩ := (Wy.f6).vm
       refine aB (oq O O (bI 0 aN O vX O (fC fO O (wL.f10).get.2 O (dK O (bI 7 gQ O ay O (aJ (gB 7 (l' := [_, _, _, _, _, _, _, _]) wL ay O O (by first | rfl | assumption) O O) ?_))))))
       rintro _ w20 E8
       have aa8 := E8.f4.f4.f4.f4
       have Ze := V.CS (M := { M2 with frm := -1 }) tX aa8
       refine sG O (dK O (bI 1 aN O jM O (fC dU O (Ze.f7).get.2 O (dS O func192 (JY Ze.f2) ?_))))
       rintro _ w23 ⟨rfl, BK⟩
       refine sG O (dK O (bI 1 aN O jM O (fC dU O (BK.f7).get.2 O (dS O func62 (EF BK) ?_))))
       rintro _ w24 ⟨rfl, Oi⟩
       refine rP ?_
       have hb8 := BG (Oi)
       have ab5 := Oi.drew
       have zQ := V.kp (ab5.right.f8.f8.f8.f8.f8.f8.f8.f8)
       refine uN [3, 7] zQ O (gX 0 O zQ O (jE 1 O zQ O (gy 2 O zQ 1 aN O jM O (jf 3 O zQ (fun W hW => jv dU O ((Kp.h hW).f6).get.2 O) (gX 4 O zQ O (jE 5 O zQ O (gy 6 O zQ 1 aN O jM O (jf 7 O zQ (fun W hW => jv dU O ((Kp.h hW).f6).get.2 O) (mQ 8 O (wR O func28 (nI ab5)) ?_)))))))))
       rintro _ w25 ⟨u25, rfl, Sz⟩
       have JW := V.kp (Sz.f10.f10.f10.f10.f10.f10.f10.f10.f10.f10)
       refine fD JW (fun W hW => (Kp.h hW).right.right.f8.f8.f8.f8.f8.f8.f8.f8) ?_
       refine iI 9 O JW (fun _ => oK 1 iD O O (dA aC O) O O) (iI 10 O JW (fun _ => jk O O (by omega)) (iI 11 O JW (fun _ => SH O O) (mQ 12 O (wR O func30 (tK Sz.f2)) ?_)))
       rintro _ w26 ⟨rfl, Tf⟩
       have Ye := V.kp (Tf.f10.f10.f10.f10.f10.f10.f10.f10.f10.f10)
       refine iK Ye (by kernel_rfl) ?_
       refine iI 13 O Ye (fun _ => dB O) (pq (aX (lQ (dI results171 O ?_))))
       exact ⟨_, _, _, .inr (.inr ⟨hnt, _, _, hQ0, (((IQ _ _ _ _).trans (Yy _ _)).trans (Yz _ _)).trans (Yx _ _)⟩), O, Tf.f2.right.f3.right.f3.right.f3.right.f5.right.f5.right.f2.f3.f4⟩
     ·(try simp only [Z] at h4)
      refine fV (aI (aI ?_))
      have ab6 := yA.drew
      have zS := V.kp (ab6.f9.f9.f9.f9.f9.f9.f9.f9.f9)
      refine uN [3, 7] zS O (gX 0 O zS O (jE 1 O zS O (gy 2 O zS 1 aN O jM O (jf 3 O zS (fun W hW => jv dU O ((Kp.h hW).f6).get.2 O) (gX 4 O zS O (gX 5 O zS O (gy 6 O zS 3 jd O bV O (jf 7 O zS (fun W hW => jv ah O ((Kp.h hW).f7).get.2 O) (mQ 8 O (wR O func188 (tN ab6.f2 (fun W HW => (HW.f7).kD))) ?_)))))))))
      rintro _ w27 ⟨rfl, KR⟩
      have Yf := V.kp (KR.f9.f9.f9.f9.f9.f9.f9.f9.f9)
      refine iK Yf (by kernel_rfl) ?_
      refine iI 9 O Yf (fun _ => dB O) (pq (aX (bM O (aQ (gY O O) (jr O (fun h6 => ?_) (fun h6 => ?_))))))
      ·(try simp only [Z] at h6)
       refine bM O (fA O (aA (dI results171 O ?_)))
       exact ⟨_, _, _, .inr (.inr ⟨hnt, _, _, hQ0, IQ _ _ _ _⟩), O, KR.f2.right.f2.right.f5.right.f5.right.f5.right.f3.f3.f4⟩
      ·(try simp only [Z] at h6)
       refine fV (aI ?_)
       have ai5 := KR.f8.right
       obtain ⟨NG, KJ, Ju, tX, wL⟩ := (ai5.f5).vm
       refine aB (oq O O (bI 0 aN O vX O (fC fO O (wL.f9).get.2 O (dK O (bI 7 gQ O ay O (aJ (gB 7 (l' := [_, _, _, _, _, _, _, _]) wL ay O O (by first | rfl | assumption) O O) ?_))))))
       rintro _ w30 Vm
       have ai6 := Vm.f4.f4.f4.f4
       have ahB := V.CS (M := { M2 with frm := -1 }) tX ai6
       refine sG O (dK O (bI 1 aN O jM O (fC dU O (ahB.f6).get.2 O (dS O func192 (JY ahB.f2) ?_))))
       rintro _ w33 ⟨rfl, Vp⟩
       refine sG O (dK O (bI 1 aN O jM O (fC dU O (Vp.f6).get.2 O (dS O func62 (EF Vp) ?_))))
       rintro _ w34 ⟨rfl, X6⟩
       refine rP ?_
       have hb8 := BG (X6)
       have ab7 := X6.drew
       have zT := V.kp (ab7.right.f7.f7.f7.f7.f7.f7.f7)
       refine uN [3, 7] zT O (gX 0 O zT O (jE 1 O zT O (gy 2 O zT 1 aN O jM O (jf 3 O zT (fun W hW => jv dU O ((Kp.h hW).f5).get.2 O) (gX 4 O zT O (jE 5 O zT O (gy 6 O zT 1 aN O jM O (jf 7 O zT (fun W hW => jv dU O ((Kp.h hW).f5).get.2 O) (mQ 8 O (wR O func28 (nI ab7)) ?_)))))))))
       rintro _ w35 ⟨u35, rfl, H35⟩
       have JX := V.kp (H35.f9.f9.f9.f9.f9.f9.f9.f9.f9)
       refine fD JX (fun W hW => (Kp.h hW).right.right.f7.f7.f7.f7.f7.f7.f7) ?_
       refine iI 9 O JX (fun _ => oK 1 iD O O (dA aC O) O O) (iI 10 O JX (fun _ => jk O O (by omega)) (iI 11 O JX (fun _ => SH O O) (mQ 12 O (wR O func30 (tK H35.f2)) ?_)))
       rintro _ w36 ⟨rfl, H36⟩
       have Yg := V.kp (H36.f9.f9.f9.f9.f9.f9.f9.f9.f9)
       refine iK Yg (by kernel_rfl) ?_
       refine iI 13 O Yg (fun _ => dB O) (pq (aX (lQ (dI results171 O ?_))))
       exact ⟨_, _, _, .inr (.inr ⟨hnt, _, _, hQ0, (((IQ _ _ _ _).trans (Yy _ _)).trans (Yz _ _)).trans (Yx _ _)⟩), O, H36.f2.right.f3.right.f3.right.f5.right.f5.right.f2.f3.f4⟩
  ·skip
   refine bM O (dK O (bI 5 aN O aS O (fC cZ O (rY.f7).get.2 O (jr O (fun h7 => ?_) (fun h7 => ?_)))))
   ·(try simp only [Z] at h7)
    refine aB (jX O O (dK O (bI 4 aN O ay O (fC aC O (rY.f7).get.2 O (dK O (bI 4 aN O ay O (aJ (gB 4 (l' := [_, _, _, _, _, _, _, _]) rY ay O O (by first | rfl | assumption) O O) ?_)))))))
    rintro _ w37 H37
    refine bZ ?_
    refine dD (()) ?_ ?_ ?_
    ·exact (Sub.nil _)
    ·exact vC
    ·(try dsimp only)
     first | done | exact (by first | (rw [if_pos (by assumption)]; exact H37.f5.right.f2.f5.f5.f8.f6.f8.f8.f8) | (rw [if_neg (by rw [show g = false from by assumption]; decide)]; exact H37.f5.right.f2.f5.f5.f8.f6.f8.f8.f8))
   ·(try simp only [Z] at h7)
    refine dh ?_
    refine dD (()) ?_ ?_ ?_
    ·exact (Sub.nil _)
    ·exact vC
    ·(try dsimp only)
     first | done | exact (by first | (rw [if_pos (by assumption)]; exact rY.f5.right.f2.f5.f5.f8.f6.f8.f8.f8) | (rw [if_neg (by rw [show g = false from by assumption]; decide)]; exact rY.f5.right.f2.f5.f5.f8.f6.f8.f8.f8))
end
end Go.Proofs.YtpdeedplgmbopaaGreatDoor
end
section
namespace Go.Proofs.YtpdeedplgmbopaaGreatDoor
open Go.RowKit
section
variable {w0 w : World} {F : HP} {c m e : Nat} {s t : bF} {name : ByteArray} {kv lv : Value} {n p i j q a r x : Int} {g : Bool} {keys l L : List Int} {k : Nat} {M : VM}
theorem ab8 (hw : jS name keys = 0) : 1 ≤ keys.length := by
  by_cases h : AP name
  · by_cases h0 : keys.length = 0
    · rw [UC h h0] at hw; exact absurd hw (by decide)
    · omega
  · rw [Jt h] at hw; exact absurd hw (by decide)
theorem afN (hw : jS name keys = 0) (hc : name.toList = pI.toList ∨ name.toList = GU.toList) : 2 ≤ keys.length := by
  have h1 := ab8 hw
  by_cases h : AP name
  · by_cases h2 : keys.length = 1
    · have hm : ¬ name.toList = uX.toList := by
        rcases hc with e | e <;> rw [e] <;> exact fB (by decide)
      rw [NC h ((lG hm hc).2 h2)] at hw; exact absurd hw (by decide)
    · omega
  · rw [Jt h] at hw; exact absurd hw (by decide)
end
end Go.Proofs.YtpdeedplgmbopaaGreatDoor
end
section
namespace Go.Proofs.YtpdeedplgmbopaaGreatDoor
open Go.RowKit
open _root_.Go.Proofs.Tryz
def dDs : ByteArray := ⟨#[100, 68]⟩
namespace bF
variable (s : bF)
def Xq (M : VM) (keys : List Int) (n : Int) : Int × bF × VM :=
  if (M.reach s.c.L s.c.pt keys n).2.2 = true then (s.Xk (M.reach s.c.L s.c.pt keys n).1 (M.reach s.c.L s.c.pt keys n).2.1, s.RJ (M.reach s.c.L s.c.pt keys n).1 (M.reach s.c.L s.c.pt keys n).2.1, M.AZ s.c.L s.c.pt keys n) else (6, s, M.AZ s.c.L s.c.pt keys n)
def afO (M : VM) (keys : List Int) (n : Int) : Int × bF × VM := if keys.getD 0 0 ∈ rJ dDs then s.Xq M keys n else (6, s, M)
def Xt (M : VM) (name : ByteArray) (keys : List Int) (n : Int) : Int × bF × VM :=
  if name.toList = J9.toList then (s.Yp keys n, s.Qk keys n, M) else if name.toList = sN.toList then s.afO M keys n else ((s.AX name keys n).1, (s.AX name keys n).2, M)
end bF
def Gn (n : ByteArray) : Prop := n.toList = J9.toList ∨ n.toList = sN.toList ∨ n.toList = GR.toList ∨ n.toList = pI.toList
theorem zU : mg sN = dDs := by unfold mg; rw [if_pos rfl]; rfl
theorem U0 : mg pI = ⟨#[]⟩ := by
  unfold mg
  rw [if_neg (fB (by decide)), if_neg (fB (by decide)), if_neg (fB (by decide)), if_neg (fB (by decide)), if_neg (fB (by decide)), if_neg (fB (by decide)), if_neg (fB (by decide)), if_neg (fB (by decide))]
theorem U1 : mg GR = ⟨#[]⟩ := by
  unfold mg
  rw [if_neg (fB (by decide)), if_neg (fB (by decide)), if_neg (fB (by decide)), if_neg (fB (by decide)), if_neg (fB (by decide)), if_neg (fB (by decide)), if_neg (fB (by decide)), if_neg (fB (by decide))]
theorem U2 : mg Cb = ⟨#[]⟩ := by
  unfold mg
  rw [if_neg (fB (by decide)), if_neg (fB (by decide)), if_neg (fB (by decide)), if_neg (fB (by decide)), if_neg (fB (by decide)), if_neg (fB (by decide)), if_neg (fB (by decide)), if_neg (fB (by decide))]
section
variable {w0 w : World} {F : HP} {c m e : Nat} {s t : bF} {name : ByteArray} {kv lv : Value} {n p i j q a r x : Int} {g : Bool} {keys l L : List Int} {k : Nat} {M : VM}
theorem aeD (h : (M.reach s.c.L s.c.pt keys n).2.2 = true) : s.Xq M keys n = (s.Xk (M.reach s.c.L s.c.pt keys n).1 (M.reach s.c.L s.c.pt keys n).2.1, s.RJ (M.reach s.c.L s.c.pt keys n).1 (M.reach s.c.L s.c.pt keys n).2.1, M.AZ s.c.L s.c.pt keys n) := if_pos h
theorem aeE (h : ¬ (M.reach s.c.L s.c.pt keys n).2.2 = true) : s.Xq M keys n = (6, s, M.AZ s.c.L s.c.pt keys n) := if_neg h
theorem ab9 (H : V w0 w (VC c m e sN kv n g lv s.c.pt • jw 21 .i32 lv s.c.L • jY m M • eH e s • F)) (hk : jh w0 F .i32 kv keys) (hT : vZ w0) (hk1 : 1 ≤ keys.length) (hn : 1 ≤ n ∧ n ≤ 1000000) : iQ prog 163 #[.pointer (some ⟨c, 0, none⟩)] w fun v w' => v = .int .i64 (s.Xq M keys n).1 ∧ V w0 w' (VC c m e sN kv n g lv s.c.pt • jw 21 .i32 lv s.c.L • jY m (s.Xq M keys n).2.2 • eH e (s.Xq M keys n).2.1 • F) := by
  obtain ⟨Yk, hp⟩ := BG H.f4
  have hnc : ¬ sN.toList = Dv.toList := fB (by decide)
  refine ji func163 ntmps163 ?_
  refine ku O (bM O (dS O func184 (Xo H.f3.f3.f3 (fun W HW => hk _ (HW.right)) hT hnc hk1 Yk hp hn) ?_))
  rintro _ w1 ⟨rfl, H1⟩
  refine bJ O (pW O O (pW O O (pW O O (gU O (gU O (uf O (bM O (aQ (kG O) (jr O (fun h1 => ?_) (fun h1 => ?_))))))))))
  · (try simp only [Z] at h1)
    have hok : ¬ (M.reach s.c.L s.c.pt keys n).2.2 = true := by have h9 := h1; simpa using h9
    refine kC O (aA (dI Ku O ?_))
    exact ⟨by rw [aeE hok], by rw [aeE hok]; exact H1.f4.f4.f4.f4⟩
  · (try simp only [Z] at h1)
    have hok : (M.reach s.c.L s.c.pt keys n).2.2 = true := by have h9 := h1; simpa using h9
    refine fV (aI (bf (bM O (dK O (bI 2 aN O eG O (fC dw O (H1).get.2 O (aQ (bY O O) (jm O (fun h => by exfalso; (try simp only [Z] at h); exact absurd h (fB (by decide))) (fun h2 => ?_)))))))))
    (try simp only [Z] at h2)
    refine bn (bn (bn (fG O O (dZ O (oh (bM O (dK O (bI 2 aN O eG O (fC dw O (H1).get.2 O (aQ (bY O O) (dZ O (aZ O (fun h => by exfalso; (try simp only [Z] at h); exact absurd h (fB (by decide))) (fun h3 => ?_)))))))))))))
    (try simp only [Z] at h3)
    refine bM O (dK O (bI 2 aN O eG O (fC dw O (H1).get.2 O (aQ (bY O O) (dZ O (aZ O (fun h4 => ?_) (fun h => by exfalso; (try simp only [Z] at h); exact h O)))))))
    (try simp only [Z] at h4)
    refine bM O (jX O O (dS O func164 (Yq H1.f4.f2) ?_))
    rintro _ w2 ⟨rfl, H2⟩
    refine fA O (aU (aA (dI Ku O ?_)))
    exact ⟨by rw [aeD hok], by rw [aeD hok]; exact H2.f2.f4.f4.f4⟩
theorem Xu (hT : vZ w0) (hk1 : 1 ≤ keys.length) (hn : 1 ≤ n ∧ n ≤ 1000000) : GV w0 sN keys n g s M fun x t M' => (x, t, M') = s.afO M keys n := by
  intro F w c m e kv lv H hk
  refine ji func124 ntmps124 ?_
  refine ku O (aI (bM O (dK O (bI 2 aN O eG O (fC dw O (H).get.2 O (dS O func160 (vY) ?_))))))
  rintro _ _ ⟨rfl, rfl⟩
  refine dZ O (bM O (aQ (kM O O) (jm O (fun h1 => ?_) (fun h => by exfalso; (try simp only [Z] at h); exact absurd h (by rw [zU]; exact fB (by decide))))))
  (try simp only [Z] at h1)
  refine aY (bJ O (aY (dK O (aY (bI 3 aN O bV O (aY (fC ah O (H).get.2 O (aY ?_))))))))
  obtain ⟨bkv, okv, ckv, ekv⟩ := fJ.rW (hk _ (H.right.right.right.right)) (by omega)
  cases ekv
  refine aQ (dM ah bK O O (by omega)) (aY ?_)
  refine aQ (fF (dA bC O) O (by first | exact fJ.lX (hk _ (H.right.right.right.right)) (by omega) | exact fJ.xJ (hk _ (H.right.right.right.right)) (by omega) | exact fJ.xH (hk _ (H.right.right.right.right)) (by omega))) ?_
  refine aY (bJ O (aY (dS O func50 (yD (by rw [zU]; decide)) ?_)))
  rintro _ _ ⟨rfl, rfl⟩
  refine aY (aQ (kG O) (je O O (jr O (fun h2 => ?_) (fun h2 => ?_))))
  · (try simp only [Z] at h2)
    have hin : ¬ keys.getD 0 0 ∈ rJ dDs := by have h9 := h2; rw [zU] at h9; exact h9
    refine kC O (aA (dI qo O ?_))
    exact ⟨_, _, _, (if_neg hin).symm, O, H.f4.f4.f4.f4⟩
  · (try simp only [Z] at h2)
    have hin : keys.getD 0 0 ∈ rJ dDs := by have h9 := h2; rw [zU] at h9; exact h9
    refine fV (aI (bM O (dK O (bI 2 aN O eG O (fC dw O (H).get.2 O (iE (bf (iy (aQ (bY O O) (dZ O (aZ O (fun h => by exfalso; (try simp only [Z] at h); exact absurd h (fB (by decide))) (fun h3 => ?_))))))))))))
    (try simp only [Z] at h3)
    refine iy (aQ (bY O O) (dZ O (aZ O (fun h => by exfalso; (try simp only [Z] at h); exact absurd h (fB (by decide))) (fun h4 => ?_))))
    (try simp only [Z] at h4)
    refine aI (iy (aQ (bY O O) (dZ O (aZ O (fun h5 => ?_) (fun h => by exfalso; (try simp only [Z] at h); exact h O)))))
    (try simp only [Z] at h5)
    refine fV (aZ O (fun h6 => ?_) (fun h => by exfalso; (try simp only [Z] at h); exact h O))
    (try simp only [Z] at h6)
    refine bM O (dS O func163 (ab9 H.f4.f4.f4.f4 (fun W HW => hk _ (HW)) hT hk1 hn) ?_)
    rintro _ w3 ⟨rfl, H3⟩
    refine fA O (aU (aA (dI qo O ?_)))
    exact ⟨_, _, _, (if_pos hin).symm, O, H3.f4.f4.f4.f4⟩
end
section
variable {w0 w : World} {F : HP} {c m e : Nat} {s t : bF} {name : ByteArray} {kv lv : Value} {n p i j q a r x : Int} {g : Bool} {keys l L : List Int} {k : Nat} {M : VM} {Q : Int → bF → VM → Prop}
theorem ZI (hk2 : 2 ≤ keys.length) (hn : 1 ≤ n ∧ n ≤ 1000000) : GV w0 pI keys n g s M fun x t M' => (x, t, M') = ((s.AX pI keys n).1, (s.AX pI keys n).2, M) := by
 intro F w c m e kv lv H hk
 refine ji func124 ntmps124 ?_
 refine ku O (aI (bM O (dK O (bI 2 aN O eG O (fC dw O (H).get.2 O (dS O func160 (vY) ?_))))))
 rintro _ _ ⟨rfl, rfl⟩
 refine dZ O (bM O (aQ (kM O O) (jm O (fun h => by exfalso; (try simp only [Z] at h); exact h (by rw [U0])) (fun h1 => ?_))))
 (try simp only [Z] at h1)
 refine bn (bn (bn (bn (bn (bn (bn (bn (bn (fG O O (iE (oh (fV (aI (bM O (dK O (bI 2 aN O eG O (fC dw O (H).get.2 O (iE (bf (iy (aQ (bY O O) (dZ O (aZ O (fun h => by exfalso; (try simp only [Z] at h); exact absurd h (fB (by decide))) (fun h2 => ?_))))))))))))))))))))))))
 (try simp only [Z] at h2)
 refine iy (aQ (bY O O) (dZ O (aZ O (fun h => by exfalso; (try simp only [Z] at h); exact absurd h (fB (by decide))) (fun h3 => ?_))))
 (try simp only [Z] at h3)
 refine aI (iy (aQ (bY O O) (dZ O (aZ O (fun h => by exfalso; (try simp only [Z] at h); exact absurd h (fB (by decide))) (fun h4 => ?_)))))
 (try simp only [Z] at h4)
 refine iy (aQ (bY O O) (dZ O (aZ O (fun h => by exfalso; (try simp only [Z] at h); exact absurd h (fB (by decide))) (fun h5 => ?_))))
 (try simp only [Z] at h5)
 refine aB (aQ (bY O O) (dZ O (aZ O (fun h => by exfalso; (try simp only [Z] at h); exact absurd h (fB (by decide))) (fun h6 => ?_))))
 (try simp only [Z] at h6)
 refine iy (aQ (bY O O) (dZ O (aZ O (fun h => by exfalso; (try simp only [Z] at h); exact absurd h (fB (by decide))) (fun h7 => ?_))))
 (try simp only [Z] at h7)
 refine iy (aQ (bY O O) (dZ O (aZ O (fun h => by exfalso; (try simp only [Z] at h); exact absurd h (fB (by decide))) (fun h8 => ?_))))
 (try simp only [Z] at h8)
 refine aI (iy (aQ (bY O O) (dZ O (aZ O (fun h9 => ?_) (fun h => by exfalso; (try simp only [Z] at h); exact h O)))))
 (try simp only [Z] at h9)
 refine fV (aZ O (fun h10 => ?_) (fun h => by exfalso; (try simp only [Z] at h); exact h O))
 (try simp only [Z] at h10)
 refine bM O (dS O func166 (Ql H.f4.f3.f3 (fun W HW => hk _ (HW.right)) (fun _ => hk2) hn) ?_)
 rintro _ w2 ⟨rfl, H2⟩
 refine fA O (aU (aA (dI qo O ?_)))
 exact ⟨_, _, _, O, O, H2.f3.f4.f4.f4⟩
theorem ZJ (hk1 : 1 ≤ keys.length) (hn : 1 ≤ n ∧ n ≤ 1000000) : GV w0 GR keys n g s M fun x t M' => (x, t, M') = ((s.AX GR keys n).1, (s.AX GR keys n).2, M) := by
 intro F w c m e kv lv H hk
 refine ji func124 ntmps124 ?_
 refine ku O (aI (bM O (dK O (bI 2 aN O eG O (fC dw O (H).get.2 O (dS O func160 (vY) ?_))))))
 rintro _ _ ⟨rfl, rfl⟩
 refine dZ O (bM O (aQ (kM O O) (jm O (fun h => by exfalso; (try simp only [Z] at h); exact h (by rw [U1])) (fun h1 => ?_))))
 (try simp only [Z] at h1)
 refine bn (bn (bn (bn (bn (bn (bn (bn (bn (fG O O (iE (oh (fV (aI (bM O (dK O (bI 2 aN O eG O (fC dw O (H).get.2 O (iE (bf (iy (aQ (bY O O) (dZ O (aZ O (fun h => by exfalso; (try simp only [Z] at h); exact absurd h (fB (by decide))) (fun h2 => ?_))))))))))))))))))))))))
 (try simp only [Z] at h2)
 refine iy (aQ (bY O O) (dZ O (aZ O (fun h => by exfalso; (try simp only [Z] at h); exact absurd h (fB (by decide))) (fun h3 => ?_))))
 (try simp only [Z] at h3)
 refine aI (iy (aQ (bY O O) (dZ O (aZ O (fun h => by exfalso; (try simp only [Z] at h); exact absurd h (fB (by decide))) (fun h4 => ?_)))))
 (try simp only [Z] at h4)
 refine iy (aQ (bY O O) (dZ O (aZ O (fun h => by exfalso; (try simp only [Z] at h); exact absurd h (fB (by decide))) (fun h5 => ?_))))
 (try simp only [Z] at h5)
 refine aB (aQ (bY O O) (dZ O (aZ O (fun h => by exfalso; (try simp only [Z] at h); exact absurd h (fB (by decide))) (fun h6 => ?_))))
 (try simp only [Z] at h6)
 refine iy (aQ (bY O O) (dZ O (aZ O (fun h => by exfalso; (try simp only [Z] at h); exact absurd h (fB (by decide))) (fun h7 => ?_))))
 (try simp only [Z] at h7)
 refine iy (aQ (bY O O) (dZ O (aZ O (fun h => by exfalso; (try simp only [Z] at h); exact absurd h (fB (by decide))) (fun h8 => ?_))))
 (try simp only [Z] at h8)
 refine aI (iy (aQ (bY O O) (dZ O (aZ O (fun h => by exfalso; (try simp only [Z] at h); exact absurd h (fB (by decide))) (fun h9 => ?_)))))
 (try simp only [Z] at h9)
 refine aB (aQ (bY O O) (dZ O (aZ O (fun h10 => ?_) (fun h => by exfalso; (try simp only [Z] at h); exact h O))))
 (try simp only [Z] at h10)
 refine bM O (dS O func166 (Ql H.f4.f3.f3 (fun W HW => hk _ (HW.right)) (fun h => absurd h (fB (by decide))) hn) ?_)
 rintro _ w2 ⟨rfl, H2⟩
 refine fA O (aU (aA (dI qo O ?_)))
 exact ⟨_, _, _, O, O, H2.f3.f4.f4.f4⟩
theorem GV.imp {Q' : Int → bF → VM → Prop} (h : GV w0 name keys n g s M Q) (hi : ∀ x t M', Q x t M' → Q' x t M') : GV w0 name keys n g s M Q' := fun F W c m e kv lv H hk =>
  (h F W c m e kv lv H hk).mono fun v w' ⟨x, t, M', q, h1, h2⟩ => ⟨x, t, M', hi _ _ _ q, h1, h2⟩
theorem U3 (hT : vZ w0) (h4 : Gn name) (hw : jS name keys = 0) (hn : 1 ≤ n ∧ n ≤ 1000000) : GV w0 name keys n g s M fun x t M' => (x, t, M') = s.Xt M name keys n := by
  have hk1 := ab8 hw
  rcases h4 with h | h | h | h
  · obtain rfl := IK h
    refine (abV hk1 hn).imp fun x t M' ⟨h1, h2, h3⟩ => ?_
    subst h1 h2 h3
    exact (if_pos rfl).symm
  · obtain rfl := IK h
    refine (Xu hT hk1 hn).imp fun x t M' h1 => h1.trans ?_
    exact ((if_neg (fB (by decide))).trans (if_pos rfl)).symm
  · obtain rfl := IK h
    refine (ZJ hk1 hn).imp fun x t M' h1 => h1.trans ?_
    exact ((if_neg (fB (by decide))).trans (if_neg (fB (by decide)))).symm
  · obtain rfl := IK h
    refine (ZI (afN hw (.inl rfl)) hn).imp fun x t M' h1 => h1.trans ?_
    exact ((if_neg (fB (by decide))).trans (if_neg (fB (by decide)))).symm
theorem adH (h : Gn name) : ¬ uY name ∧ name.toList ≠ [] := by
  constructor
  · intro ht
    unfold uY at ht
    rcases h with h | h | h | h <;> rw [h] at ht <;> rcases ht with ht | ht | ht | ht <;> exact absurd ht (fB (by decide))
  · intro ht
    rcases h with h | h | h | h <;> rw [h, ByteArray.toList_eq] at ht <;> exact absurd ht (by decide)
theorem aca (h : Gn name) : uY name ∨ qV name := by
  unfold qV
  rcases h with h | h | h | h
  · exact .inr (.inr (.inr (.inl h)))
  · exact .inr (.inr (.inr (.inr (.inl h))))
  · exact .inr (.inl h)
  · exact .inr (.inr (.inl h))
theorem ZK (hT : vZ w0) (h4 : Gn M.name) (hw : jS M.name M.keys = 0) (hn : 1 ≤ n ∧ n ≤ 1000000) (hMn : 1 ≤ M.n ∧ M.n ≤ 1000000) : GV w0 Cb keys n g s M fun x t M' => (x, t, M') = s.Xt M M.name M.keys (if g = true then n else M.n) := by
  intro F w c m e kv lv H hk
  have hone : M.name.toList ≠ [] → GV w0 M.name M.keys (if g = true then n else M.n) g s M fun x t M' => (x, t, M') = s.Xt M M.name M.keys (if g = true then n else M.n) := fun _ => U3 hT h4 hw (by cases g <;> simp <;> omega)
  obtain ⟨hc1, hc2⟩ := adH h4
  refine ji func124 ntmps124 ?_
  refine ku O (aI (bM O (dK O (bI 2 aN O eG O (fC dw O (H).get.2 O (dS O func160 (vY) ?_))))))
  rintro _ _ ⟨rfl, rfl⟩
  refine dZ O (bM O (aQ (kM O O) (jm O (fun h => by exfalso; (try simp only [Z] at h); exact h (by rw [U2])) (fun h1 => ?_))))
  (try simp only [Z] at h1)
  refine bn (bn (bn (bn (bn (bn (bn (bn (bn (fG O O (iE (oh (fV (aI (bM O (dK O (bI 2 aN O eG O (fC dw O (H).get.2 O (iE (bf (iy (aQ (bY O O) (dZ O (aZ O (fun h => by exfalso; (try simp only [Z] at h); exact absurd h (fB (by decide))) (fun h2 => ?_))))))))))))))))))))))))
  (try simp only [Z] at h2)
  refine iy (aQ (bY O O) (dZ O (aZ O (fun h => by exfalso; (try simp only [Z] at h); exact absurd h (fB (by decide))) (fun h3 => ?_))))
  (try simp only [Z] at h3)
  refine aI (iy (aQ (bY O O) (dZ O (aZ O (fun h => by exfalso; (try simp only [Z] at h); exact absurd h (fB (by decide))) (fun h4 => ?_)))))
  (try simp only [Z] at h4)
  refine iy (aQ (bY O O) (dZ O (aZ O (fun h => by exfalso; (try simp only [Z] at h); exact absurd h (fB (by decide))) (fun h5 => ?_))))
  (try simp only [Z] at h5)
  refine aB (aQ (bY O O) (dZ O (aZ O (fun h => by exfalso; (try simp only [Z] at h); exact absurd h (fB (by decide))) (fun h6 => ?_))))
  (try simp only [Z] at h6)
  refine iy (aQ (bY O O) (dZ O (aZ O (fun h => by exfalso; (try simp only [Z] at h); exact absurd h (fB (by decide))) (fun h7 => ?_))))
  (try simp only [Z] at h7)
  refine iy (aQ (bY O O) (dZ O (aZ O (fun h => by exfalso; (try simp only [Z] at h); exact absurd h (fB (by decide))) (fun h8 => ?_))))
  (try simp only [Z] at h8)
  refine aI (iy (aQ (bY O O) (dZ O (aZ O (fun h => by exfalso; (try simp only [Z] at h); exact absurd h (fB (by decide))) (fun h9 => ?_)))))
  (try simp only [Z] at h9)
  refine aB (aQ (bY O O) (dZ O (aZ O (fun h => by exfalso; (try simp only [Z] at h); exact absurd h (fB (by decide))) (fun h10 => ?_))))
  (try simp only [Z] at h10)
  refine iy (aQ (bY O O) (dZ O (aZ O (fun h => by exfalso; (try simp only [Z] at h); exact absurd h (fB (by decide))) (fun h11 => ?_))))
  (try simp only [Z] at h11)
  refine aI (iy (aQ (bY O O) (dZ O (aZ O (fun h => by exfalso; (try simp only [Z] at h); exact absurd h (fB (by decide))) (fun h12 => ?_)))))
  (try simp only [Z] at h12)
  refine aB (aQ (bY O O) (dZ O (aZ O (fun h => by exfalso; (try simp only [Z] at h); exact absurd h (fB (by decide))) (fun h13 => ?_))))
  (try simp only [Z] at h13)
  refine iy (aQ (bY O O) (dZ O (aZ O (fun h => by exfalso; (try simp only [Z] at h); exact absurd h (fB (by decide))) (fun h14 => ?_))))
  (try simp only [Z] at h14)
  refine iy (aQ (bY O O) (dZ O (aZ O (fun h => by exfalso; (try simp only [Z] at h); exact absurd h (fB (by decide))) (fun h15 => ?_))))
  (try simp only [Z] at h15)
  refine iy (aQ (bY O O) (dZ O (aZ O (fun h => by exfalso; (try simp only [Z] at h); exact absurd h (fB (by decide))) (fun h16 => ?_))))
  (try simp only [Z] at h16)
  refine dh (aH (aX (bM O (dS O func171 (ZH H.f4.f4.f4.f4 hone) ?_))))
  rintro _ w2 ⟨x2, t2, M2, ai7, rfl, H2⟩
  have hq := ai7
  refine fA O (dI qo O ?_)
  rcases hq with ⟨b, _⟩ | ⟨b, _⟩ | ⟨b, _⟩ <;> first | exact ⟨_, _, _, b, rfl, H2.f4.f4.f4.f4⟩ | exact absurd b hc2 | exact absurd b hc1
end
end Go.Proofs.YtpdeedplgmbopaaGreatDoor
end
