import Derived.Test.YtgmpclifphbjkaaGreatDoorZ10
import Derived.Test.YtgmpclifphbjkaaGreatDoorZ11
import Derived.Test.YtgmpclifphbjkaaGreatDoorZ4
import Derived.Lib.OthersKept
import Derived.Lib.Bytealg
import Derived.Conc.AtomicLaws2
import Derived.Test.YtgmpclifphbjkaaGreatDoorZ8
/- Texts of mine, joined: Ed EdTwin EdA Atom Build. -/
section
/- Editors: what stands in memory. -/
set_option linter.unusedSimpArgs false
set_option linter.unusedVariables false
namespace Go.Proofs.YtgmpclifphbjkaaGreatDoor
open Go.RowKit
/-- The undo lists of some places. -/
def ULs (P : Int → Nat) (U : Int → List (List EdA)) : List Int → HP
  | [] => emp
  | k :: D => UList (P k) (U k) [] 0 • ULs P U D
def upP (D : List Int) (P : Int → Nat) : Int → Option Value := fun k => if k ∈ D then some (.pointer (some ⟨P k, 0, none⟩)) else none
theorem ULs_focus {P : Int → Nat} {U : Int → List (List EdA)} {k : Int} : ∀ {D : List Int}, k ∈ D → ULs P U D = (UList (P k) (U k) [] 0 • ULs P U (D.erase k))
  | x :: D, h => by
    by_cases e : x = k
    · subst e; rw [List.erase_cons_head]; rfl
    · rw [List.erase_cons_tail (by simpa using e)]
      have hk : k ∈ D := (List.mem_cons.1 h).resolve_left (Ne.symm e)
      show (UList (P x) (U x) [] 0 • ULs P U D) = _
      rw [ULs_focus hk]
      show (UList (P x) (U x) [] 0 • UList (P k) (U k) [] 0 • ULs P U (D.erase k)) = (UList (P k) (U k) [] 0 • (UList (P x) (U x) [] 0 • ULs P U (D.erase k)))
      ac_rfl
theorem ULs_congr {P P' : Int → Nat} {U U' : Int → List (List EdA)} : ∀ {D : List Int}, (∀ k ∈ D, P k = P' k ∧ U k = U' k) → ULs P U D = ULs P' U' D
  | [], _ => rfl
  | x :: D, h => by
    show (UList (P x) (U x) [] 0 • ULs P U D) = (UList (P' x) (U' x) [] 0 • ULs P' U' D)
    rw [(h x (by simp)).1, (h x (by simp)).2, ULs_congr fun k hk => h k (List.mem_cons_of_mem _ hk)]
def UMap (b : Nat) (U : Int → List (List EdA)) : HP := exHP fun (x : List Int × (Int → Nat)) => fact (x.1.Nodup ∧ ∀ k, k ∉ x.1 → U k = []) • MapRep kI64 b (upP x.1 x.2) • ULs x.2 U x.1
/-- The same, one place's list taken out. -/
def UHole (b : Nat) (U : Int → List (List EdA)) (k : Int) (p : Nat) : HP := exHP fun (x : List Int × (Int → Nat)) => fact (x.1.Nodup ∧ (∀ k, k ∉ x.1 → U k = []) ∧ k ∈ x.1 ∧ x.2 k = p) • MapRep kI64 b (upP x.1 x.2) • ULs x.2 U (x.1.erase k)
section
variable {w0 w : World} {F : HP} {b p : Nat} {k : Int} {U : Int → List (List EdA)} {G : List (List EdA)}
theorem Holds.umap (H : Holds w0 w (UMap b U • F)) : ∃ D P, (D : List Int).Nodup ∧ (∀ k, k ∉ D → U k = []) ∧ Holds w0 w (MapRep kI64 b (upP D P) • ULs P U D • F) := by
  obtain ⟨⟨D, P⟩, H⟩ := H.ex_sep
  obtain ⟨⟨h1, h2⟩, H⟩ := H.flat.fact
  exact ⟨D, P, h1, h2, H.flat⟩
theorem Holds.mk_umap {D : List Int} {P : Int → Nat} (h1 : D.Nodup) (h2 : ∀ k, k ∉ D → U k = []) (H : Holds w0 w (MapRep kI64 b (upP D P) • ULs P U D • F)) : Holds w0 w (UMap b U • F) :=
  Holds.mk_ex_sep (D, P) (Holds.deep (Holds.mk_fact ⟨h1, h2⟩ H.deep))
theorem Holds.uhole {D : List Int} {P : Int → Nat} (h1 : D.Nodup) (h2 : ∀ k, k ∉ D → U k = []) (hk : k ∈ D) (H : Holds w0 w (MapRep kI64 b (upP D P) • ULs P U D • F)) : Holds w0 w (UList (P k) (U k) [] 0 • UHole b U k (P k) • F) := by
  have H1 : Holds w0 w ((MapRep kI64 b (upP D P) • ULs P U (D.erase k)) • UList (P k) (U k) [] 0 • F) := H.of_eq (by rw [ULs_focus hk]; ac_rfl)
  have H2 : Holds w0 w (UHole b U k (P k) • UList (P k) (U k) [] 0 • F) := Holds.mk_ex_sep (D, P) (Holds.deep (Holds.mk_fact ⟨h1, h2, hk, rfl⟩ H1))
  exact H2.swap
/-- What was taken out goes back. -/
theorem Holds.mk_unhole (H : Holds w0 w (UHole b U k p • UList p G [] 0 • F)) : Holds w0 w (UMap b (updF U k G) • F) := by
  obtain ⟨⟨D, P⟩, H⟩ := H.ex_sep
  obtain ⟨⟨h1, h2, hk, hp⟩, H⟩ := H.flat.fact
  dsimp only at h1 h2 hk hp H
  subst hp
  refine Holds.mk_umap (D := D) (P := P) h1 (fun x hx => ?_) ?_
  · rw [updF_not _ _ (by rintro rfl; exact hx hk)]; exact h2 x hx
  · rw [ULs_focus (U := updF U k G) hk, updF_same, ULs_congr (P' := P) (U' := U) fun x hx => ⟨rfl, updF_not _ _ (by rintro rfl; exact (List.Nodup.not_mem_erase h1) hx)⟩]
    exact H.of_eq (by ac_rfl)
end
/-- The walk's texts, as a map holds them. -/
def strF (t : Int → Option ByteArray) : Int → Option Value := fun k => (t k).map .string
/-- A core in memory. -/
def CoreAt (pb pr pw pt pm : Nat) (c : CoreS) : HP := BufRep pb c.L c.pt c.mark • RingRep pr c.E c.at_ • blk pw (.cells #[.int .i64 c.place, .map (some pt)] 112 (0, 0)) • MapRep kI64 pt (strF c.tx) • UMap pm c.un
def coreL (pb pr pw pm : Nat) (c : CoreS) : List Value := [.pointer (some ⟨pb, 0, none⟩), .pointer (some ⟨pr, 0, none⟩), .pointer (some ⟨pw, 0, none⟩), .map (some pm), .int .i64 c.mode, .bool c.over, .int .i64 c.last, .int .i64 c.fr, .int .i64 c.to, .int .i64 c.res, .bool c.run]
/-- What was, within a command. -/
def WasAt (inn : Bool) (c : CoreS) (u : List Value) : HP := if inn = true then exHP fun (x : Nat × Nat × Nat × Nat × Nat) => fact (u = coreL x.1 x.2.1 x.2.2.1 x.2.2.2.2 c) • CoreAt x.1 x.2.1 x.2.2.1 x.2.2.2.1 x.2.2.2.2 c else emp
def CoreOk (hl : List HLn) (c : CoreS) : Prop := 0 ≤ c.place ∧ c.place ≤ hl.length ∧ (∀ k t, c.tx k = some t → t.size ≤ 16384)
/-- An edit that the editor noted. -/
def EdOk (e : EdA) : Prop := 0 ≤ e.1 ∧ 0 < e.2.1.length + e.2.2.length ∧ e.2.1.length ≤ 1024 ∧ e.2.2.length ≤ 1024
def EdSOk (s : EdS) : Prop := CoreOk s.hl s.c ∧ (s.inn = true → CoreOk s.hl s.was ∧ uTot (s.was.un s.was.place) [] ≤ 16384 ∧ ∀ k, ∀ g ∈ s.was.un k, ∀ e ∈ g, EdOk e) ∧ (-1 ≤ s.arg ∧ s.arg ≤ 1000000) ∧ (∀ e ∈ s.put, EdOk e) ∧ uTot s.here s.put ≤ 16384 ∧ (∀ k, ∀ g ∈ s.c.un k, ∀ e ∈ g, EdOk e)
structure EdP where
  pb : Nat
  pr : Nat
  pw : Nat
  pt : Nat
  pm : Nat
  ph : Nat
  bl : Nat
  pv : Value
  es : List BEd
  u0 : Value
  u1 : Value
  u2 : Value
  u3 : Value
  u4 : Value
  u5 : Value
  u6 : Value
  u7 : Value
  u8 : Value
  u9 : Value
  ua : Value
/-- An editor at e, but for its undo lists (M). -/
def EdG (e : Nat) (s : EdS) (M : Nat → HP) : HP := exHP fun (x : EdP) => fact (EdSOk s ∧ x.es.map BEd.says = s.put) •
  blk e (.cells (.pointer (some ⟨x.pb, 0, none⟩) :: .pointer (some ⟨x.pr, 0, none⟩) :: .pointer (some ⟨x.pw, 0, none⟩) :: .map (some x.pm) :: .int .i64 s.c.mode :: .bool s.c.over :: .int .i64 s.c.last :: .int .i64 s.c.fr :: .int .i64 s.c.to :: .int .i64 s.c.res :: .bool s.c.run :: .pointer (some ⟨x.ph, 0, none⟩) :: .pointer (some ⟨x.bl, 0, none⟩) :: .bool s.given :: .bool s.minus :: .int .i64 s.arg :: .bool s.inn :: x.u0 :: x.u1 :: x.u2 :: x.u3 :: x.u4 :: x.u5 :: x.u6 :: x.u7 :: x.u8 :: x.u9 :: x.ua :: .int .i64 s.cls :: .bool s.killed :: .bool s.yanked :: .bool s.argues :: .bool s.whole :: x.pv :: []).toArray 66 (0, 0)) •
  BufRep x.pb s.c.L s.c.pt s.c.mark • RingRep x.pr s.c.E s.c.at_ • blk x.pw (.cells #[.int .i64 s.c.place, .map (some x.pt)] 112 (0, 0)) • MapRep kI64 x.pt (strF s.c.tx) • M x.pm •
  HistRep x.ph s.hl s.base s.most • blk x.bl (.cells #[.int .i64 s.bells] 102 (0, 0)) • Row 120 3 x.pv s.put.length (x.es.flatMap BEd.enc) • edsK x.es • WasAt s.inn s.was [x.u0, x.u1, x.u2, x.u3, x.u4, x.u5, x.u6, x.u7, x.u8, x.u9, x.ua]
def EdRep (e : Nat) (s : EdS) : HP := EdG e s fun pm => UMap pm s.c.un
def EdHole (e : Nat) (s : EdS) (p : Nat) : HP := EdG e s fun pm => UHole pm s.c.un s.c.place p
section
variable {w0 w : World} {F : HP} {e : Nat} {s : EdS} {M : Nat → HP}
theorem Holds.edG (H : Holds w0 w (EdG e s M • F)) : ∃ pb pr pw pt pm ph bl pv es u0 u1 u2 u3 u4 u5 u6 u7 u8 u9 ua, EdSOk s ∧ es.map BEd.says = s.put ∧ es.length = s.put.length ∧ Holds w0 w (
  blk e (.cells (.pointer (some ⟨pb, 0, none⟩) :: .pointer (some ⟨pr, 0, none⟩) :: .pointer (some ⟨pw, 0, none⟩) :: .map (some pm) :: .int .i64 s.c.mode :: .bool s.c.over :: .int .i64 s.c.last :: .int .i64 s.c.fr :: .int .i64 s.c.to :: .int .i64 s.c.res :: .bool s.c.run :: .pointer (some ⟨ph, 0, none⟩) :: .pointer (some ⟨bl, 0, none⟩) :: .bool s.given :: .bool s.minus :: .int .i64 s.arg :: .bool s.inn :: u0 :: u1 :: u2 :: u3 :: u4 :: u5 :: u6 :: u7 :: u8 :: u9 :: ua :: .int .i64 s.cls :: .bool s.killed :: .bool s.yanked :: .bool s.argues :: .bool s.whole :: pv :: []).toArray 66 (0, 0)) •
  BufRep pb s.c.L s.c.pt s.c.mark • RingRep pr s.c.E s.c.at_ • blk pw (.cells #[.int .i64 s.c.place, .map (some pt)] 112 (0, 0)) • MapRep kI64 pt (strF s.c.tx) • M pm •
  HistRep ph s.hl s.base s.most • blk bl (.cells #[.int .i64 s.bells] 102 (0, 0)) • Row 120 3 pv s.put.length (es.flatMap BEd.enc) • edsK es • WasAt s.inn s.was [u0, u1, u2, u3, u4, u5, u6, u7, u8, u9, ua] • F) := by
  obtain ⟨⟨pb, pr, pw, pt, pm, ph, bl, pv, es, u0, u1, u2, u3, u4, u5, u6, u7, u8, u9, ua⟩, H⟩ := H.ex_sep
  obtain ⟨⟨h1, h2⟩, H⟩ := H.flat.fact
  refine ⟨pb, pr, pw, pt, pm, ph, bl, pv, es, u0, u1, u2, u3, u4, u5, u6, u7, u8, u9, ua, h1, h2, ?_, ?_⟩
  · rw [← h2]; simp
  · dsimp only at H
    exact H.of_eq (by simp only [sep_assoc])
theorem Holds.mk_edG {pb pr pw pt pm ph bl : Nat} {pv : Value} {es : List BEd} {u0 u1 u2 u3 u4 u5 u6 u7 u8 u9 ua : Value} (h1 : EdSOk s) (h2 : es.map BEd.says = s.put) (H : Holds w0 w (
  blk e (.cells (.pointer (some ⟨pb, 0, none⟩) :: .pointer (some ⟨pr, 0, none⟩) :: .pointer (some ⟨pw, 0, none⟩) :: .map (some pm) :: .int .i64 s.c.mode :: .bool s.c.over :: .int .i64 s.c.last :: .int .i64 s.c.fr :: .int .i64 s.c.to :: .int .i64 s.c.res :: .bool s.c.run :: .pointer (some ⟨ph, 0, none⟩) :: .pointer (some ⟨bl, 0, none⟩) :: .bool s.given :: .bool s.minus :: .int .i64 s.arg :: .bool s.inn :: u0 :: u1 :: u2 :: u3 :: u4 :: u5 :: u6 :: u7 :: u8 :: u9 :: ua :: .int .i64 s.cls :: .bool s.killed :: .bool s.yanked :: .bool s.argues :: .bool s.whole :: pv :: []).toArray 66 (0, 0)) •
  BufRep pb s.c.L s.c.pt s.c.mark • RingRep pr s.c.E s.c.at_ • blk pw (.cells #[.int .i64 s.c.place, .map (some pt)] 112 (0, 0)) • MapRep kI64 pt (strF s.c.tx) • M pm •
  HistRep ph s.hl s.base s.most • blk bl (.cells #[.int .i64 s.bells] 102 (0, 0)) • Row 120 3 pv s.put.length (es.flatMap BEd.enc) • edsK es • WasAt s.inn s.was [u0, u1, u2, u3, u4, u5, u6, u7, u8, u9, ua] • F)) : Holds w0 w (EdG e s M • F) :=
  Holds.mk_ex_sep ⟨pb, pr, pw, pt, pm, ph, bl, pv, es, u0, u1, u2, u3, u4, u5, u6, u7, u8, u9, ua⟩ (Holds.deep (Holds.mk_fact ⟨h1, h2⟩ (H.of_eq (by simp only [sep_assoc]))))
theorem Holds.mk_ed {pb pr pw pt pm ph bl : Nat} {pv : Value} {es : List BEd} {u0 u1 u2 u3 u4 u5 u6 u7 u8 u9 ua : Value} (h1 : EdSOk s) (h2 : es.map BEd.says = s.put) (H : Holds w0 w (
  blk e (.cells (.pointer (some ⟨pb, 0, none⟩) :: .pointer (some ⟨pr, 0, none⟩) :: .pointer (some ⟨pw, 0, none⟩) :: .map (some pm) :: .int .i64 s.c.mode :: .bool s.c.over :: .int .i64 s.c.last :: .int .i64 s.c.fr :: .int .i64 s.c.to :: .int .i64 s.c.res :: .bool s.c.run :: .pointer (some ⟨ph, 0, none⟩) :: .pointer (some ⟨bl, 0, none⟩) :: .bool s.given :: .bool s.minus :: .int .i64 s.arg :: .bool s.inn :: u0 :: u1 :: u2 :: u3 :: u4 :: u5 :: u6 :: u7 :: u8 :: u9 :: ua :: .int .i64 s.cls :: .bool s.killed :: .bool s.yanked :: .bool s.argues :: .bool s.whole :: pv :: []).toArray 66 (0, 0)) •
  BufRep pb s.c.L s.c.pt s.c.mark • RingRep pr s.c.E s.c.at_ • blk pw (.cells #[.int .i64 s.c.place, .map (some pt)] 112 (0, 0)) • MapRep kI64 pt (strF s.c.tx) • UMap pm s.c.un •
  HistRep ph s.hl s.base s.most • blk bl (.cells #[.int .i64 s.bells] 102 (0, 0)) • Row 120 3 pv s.put.length (es.flatMap BEd.enc) • edsK es • WasAt s.inn s.was [u0, u1, u2, u3, u4, u5, u6, u7, u8, u9, ua] • F)) : Holds w0 w (EdRep e s • F) := Holds.mk_edG (M := fun pm => UMap pm s.c.un) h1 h2 H
theorem Holds.edO (H : Holds w0 w (EdRep e s • F)) : ∃ pb pr pw pt pm ph bl pv es u0 u1 u2 u3 u4 u5 u6 u7 u8 u9 ua, EdSOk s ∧ es.map BEd.says = s.put ∧ es.length = s.put.length ∧ Holds w0 w (
  blk e (.cells (.pointer (some ⟨pb, 0, none⟩) :: .pointer (some ⟨pr, 0, none⟩) :: .pointer (some ⟨pw, 0, none⟩) :: .map (some pm) :: .int .i64 s.c.mode :: .bool s.c.over :: .int .i64 s.c.last :: .int .i64 s.c.fr :: .int .i64 s.c.to :: .int .i64 s.c.res :: .bool s.c.run :: .pointer (some ⟨ph, 0, none⟩) :: .pointer (some ⟨bl, 0, none⟩) :: .bool s.given :: .bool s.minus :: .int .i64 s.arg :: .bool s.inn :: u0 :: u1 :: u2 :: u3 :: u4 :: u5 :: u6 :: u7 :: u8 :: u9 :: ua :: .int .i64 s.cls :: .bool s.killed :: .bool s.yanked :: .bool s.argues :: .bool s.whole :: pv :: []).toArray 66 (0, 0)) •
  BufRep pb s.c.L s.c.pt s.c.mark • RingRep pr s.c.E s.c.at_ • blk pw (.cells #[.int .i64 s.c.place, .map (some pt)] 112 (0, 0)) • MapRep kI64 pt (strF s.c.tx) • UMap pm s.c.un •
  HistRep ph s.hl s.base s.most • blk bl (.cells #[.int .i64 s.bells] 102 (0, 0)) • Row 120 3 pv s.put.length (es.flatMap BEd.enc) • edsK es • WasAt s.inn s.was [u0, u1, u2, u3, u4, u5, u6, u7, u8, u9, ua] • F) := H.edG
end
end Go.Proofs.YtgmpclifphbjkaaGreatDoor
end
section
/- A core's twin. -/
set_option linter.unusedSimpArgs false
set_option linter.unusedVariables false
namespace Go.Proofs.YtgmpclifphbjkaaGreatDoor
open Go.RowKit
/-- What a map holds, of some keys. -/
def resF {β : Type} (f : Int → Option β) (S : List Int) : Int → Option β := fun k => if k ∈ S then f k else none
theorem resF_nil {β : Type} (f : Int → Option β) : resF f [] = fun _ => none := by funext k; simp [resF]
theorem resF_snoc {β : Type} {f : Int → Option β} {S : List Int} {a : Int} {u : β} (h : f a = some u) : resF f (S ++ [a]) = upd (resF f S) a u := by
  funext k
  unfold resF upd
  by_cases hk : k = a
  · subst hk; simp [h]
  · simp [hk]
theorem resF_all {β : Type} {f : Int → Option β} {S : List Int} (h : ∀ a u, f a = some u → a ∈ S) : resF f S = f := by
  funext k
  unfold resF
  split
  · rfl
  · rename_i hk
    cases hf : f k with
    | none => rfl
    | some u => exact absurd (h k u hf) hk
theorem upP_nil (P : Int → Nat) : upP [] P = fun _ => none := by funext k; simp [upP]
theorem upP_some {D : List Int} {P : Int → Nat} {a : Int} {u : Value} (h : upP D P a = some u) : a ∈ D ∧ u = .pointer (some ⟨P a, 0, none⟩) := by
  unfold upP at h
  split at h
  · rename_i hm; exact ⟨hm, by cases h; rfl⟩
  · cases h
theorem upP_snoc {S : List Int} {P : Int → Nat} {a : Int} {q : Nat} (h : a ∉ S) : upP (S ++ [a]) (updF P a q) = upd (upP S P) a (.pointer (some ⟨q, 0, none⟩)) := by
  funext k
  unfold upP upd updF
  by_cases hk : k = a
  · subst hk; simp
  · simp [hk]
theorem ULs_snoc {P : Int → Nat} {U : Int → List (List EdA)} {a : Int} : ∀ {S : List Int}, ULs P U (S ++ [a]) = (ULs P U S • UList (P a) (U a) [] 0)
  | [] => by show (UList (P a) (U a) [] 0 • emp) = (emp • UList (P a) (U a) [] 0); rw [sep_emp, emp_sep]
  | x :: S => by
    show (UList (P x) (U x) [] 0 • ULs P U (S ++ [a])) = ((UList (P x) (U x) [] 0 • ULs P U S) • UList (P a) (U a) [] 0)
    rw [ULs_snoc, sep_assoc]
theorem isSome_no {α : Type} {o : Option α} (h : ¬ o.isSome = true) : o = none := by cases o <;> simp_all
theorem nodup_snoc {S : List Int} {a : Int} (h : S.Nodup) (ha : a ∉ S) : (S ++ [a]).Nodup := by
  rw [List.nodup_append]
  exact ⟨h, by simp, by intro x hx y hy; rw [List.mem_singleton.1 hy]; rintro rfl; exact ha hx⟩
section
variable {w0 w : World} {F : HP} {pb pr pw pt pm : Nat} {c : CoreS}
theorem twin_ret (H : Holds w0 w (BufRep pb c.L c.pt c.mark • RingRep pr c.E c.at_ • blk pw (.cells #[.int .i64 c.place, .map (some pt)] 112 (0, 0)) • MapRep kI64 pt (strF c.tx) • UMap pm c.un • F)) :
    Ret Tryz.prog 44 #[.agg #[.pointer (some ⟨pb, 0, none⟩), .pointer (some ⟨pr, 0, none⟩), .pointer (some ⟨pw, 0, none⟩), .map (some pm), .int .i64 c.mode, .bool c.over, .int .i64 c.last, .int .i64 c.fr, .int .i64 c.to, .int .i64 c.res, .bool c.run]] w fun v w' =>
      ∃ qb qr qw qt qm, v = .agg #[.pointer (some ⟨qb, 0, none⟩), .pointer (some ⟨qr, 0, none⟩), .pointer (some ⟨qw, 0, none⟩), .map (some qm), .int .i64 c.mode, .bool c.over, .int .i64 c.last, .int .i64 c.fr, .int .i64 c.to, .int .i64 c.res, .bool c.run] ∧
        Holds w0 w' (BufRep qb c.L c.pt c.mark • RingRep qr c.E c.at_ • blk qw (.cells #[.int .i64 c.place, .map (some qt)] 112 (0, 0)) • MapRep kI64 qt (strF c.tx) • UMap qm c.un •
          BufRep pb c.L c.pt c.mark • RingRep pr c.E c.at_ • blk pw (.cells #[.int .i64 c.place, .map (some pt)] 112 (0, 0)) • MapRep kI64 pt (strF c.tx) • UMap pm c.un • F) := by
  refine ret_enter Tryz.func44 rfl Tryz.ntmps44 (Nat.le_of_ble_eq_true rfl) ?_
  dsimp only [slots0, Nat.reduceAdd]
  refine wc_seq ?_
  refine wc_region ?_
  refine wl_eff (e_boxL (l := [_, _, _, _, _, _, _, _, _, _, _]) H rfl rfl) (ltn rfl) ?_
  rintro _ w1 ⟨b1, rfl, H1⟩
  refine wl_eff (e_allocL (l := [_, _, _, _, _, _, _, _, _, _, _]) H1 Tryz.zeroValue62 rfl) (ltn rfl) ?_
  rintro _ w2 ⟨b2, rfl, H2⟩
  refine wl_nil ?_
  refine wq_seq ?_
  refine wc_seq ?_
  have H1d2 := H2.drew
  have hS1d2 := Holds.kp (H1d2.f7.f7.f7.f7.f7.f7.f7)
  refine wd_beginK [1, 4] hS1d2 (by kernel_rfl) (by kernel_rfl) rfl ?_
  refine wd_takeT 0 rfl (by kernel_rfl) (by kernel_rfl) hS1d2 (fun _ => r_fieldA 0 Tryz.underlying62 rfl rfl Tryz.sizeOf57 (by decide) rfl (by first | exact Nat.zero_add _ | rfl)) (ltn rfl) ?_
  refine wd_take 1 rfl (by kernel_rfl) (by kernel_rfl) hS1d2 (by decide) (fun W hW => r_load (plain_of Tryz.underlying57 rfl) rfl (cell_of_blk ((Kp.h hW).f2).get.2 rfl)) (ltn rfl) ?_
  refine wd_takeT 3 rfl (by kernel_rfl) (by kernel_rfl) hS1d2 (fun _ => r_fieldA 1 Tryz.underlying62 rfl rfl Tryz.sizeOf58 (by decide) rfl (by first | exact Nat.zero_add _ | rfl)) (ltn rfl) ?_
  refine wd_take 4 rfl (by kernel_rfl) (by kernel_rfl) hS1d2 (by decide) (fun W hW => r_load (plain_of Tryz.underlying58 rfl) rfl (cell_of_blk ((Kp.h hW).f2).get.2 rfl)) (ltn rfl) ?_
  refine wd_eff 2 rfl (by kernel_rfl) (e_call (r_call rfl Tryz.func111 rfl rfl) (buf_clone_ret H1d2.f3)) (ltn rfl) ?_
  rintro _ w3 ⟨q3, rfl, H3⟩
  have hS3n := Holds.kp (H3.f8.f8.f8.f8.f8.f8.f8.f8)
  refine keepK hS3n (fun W hW => (Kp.h hW).right.f7.f7.f7.f7.f5.f7.f7) ?_
  refine wd_takeT 6 rfl (by kernel_rfl) (by kernel_rfl) hS3n (fun _ => r_fieldA 0 Tryz.underlying62 rfl rfl Tryz.sizeOf57 (by decide) rfl (by first | exact Nat.zero_add _ | rfl)) (ltn rfl) ?_
  refine wd_eff 5 rfl (by kernel_rfl) (e_call (r_call rfl Tryz.func72 rfl rfl) (ring_clone_ret H3.f5)) (ltn rfl) ?_
  rintro _ w4 ⟨pc4, rfl, H4⟩
  have hS4n := Holds.kp (H4.f9.f9.f9.f9.f9.f9.f9.f9.f9)
  refine keepX hS4n (by kernel_rfl) ?_
  refine wd_eff0 7 rfl (by kernel_rfl) (e_storeL 0 (l' := [_, _, _, _, _, _, _, _, _, _, _]) H4.f6 Tryz.sizeOf57 rfl rfl (by first | rfl | assumption) rfl rfl) ?_
  rintro _ w5 H5
  have hS5n := Holds.kp (H5.f9.f9.f9.f9.f9.f9.f9.f9.f9)
  refine keepX hS5n (by kernel_rfl) ?_
  refine wd_takeT 8 rfl (by kernel_rfl) (by kernel_rfl) hS5n (fun _ => r_fieldA 1 Tryz.underlying62 rfl rfl Tryz.sizeOf58 (by decide) rfl (by first | exact Nat.zero_add _ | rfl)) (ltn rfl) ?_
  refine wd_eff0 9 rfl (by kernel_rfl) (e_storeL 1 (l' := [_, _, _, _, _, _, _, _, _, _, _]) H5 Tryz.sizeOf58 rfl rfl (by first | rfl | assumption) rfl rfl) ?_
  rintro _ w6 H6
  have hS6n := Holds.kp (H6.f9.f9.f9.f9.f9.f9.f9.f9.f9)
  refine keepX hS6n (by kernel_rfl) ?_
  refine wd_done (by kernel_rfl) ?_
  refine wq_seq ?_
  refine wc_seq ?_
  refine wc_region ?_
  refine wl_val (r_fieldA 2 Tryz.underlying62 rfl rfl Tryz.sizeOf59 (by decide) rfl (by first | exact Nat.zero_add _ | rfl)) (ltn rfl) ?_
  refine wl_val (r_load (plain_of Tryz.underlying59 rfl) rfl (cell_of_blk (H6).get.2 rfl)) (ltn rfl) ?_
  refine wl_val (r_nil rfl) (ltn rfl) ?_
  refine wl_val (r_fieldA 0 Tryz.underlying112 rfl rfl Tryz.sizeOf3 (by decide) rfl (by first | exact Nat.zero_add _ | rfl)) (ltn rfl) ?_
  refine wl_val (r_load (plain_of Tryz.underlying3 rfl) rfl (cell_of_blk (H6.f7).get.2 rfl)) (ltn rfl) ?_
  refine wl_eff (e_makeMap (kInt .i64) H6) (ltn rfl) ?_
  rintro _ w7 ⟨b7, rfl, H7⟩
  refine wl_val (r_build (pl := #[(0, 1), (1, 1)]) (#[_, _]) Tryz.underlying112 Tryz.zeroValue112 (fun w => by kernel_rfl) rfl (rfl)) (ltn rfl) ?_
  refine wl_eff (e_boxL (l := [_, _]) H7 rfl rfl) (ltn rfl) ?_
  rintro _ w8 ⟨b8, rfl, H8⟩
  refine wl_val (r_assign rfl) (ltn rfl) ?_
  refine wl_nil ?_
  refine wq_seq ?_
  refine wc_seq ?_
  refine wc_seq ?_
  refine wc_region ?_
  refine wl_val (r_fieldA 2 Tryz.underlying62 rfl rfl Tryz.sizeOf59 (by decide) rfl (by first | exact Nat.zero_add _ | rfl)) (ltn rfl) ?_
  refine wl_val (r_load (plain_of Tryz.underlying59 rfl) rfl (cell_of_blk (H8.f3).get.2 rfl)) (ltn rfl) ?_
  refine wl_val (r_nil rfl) (ltn rfl) ?_
  refine wl_val (r_fieldA 1 Tryz.underlying112 rfl rfl Tryz.sizeOf110 (by decide) rfl (by first | exact Nat.zero_add _ | rfl)) (ltn rfl) ?_
  refine wl_val (r_load (plain_of Tryz.underlying110 rfl) rfl (cell_of_blk (H8.f9).get.2 rfl)) (ltn rfl) ?_
  refine wl_eff (e_range_map H8.f10 Tryz.underlying110 rfl) (ltn rfl) ?_
  rintro _ w9 ⟨it9, mi, rfl, H9⟩
  refine wl_nil ?_
  refine wq_seq ?_
  refine wc_block ?_
  obtain ⟨R10, hR10, HR10⟩ := Holds.hide3 (H9.f2.f3.f3)
  have HX0 := HR10
  rw [← resF_nil (strF c.tx)] at HX0
  refine wc_loop [(1, _), (2, _), (3, _), (30, _)] (fun (⟨S, n⟩ : List Int × Nat) => []) (fun (⟨S, n⟩ : List Int × Nat) W => Holds w0 W (MapIt kI64 pt it9 (strF c.tx) S n • MapRep kI64 b7 (resF (strF c.tx) S) • blk b8 (.cells #[.int .i64 c.place, .map (some b7)] 112 (0, 0)) • R10)) (fun (⟨S, n⟩ : List Int × Nat) => n) (([], _)) (Sub.cons rfl (Sub.cons rfl (Sub.cons rfl (Sub.cons rfl (Sub.nil _))))) (Sub.nil _) HX0 ?_
  rintro ⟨S, n⟩ w11 HL
  dsimp only [List.cons_append, List.nil_append]
  refine wc_seq ?_
  refine wc_region ?_
  refine wl_eff (e_next_map HL rfl) (ltn rfl) ?_
  rintro _ w12 ⟨ox, Sx, mx, rfl, hNx, H12⟩
  refine wl_val (r_nx0 rfl) (ltn rfl) ?_
  refine wl_nil ?_
  refine wq_seq ?_
  refine wc_seq ?_
  refine wc_cond rfl (fun h1 => ?_) (fun h1 => ?_)
  · (try simp only [cmpS] at h1)
    try (exfalso; first | contradiction | omega)
    all_goals
      obtain ⟨⟨a, u⟩, rfl⟩ := Option.isSome_iff_exists.1 h1
      obtain ⟨ha, hns, hlt, rfl⟩ := hNx
      refine wc_skip ?_
      refine wq_seq ?_
      refine wc_block ?_
      refine wc_seq ?_
      refine wc_region ?_
      refine wl_val (r_entry (H12) (by assumption) rfl) (ltn rfl) ?_
      refine wl_val (r_extract rfl rfl) (ltn rfl) ?_
      refine wl_val (r_extract rfl rfl) (ltn rfl) ?_
      refine wl_val (r_assign rfl) (ltn rfl) ?_
      refine wl_val (r_assign rfl) (ltn rfl) ?_
      refine wl_nil ?_
      refine wq_seq ?_
      refine wc_region ?_
      refine wl_val (r_move rfl) (ltn rfl) ?_
      refine wl_val (r_nil rfl) (ltn rfl) ?_
      refine wl_val (r_fieldA 1 Tryz.underlying112 rfl rfl Tryz.sizeOf110 (by decide) rfl (by first | exact Nat.zero_add _ | rfl)) (ltn rfl) ?_
      refine wl_val (r_load (plain_of Tryz.underlying110 rfl) rfl (cell_of_blk (H12.f3).get.2 rfl)) (ltn rfl) ?_
      refine wl_val (r_move rfl) (ltn rfl) ?_
      refine wl_val (r_move rfl) (ltn rfl) ?_
      refine wl_eff0 (e_mapUpdate H12.f2 Tryz.underlying110 Tryz.underlying3 rfl rfl rfl) ?_
      rintro _ w13 H13
      refine wl_nil ?_
      refine wq_block_normal ?_
      have hres := resF_snoc (S := S) ha
      refine wq_round ((S ++ [a], mx)) ?_ ?_ ?_ ?_
      · exact (Sub.nil _)
      · exact (Sub.cons rfl (Sub.cons rfl (Sub.cons rfl (Sub.cons rfl (Sub.nil _)))))
      · (try dsimp only)
        first | done | exact (by rw [hres]; exact H13.f3.f2.f3)
      · (try dsimp only); omega
  · (try simp only [cmpS] at h1)
    try (exfalso; first | contradiction | omega)
    all_goals
      obtain rfl := isSome_no (o := ox) (by simp [h1])
      obtain ⟨rfl, rfl, hall⟩ := hNx
      refine wc_exit ?_
      refine wq_then_exit ?_
      have HX := H12.f3.f2.f3
      rw [resF_all hall] at HX
      have Ho14 := HX.f2
      have Hc15 := Ho14.mapIt_map
      subst hR10
      refine wq_then_exit ?_
      refine wq_block_hit ?_
      refine wq_seq ?_
      refine wc_seq ?_
      refine wc_region ?_
      refine wl_val (r_move rfl) (ltn rfl) ?_
      refine wl_val (r_fieldA 2 Tryz.underlying62 rfl rfl Tryz.sizeOf59 (by decide) rfl (by first | exact Nat.zero_add _ | rfl)) (ltn rfl) ?_
      refine wl_eff0 (e_storeL 2 (l' := [_, _, _, _, _, _, _, _, _, _, _]) Hc15.f4 Tryz.sizeOf59 rfl rfl (by first | rfl | assumption) rfl rfl) ?_
      rintro _ w16 H16
      refine wl_nil ?_
      refine wq_seq ?_
      refine wc_seq ?_
      refine wc_region ?_
      refine wl_eff (e_makeMap (kInt .i64) H16) (ltn rfl) ?_
      rintro _ w17 ⟨b17, rfl, H17⟩
      refine wl_val (r_assign rfl) (ltn rfl) ?_
      refine wl_nil ?_
      refine wq_seq ?_
      refine wc_seq ?_
      refine wc_seq ?_
      obtain ⟨D, P, hD1, hD2, HU⟩ := (H17.f12).umap
      refine wc_region ?_
      refine wl_val (r_fieldA 3 Tryz.underlying62 rfl rfl Tryz.sizeOf60 (by decide) rfl (by first | exact Nat.zero_add _ | rfl)) (ltn rfl) ?_
      refine wl_val (r_load (plain_of Tryz.underlying60 rfl) rfl (cell_of_blk (HU.f4).get.2 rfl)) (ltn rfl) ?_
      refine wl_eff (e_range_map HU Tryz.underlying60 rfl) (ltn rfl) ?_
      rintro _ w18 ⟨it18, mi, rfl, H18⟩
      refine wl_nil ?_
      refine wq_seq ?_
      refine wc_block ?_
      obtain ⟨R19, hR19, HR19⟩ := Holds.hide3 (H18.f3.f3.f3)
      have HX0 := HR19
      rw [← upP_nil P] at HX0
      refine wc_loop [(1, _), (2, _), (6, _), (47, _)] (fun (⟨S, n, P2⟩ : List Int × Nat × (Int → Nat)) => []) (fun (⟨S, n, P2⟩ : List Int × Nat × (Int → Nat)) W => S.Nodup ∧ Holds w0 W (MapIt kI64 pm it18 (upP D P) S n • ULs P c.un D • MapRep kI64 b17 (upP S P2) • ULs P2 c.un S • R19)) (fun (⟨S, n, P2⟩ : List Int × Nat × (Int → Nat)) => n) (([], _, P)) (Sub.cons rfl (Sub.cons rfl (Sub.cons rfl (Sub.cons rfl (Sub.nil _))))) (Sub.nil _) ⟨List.nodup_nil, (HX0).of_eq (by show _ = (_ • _ • _ • emp • _); rw [emp_sep])⟩ ?_
      rintro ⟨S, n, P2⟩ w20 ⟨hS, HL⟩
      dsimp only [List.cons_append, List.nil_append]
      refine wc_seq ?_
      refine wc_region ?_
      refine wl_eff (e_next_map HL rfl) (ltn rfl) ?_
      rintro _ w21 ⟨ox, Sx, mx, rfl, hNx, H21⟩
      refine wl_val (r_nx0 rfl) (ltn rfl) ?_
      refine wl_nil ?_
      refine wq_seq ?_
      refine wc_seq ?_
      refine wc_cond rfl (fun h2 => ?_) (fun h2 => ?_)
      · (try simp only [cmpS] at h2)
        try (exfalso; first | contradiction | omega)
        all_goals
          obtain ⟨⟨a, u⟩, rfl⟩ := Option.isSome_iff_exists.1 h2
          obtain ⟨ha, hns, hlt, rfl⟩ := hNx
          obtain ⟨hmem, rfl⟩ := upP_some ha
          have HF := H21.f2
          rw [ULs_focus hmem] at HF
          have HF2 := HF.flat
          refine wc_skip ?_
          refine wq_seq ?_
          refine wc_block ?_
          refine wc_seq ?_
          refine wc_region ?_
          refine wl_val (r_entry (HF2.f3) (by assumption) rfl) (ltn rfl) ?_
          refine wl_val (r_extract rfl rfl) (ltn rfl) ?_
          refine wl_val (r_extract rfl rfl) (ltn rfl) ?_
          refine wl_val (r_assign rfl) (ltn rfl) ?_
          refine wl_val (r_assign rfl) (ltn rfl) ?_
          refine wl_nil ?_
          refine wq_seq ?_
          refine wc_region ?_
          refine wl_val (r_move rfl) (ltn rfl) ?_
          refine wl_val (r_move rfl) (ltn rfl) ?_
          refine wl_val (r_move rfl) (ltn rfl) ?_
          refine wl_eff (e_call (r_call rfl Tryz.func112 rfl rfl) (undo_clone_ret HF2)) (ltn rfl) ?_
          rintro _ w22 ⟨q22, rfl, H22⟩
          refine wl_eff0 (e_mapUpdate H22.f5 Tryz.underlying60 Tryz.underlying3 rfl rfl rfl) ?_
          rintro _ w23 H23
          refine wl_nil ?_
          refine wq_block_normal ?_
          have HQ := H23.f2.f6.f3.f5.f5.f6
          have hu1 : ULs (updF P2 a q22) c.un (S ++ [a]) = (ULs P2 c.un S • UList q22 (c.un a) [] 0) := by
            rw [ULs_snoc, updF_same, ULs_congr (P' := P2) (U' := c.un) fun x hx => ⟨updF_not _ _ (by rintro rfl; exact hns hx), rfl⟩]
          refine wq_round ((S ++ [a], mx, updF P2 a q22)) ?_ ?_ ?_ ?_
          · exact (Sub.nil _)
          · exact (Sub.cons rfl (Sub.cons rfl (Sub.cons rfl (Sub.cons rfl (Sub.nil _)))))
          · (try dsimp only)
            first | done | exact ⟨nodup_snoc hS hns, HQ.of_eq (by rw [ULs_focus hmem, hu1, upP_snoc hns]; ac_rfl)⟩
          · (try dsimp only); omega
      · (try simp only [cmpS] at h2)
        try (exfalso; first | contradiction | omega)
        all_goals
          obtain rfl := isSome_no (o := ox) (by simp [h2])
          obtain ⟨rfl, rfl, hall⟩ := hNx
          refine wc_exit ?_
          refine wq_then_exit ?_
          have Ho24 := H21
          have Hc25 := Ho24.mapIt_map
          subst hR19
          have Ho26 := Hc25.f2.f2
          have Hc27 := Holds.mk_umap hD1 hD2 Ho26
          have hnS : ∀ k, k ∉ Sx → c.un k = [] := fun k hk => hD2 k fun hkD => hk (hall k _ (if_pos hkD))
          have Ho28 := Hc27.f3.f3
          have Hc29 := Holds.mk_umap hS hnS Ho28
          refine wq_then_exit ?_
          refine wq_block_hit ?_
          refine wq_seq ?_
          refine wc_seq ?_
          refine wc_region ?_
          refine wl_val (r_move rfl) (ltn rfl) ?_
          refine wl_val (r_fieldA 3 Tryz.underlying62 rfl rfl Tryz.sizeOf60 (by decide) rfl (by first | exact Nat.zero_add _ | rfl)) (ltn rfl) ?_
          refine wl_eff0 (e_storeL 3 (l' := [_, _, _, _, _, _, _, _, _, _, _]) Hc29.f3 Tryz.sizeOf60 rfl rfl (by first | rfl | assumption) rfl rfl) ?_
          rintro _ w30 H30
          refine wl_nil ?_
          refine wq_seq ?_
          refine wc_seq ?_
          refine wc_region ?_
          refine wl_val (r_load_whole Tryz.underlying62 rfl Tryz.sizeOf62 rfl rfl (H30).get.2) (ltn rfl) ?_
          refine wl_eff0 (e_storePL 0 (l' := [_, _, _, _, _, _, _, _, _, _, _]) (us := [_, _, _, _, _, _, _, _, _, _, _]) H30.f11 Tryz.sizeOf62 rfl rfl rfl (ones_cons (by first | rfl | assumption) (ones_cons (by first | rfl | assumption) (ones_cons (by first | rfl | assumption) (ones_cons (by first | rfl | assumption) (ones_cons (by first | rfl | assumption) (ones_cons (by first | rfl | assumption) (ones_cons (by first | rfl | assumption) (ones_cons (by first | rfl | assumption) (ones_cons (by first | rfl | assumption) (ones_cons (by first | rfl | assumption) (ones_cons (by first | rfl | assumption) ones_nil))))))))))) rfl rfl) ?_
          rintro _ w31 H31
          refine wl_nil ?_
          refine wq_seq ?_
          refine wc_ret ?_
          refine wq_end (.inl rfl) (resC Tryz.results44 rfl Tryz.underlying62 rfl (by rw [show (Tryz.prog.info? 62).map (·.size) = some 11 from by kernel_rfl]; rfl) (H31).get.2) ?_
          exact ⟨_, _, _, _, _, rfl, H31.right.right.f2.f3.f10.f8.f10.f6.f7.f8.f9.f10⟩
end
end Go.Proofs.YtgmpclifphbjkaaGreatDoor
end
section
/- Editors: none, part, list. -/
set_option linter.unusedSimpArgs false
set_option linter.unusedVariables false
namespace Go.Proofs.YtgmpclifphbjkaaGreatDoor
open Go.RowKit
def ptrO (D : List Int) (P : Int → Nat) (k : Int) : Option Addr := if k ∈ D then some ⟨P k, 0, none⟩ else none
theorem upP_get (D : List Int) (P : Int → Nat) (k : Int) : (upP D P k).getD (.pointer none) = .pointer (ptrO D P k) := by unfold upP ptrO; split <;> rfl
theorem ptrO_pos {D : List Int} {P : Int → Nat} {k : Int} (h : k ∈ D) : ptrO D P k = some ⟨P k, 0, none⟩ := if_pos h
theorem ptrO_some {D : List Int} {P : Int → Nat} {k : Int} (h : (ptrO D P k).isNone = false) : k ∈ D := by
  unfold ptrO at h
  split at h
  · assumption
  · cases h
theorem ptrO_none {D : List Int} {P : Int → Nat} {k : Int} (h : (ptrO D P k).isNone = true) : k ∉ D := by
  unfold ptrO at h
  split at h
  · cases h
  · assumption
theorem part_no {s : EdS} (h : ¬ s.partE = 0) : s.inn = false ∧ s.partE = 1 := by
  unfold EdS.partE at *
  cases hi : s.inn <;> simp_all
theorem part_yes {s : EdS} (h : s.partE = 0) : s.inn = true := by
  unfold EdS.partE at h
  cases hi : s.inn <;> simp_all
theorem Holds.in23 {w0 w : World} {A B C F : HP} (H : Holds w0 w (A • B • C • F)) : Holds w0 w (A • (B • C) • F) := H.of_eq (by rw [sep_assoc])
section
variable {w0 w : World} {F : HP} {e p : Nat} {s : EdS}
theorem ed_none_ret (H : Holds w0 w (EdRep e s • F)) : Ret Tryz.prog 43 #[.pointer (some ⟨e, 0, none⟩)] w fun v w' => v = .bool false ∧ w = w' := by
  refine ret_enter Tryz.func43 rfl Tryz.ntmps43 (Nat.le_of_ble_eq_true rfl) ?_
  dsimp only [slots0, Nat.reduceAdd]
  refine wc_seq ?_
  refine wc_region ?_
  refine wl_val (r_assign rfl) (ltn rfl) ?_
  refine wl_nil ?_
  refine wq_seq ?_
  refine wc_seq ?_
  obtain ⟨pb_e, pr_e, pw_e, pt_e, pm_e, ph_e, bl_e, pv_e, es_e, u0_e, u1_e, u2_e, u3_e, u4_e, u5_e, u6_e, u7_e, u8_e, u9_e, ua_e, ok_e, says_e, plen_e, HE_e⟩ := (H).edO
  refine wc_region ?_
  refine wl_val (r_move rfl) (ltn rfl) ?_
  refine wl_val (r_ptr_nil Tryz.underlying28 rfl rfl) (ltn rfl) ?_
  refine wl_split rfl (ltn rfl) (fun h1 => ?_) (fun h1 => ?_)
  · (try simp only [cmpS] at h1)
    try (exfalso; first | contradiction | omega)
    all_goals
      refine wl_no rfl rfl rfl (ltn rfl) ?_
      refine wl_no rfl rfl rfl (ltn rfl) ?_
      refine wl_no rfl rfl rfl (ltn rfl) ?_
      refine wl_no rfl rfl rfl (ltn rfl) ?_
      refine wl_no rfl rfl rfl (ltn rfl) ?_
      refine wl_val (r_pick_t rfl rfl) (ltn rfl) ?_
      refine wl_val (r_assign rfl) (ltn rfl) ?_
      refine wl_nil ?_
      refine wq_seq ?_
      refine wc_ret ?_
      refine wq_end1 (.inl rfl) Tryz.results43 rfl ?_
      exact ⟨rfl, rfl⟩
  · (try simp only [cmpS] at h1)
    try (exfalso; first | contradiction | omega)
    all_goals
      refine wl_yes rfl rfl ?_
      refine wl_val (r_move rfl) (ltn rfl) ?_
      refine wl_yes rfl rfl ?_
      refine wl_val (r_nil rfl) (ltn rfl) ?_
      refine wl_yes rfl rfl ?_
      refine wl_val (r_fieldA 11 Tryz.underlying66 rfl rfl Tryz.sizeOf24 (by decide) rfl (by first | exact Nat.zero_add _ | rfl)) (ltn rfl) ?_
      refine wl_yes rfl rfl ?_
      refine wl_val (r_load (plain_of Tryz.underlying24 rfl) rfl (cell_of_blk (HE_e).get.2 rfl)) (ltn rfl) ?_
      refine wl_yes rfl rfl ?_
      refine wl_val (r_ptr_nil Tryz.underlying24 rfl rfl) (ltn rfl) ?_
      refine wl_val (r_pick_f rfl rfl) (ltn rfl) ?_
      refine wl_val (r_assign rfl) (ltn rfl) ?_
      refine wl_nil ?_
      refine wq_seq ?_
      refine wc_ret ?_
      refine wq_end1 (.inl rfl) Tryz.results43 rfl ?_
      exact ⟨rfl, rfl⟩
theorem ed_part_ret (H : Holds w0 w (EdRep e s • F)) : Ret Tryz.prog 51 #[.pointer (some ⟨e, 0, none⟩)] w fun v w' => v = .int .i64 s.partE ∧ w = w' := by
  unfold EdS.partE
  refine ret_enter Tryz.func51 rfl Tryz.ntmps51 (Nat.le_of_ble_eq_true rfl) ?_
  dsimp only [slots0, Nat.reduceAdd]
  refine wc_seq ?_
  refine wc_region ?_
  refine wl_val (r_assign rfl) (ltn rfl) ?_
  refine wl_nil ?_
  refine wq_seq ?_
  refine wc_seq ?_
  refine wc_block ?_
  refine wc_seq ?_
  refine wc_region ?_
  refine wl_val (r_move rfl) (ltn rfl) ?_
  refine wl_eff (e_call (r_call rfl Tryz.func43 rfl rfl) (ed_none_ret H)) (ltn rfl) ?_
  rintro _ _ ⟨rfl, rfl⟩
  refine wl_val (r_assign rfl) (ltn rfl) ?_
  refine wl_nil ?_
  refine wq_seq ?_
  refine wc_cond_f rfl ?_
  refine wc_seq ?_
  obtain ⟨pb_e, pr_e, pw_e, pt_e, pm_e, ph_e, bl_e, pv_e, es_e, u0_e, u1_e, u2_e, u3_e, u4_e, u5_e, u6_e, u7_e, u8_e, u9_e, ua_e, ok_e, says_e, plen_e, HE_e⟩ := (H).edO
  refine wc_region ?_
  refine wl_val (r_move rfl) (ltn rfl) ?_
  refine wl_val (r_nil rfl) (ltn rfl) ?_
  refine wl_val (r_fieldA 16 Tryz.underlying66 rfl rfl Tryz.sizeOf4 (by decide) rfl (by first | exact Nat.zero_add _ | rfl)) (ltn rfl) ?_
  refine wl_val (r_load (plain_of Tryz.underlying4 rfl) rfl (cell_of_blk (HE_e).get.2 rfl)) (ltn rfl) ?_
  refine wl_val (r_not rfl) (ltn rfl) ?_
  refine wl_val (r_assign rfl) (ltn rfl) ?_
  refine wl_nil ?_
  refine wq_seq ?_
  refine wc_cond rfl (fun h1 => ?_) (fun h1 => ?_)
  · (try simp only [cmpS] at h1)
    try (exfalso; first | contradiction | omega)
    all_goals
      
      refine wc_seq ?_
      refine wc_region ?_
      refine wl_val (r_assign rfl) (ltn rfl) ?_
      refine wl_nil ?_
      refine wq_seq ?_
      refine wc_ret ?_
      refine wq_block_ret ?_
      refine wq_then_ret ?_
      refine wq_end1 (.inl rfl) Tryz.results51 rfl ?_
      exact ⟨by simp [*], rfl⟩
  · (try simp only [cmpS] at h1)
    try (exfalso; first | contradiction | omega)
    all_goals
      
      refine wc_skip ?_
      refine wq_block_normal ?_
      refine wq_seq ?_
      refine wc_seq ?_
      refine wc_region ?_
      refine wl_val (r_assign rfl) (ltn rfl) ?_
      refine wl_nil ?_
      refine wq_seq ?_
      refine wc_ret ?_
      refine wq_end1 (.inl rfl) Tryz.results51 rfl ?_
      exact ⟨by simp [*], rfl⟩
theorem ed_list_ret {x0 x1 x4 x5 x6 x7 x8 x9 x10 x11 x12 x13 x14 x15 x16 x17 x18 x19 x20 x21 x22 x23 x24 x25 x26 x27 x28 x29 x30 x31 x32 x33 : Value} {pw pt pm : Nat} {k : Int} {U : Int → List (List EdA)} (H : Holds w0 w (blk e (.cells (x0 :: x1 :: .pointer (some ⟨pw, 0, none⟩) :: .map (some pm) :: x4 :: x5 :: x6 :: x7 :: x8 :: x9 :: x10 :: x11 :: x12 :: x13 :: x14 :: x15 :: x16 :: x17 :: x18 :: x19 :: x20 :: x21 :: x22 :: x23 :: x24 :: x25 :: x26 :: x27 :: x28 :: x29 :: x30 :: x31 :: x32 :: x33 :: []).toArray 66 (0, 0)) • blk pw (.cells #[.int .i64 k, .map (some pt)] 112 (0, 0)) • UMap pm U • F)) : Ret Tryz.prog 57 #[.pointer (some ⟨e, 0, none⟩)] w fun v w' => ∃ p, v = .pointer (some ⟨p, 0, none⟩) ∧
    Holds w0 w' (UList p (U k) [] 0 • UHole pm U k p • blk e (.cells (x0 :: x1 :: .pointer (some ⟨pw, 0, none⟩) :: .map (some pm) :: x4 :: x5 :: x6 :: x7 :: x8 :: x9 :: x10 :: x11 :: x12 :: x13 :: x14 :: x15 :: x16 :: x17 :: x18 :: x19 :: x20 :: x21 :: x22 :: x23 :: x24 :: x25 :: x26 :: x27 :: x28 :: x29 :: x30 :: x31 :: x32 :: x33 :: []).toArray 66 (0, 0)) • blk pw (.cells #[.int .i64 k, .map (some pt)] 112 (0, 0)) • F) := by
  refine ret_enter Tryz.func57 rfl Tryz.ntmps57 (Nat.le_of_ble_eq_true rfl) ?_
  dsimp only [slots0, Nat.reduceAdd]
  refine wc_seq ?_
  refine wc_region ?_
  refine wl_val (r_assign rfl) (ltn rfl) ?_
  refine wl_nil ?_
  refine wq_seq ?_
  refine wc_seq ?_
  obtain ⟨D, P, hD1, hD2, HU⟩ := (H.f3).umap
  have H1d0 := HU.drew
  have hS1d0 := Holds.kp (H1d0.f4.f4.f4.f4)
  refine wd_beginK [4, 9, 12, 13] hS1d0 (by kernel_rfl) (by kernel_rfl) rfl ?_
  refine wd_takeT 0 rfl (by kernel_rfl) (by kernel_rfl) hS1d0 (fun _ => r_move rfl) (ltn rfl) ?_
  refine wd_takeT 1 rfl (by kernel_rfl) (by kernel_rfl) hS1d0 (fun _ => r_nil rfl) (ltn rfl) ?_
  refine wd_takeT 2 rfl (by kernel_rfl) (by kernel_rfl) hS1d0 (fun _ => r_fieldA 0 Tryz.underlying66 rfl rfl Tryz.sizeOf62 (by decide) rfl (by first | exact Nat.zero_add _ | rfl)) (ltn rfl) ?_
  refine wd_takeT 3 rfl (by kernel_rfl) (by kernel_rfl) hS1d0 (fun _ => r_fieldA 3 Tryz.underlying62 rfl rfl Tryz.sizeOf60 (by decide) rfl (by first | exact Nat.zero_add _ | rfl)) (ltn rfl) ?_
  refine wd_take 4 rfl (by kernel_rfl) (by kernel_rfl) hS1d0 (by decide) (fun W hW => r_load (plain_of Tryz.underlying60 rfl) rfl (cell_of_blk ((Kp.h hW).f3).get.2 rfl)) (ltn rfl) ?_
  refine wd_takeT 5 rfl (by kernel_rfl) (by kernel_rfl) hS1d0 (fun _ => r_move rfl) (ltn rfl) ?_
  refine wd_takeT 6 rfl (by kernel_rfl) (by kernel_rfl) hS1d0 (fun _ => r_nil rfl) (ltn rfl) ?_
  refine wd_takeT 7 rfl (by kernel_rfl) (by kernel_rfl) hS1d0 (fun _ => r_fieldA 0 Tryz.underlying66 rfl rfl Tryz.sizeOf62 (by decide) rfl (by first | exact Nat.zero_add _ | rfl)) (ltn rfl) ?_
  refine wd_takeT 8 rfl (by kernel_rfl) (by kernel_rfl) hS1d0 (fun _ => r_fieldA 2 Tryz.underlying62 rfl rfl Tryz.sizeOf59 (by decide) rfl (by first | exact Nat.zero_add _ | rfl)) (ltn rfl) ?_
  refine wd_take 9 rfl (by kernel_rfl) (by kernel_rfl) hS1d0 (by decide) (fun W hW => r_load (plain_of Tryz.underlying59 rfl) rfl (cell_of_blk ((Kp.h hW).f3).get.2 rfl)) (ltn rfl) ?_
  refine wd_takeT 10 rfl (by kernel_rfl) (by kernel_rfl) hS1d0 (fun _ => r_nil rfl) (ltn rfl) ?_
  refine wd_takeT 11 rfl (by kernel_rfl) (by kernel_rfl) hS1d0 (fun _ => r_fieldA 0 Tryz.underlying112 rfl rfl Tryz.sizeOf3 (by decide) rfl (by first | exact Nat.zero_add _ | rfl)) (ltn rfl) ?_
  refine wd_take 12 rfl (by kernel_rfl) (by kernel_rfl) hS1d0 (by decide) (fun W hW => r_load (plain_of Tryz.underlying3 rfl) rfl (cell_of_blk ((Kp.h hW).f4).get.2 rfl)) (ltn rfl) ?_
  refine wd_take 13 rfl (by kernel_rfl) (by kernel_rfl) hS1d0 (by decide) (fun W hW => r_as (r_lookup ((Kp.h hW)) Tryz.underlying60 Tryz.underlying3 Tryz.zeroValue116 rfl rfl) (upP_get D P k)) (ltn rfl) ?_
  refine wd_takeT 14 rfl (by kernel_rfl) (by kernel_rfl) hS1d0 (fun _ => r_assign rfl) (ltn rfl) ?_
  refine wd_done (by kernel_rfl) ?_
  refine wq_seq ?_
  refine wc_seq ?_
  refine wc_seq ?_
  refine wc_region ?_
  refine wl_val (r_move rfl) (ltn rfl) ?_
  refine wl_val (r_ptr_nil Tryz.underlying116 rfl rfl) (ltn rfl) ?_
  refine wl_nil ?_
  refine wq_seq ?_
  refine wc_cond rfl (fun h1 => ?_) (fun h1 => ?_)
  · (try simp only [cmpS] at h1)
    try (exfalso; first | contradiction | omega)
    all_goals
      have hnm := ptrO_none h1
      refine wc_seq ?_
      refine wc_region ?_
      refine wl_eff (e_call (r_call rfl Tryz.func126 rfl rfl) (undo_new_ret H1d0)) (ltn rfl) ?_
      rintro _ w1 ⟨p1, rfl, H1⟩
      refine wl_val (r_assign rfl) (ltn rfl) ?_
      refine wl_nil ?_
      refine wq_seq ?_
      have H4d1 := H1.drew
      have hS4d1 := Holds.kp (H4d1.f5.f5.f5.f5.f5)
      refine wd_beginK [4, 9, 12] hS4d1 (by kernel_rfl) (by kernel_rfl) rfl ?_
      refine wd_takeT 0 rfl (by kernel_rfl) (by kernel_rfl) hS4d1 (fun _ => r_move rfl) (ltn rfl) ?_
      refine wd_takeT 1 rfl (by kernel_rfl) (by kernel_rfl) hS4d1 (fun _ => r_nil rfl) (ltn rfl) ?_
      refine wd_takeT 2 rfl (by kernel_rfl) (by kernel_rfl) hS4d1 (fun _ => r_fieldA 0 Tryz.underlying66 rfl rfl Tryz.sizeOf62 (by decide) rfl (by first | exact Nat.zero_add _ | rfl)) (ltn rfl) ?_
      refine wd_takeT 3 rfl (by kernel_rfl) (by kernel_rfl) hS4d1 (fun _ => r_fieldA 3 Tryz.underlying62 rfl rfl Tryz.sizeOf60 (by decide) rfl (by first | exact Nat.zero_add _ | rfl)) (ltn rfl) ?_
      refine wd_take 4 rfl (by kernel_rfl) (by kernel_rfl) hS4d1 (by decide) (fun W hW => r_load (plain_of Tryz.underlying60 rfl) rfl (cell_of_blk ((Kp.h hW).f4).get.2 rfl)) (ltn rfl) ?_
      refine wd_takeT 5 rfl (by kernel_rfl) (by kernel_rfl) hS4d1 (fun _ => r_move rfl) (ltn rfl) ?_
      refine wd_takeT 6 rfl (by kernel_rfl) (by kernel_rfl) hS4d1 (fun _ => r_nil rfl) (ltn rfl) ?_
      refine wd_takeT 7 rfl (by kernel_rfl) (by kernel_rfl) hS4d1 (fun _ => r_fieldA 0 Tryz.underlying66 rfl rfl Tryz.sizeOf62 (by decide) rfl (by first | exact Nat.zero_add _ | rfl)) (ltn rfl) ?_
      refine wd_takeT 8 rfl (by kernel_rfl) (by kernel_rfl) hS4d1 (fun _ => r_fieldA 2 Tryz.underlying62 rfl rfl Tryz.sizeOf59 (by decide) rfl (by first | exact Nat.zero_add _ | rfl)) (ltn rfl) ?_
      refine wd_take 9 rfl (by kernel_rfl) (by kernel_rfl) hS4d1 (by decide) (fun W hW => r_load (plain_of Tryz.underlying59 rfl) rfl (cell_of_blk ((Kp.h hW).f4).get.2 rfl)) (ltn rfl) ?_
      refine wd_takeT 10 rfl (by kernel_rfl) (by kernel_rfl) hS4d1 (fun _ => r_nil rfl) (ltn rfl) ?_
      refine wd_takeT 11 rfl (by kernel_rfl) (by kernel_rfl) hS4d1 (fun _ => r_fieldA 0 Tryz.underlying112 rfl rfl Tryz.sizeOf3 (by decide) rfl (by first | exact Nat.zero_add _ | rfl)) (ltn rfl) ?_
      refine wd_take 12 rfl (by kernel_rfl) (by kernel_rfl) hS4d1 (by decide) (fun W hW => r_load (plain_of Tryz.underlying3 rfl) rfl (cell_of_blk ((Kp.h hW).f5).get.2 rfl)) (ltn rfl) ?_
      refine wd_takeT 13 rfl (by kernel_rfl) (by kernel_rfl) hS4d1 (fun _ => r_move rfl) (ltn rfl) ?_
      refine wd_eff0 14 rfl (by kernel_rfl) (e_mapUpdate H4d1.f2 Tryz.underlying60 Tryz.underlying3 rfl rfl rfl) ?_
      rintro _ w2 H2
      have hS2n := Holds.kp (H2.f5.f5.f5.f5.f5)
      refine keepX hS2n (by kernel_rfl) ?_
      refine wd_done (by kernel_rfl) ?_
      refine wq_seq ?_
      refine wc_seq ?_
      refine wc_region ?_
      refine wl_val (r_move rfl) (ltn rfl) ?_
      refine wl_val (r_assign rfl) (ltn rfl) ?_
      refine wl_nil ?_
      refine wq_seq ?_
      refine wc_ret ?_
      refine wq_end1 (.inl rfl) Tryz.results57 rfl ?_
      have hu1 : ULs (updF P k p1) U (D ++ [k]) = (ULs P U D • UList p1 [] [] 0) := by
        rw [ULs_snoc, updF_same, hD2 _ hnm, ULs_congr (P' := P) (U' := U) fun x hx => ⟨updF_not _ _ (by rintro rfl; exact hnm hx), rfl⟩]
      have HM := Holds.in23 H2.f5.f5.f4.f5.f5
      rw [← hu1, ← upP_snoc hnm] at HM
      have HZ := Holds.uhole (k := k) (nodup_snoc hD1 hnm) (fun k hk => hD2 k fun hm => hk (by simp [hm])) (by simp) HM
      rw [updF_same] at HZ
      exact ⟨_, rfl, HZ⟩
  · (try simp only [cmpS] at h1)
    try (exfalso; first | contradiction | omega)
    all_goals
      have hmem := ptrO_some h1
      rw [ptrO_pos hmem]
      refine wc_skip ?_
      refine wq_seq ?_
      refine wc_seq ?_
      refine wc_region ?_
      refine wl_val (r_move rfl) (ltn rfl) ?_
      refine wl_val (r_assign rfl) (ltn rfl) ?_
      refine wl_nil ?_
      refine wq_seq ?_
      refine wc_ret ?_
      refine wq_end1 (.inl rfl) Tryz.results57 rfl ?_
      exact ⟨_, rfl, Holds.uhole hD1 hD2 hmem H1d0.f4.f4.f4.f4⟩
theorem Holds.mk_unhole_id {b p : Nat} {k : Int} {U : Int → List (List EdA)} (H : Holds w0 w (UHole b U k p • UList p (U k) [] 0 • F)) : Holds w0 w (UMap b U • F) := by
  have := H.mk_unhole
  rwa [updF_id] at this
end
end Go.Proofs.YtgmpclifphbjkaaGreatDoor
end
section
/- A number that many may count. -/
set_option linter.unusedSimpArgs false
set_option linter.unusedVariables false
namespace Go.Proofs.YtgmpclifphbjkaaGreatDoor
open Go.RowKit Go.Lib
section
variable {P : Program} {L : List (Nat × Value)} {w0 w : World} {F : HP} {ty : TypeId} {b : Nat} {v d : Int} {t : TypeId}
/-- An entry of the runtime that writes. -/
theorem e_ext {T : Value → World → Prop} {f : FuncId} {args : List Operand} {ts : Array TypeId} {vs : List Value} {fn : Func} {e : Array Value → Sem Value} {v : Value} {w' : World} (ha : evl L args = some vs)
    (hf : P.funcs[f]? = some fn) (hname : (fn.name == "runtime.NumGoroutine") = false) (hb : fn.body.isNone = true) (hn : Extern.findNext fn = none) (he : Extern.find fn = some e) (hr : (e vs.toArray).run P w = .ok v w') (ht : T v w') :
    Eff P L (.call ⟨.value (.func f), args.toArray, ts⟩) ty w T := e_val (v := v) (w' := w') (fun ρ hρ _ _ _ _ => by
  have hg : ρ (.func f) = .func (.func f) #[] #[] := hρ _ _ rfl
  have hc := run_callFunc_extern hf hname hb hn he vs.toArray w
  rw [hr] at hc
  simp [execOp, resolve, invoke, evs hρ _ _ ha, hg, Deferred.ofValue]
  exact hc) ht
theorem run_load64 (hc : w.cell? ⟨b, 0, none⟩ = some (.int .i64 v)) : (Extern.Atomic.loadT (.int .i64) #[.pointer (some ⟨b, 0, none⟩)]).run P w = .ok (.int .i64 v) w := by
  change Sem.run P (do Extern.Atomic.read (.int .i64) (← asAddr (.pointer (some ⟨b, 0, none⟩)))) w = _
  simp [Extern.Atomic.read, asAddr, hc, Result.andThen]
theorem e_add64 {f : FuncId} {args : List Operand} {ts : Array TypeId} {fn : Func} (H : Holds w0 w (blk b (.cells #[.int .i64 v] t (0, 0)) • F)) (ha : evl L args = some [.pointer (some ⟨b, 0, none⟩), .int .i64 d])
    (hf : P.funcs[f]? = some fn) (hname : (fn.name == "runtime.NumGoroutine") = false) (hb : fn.body.isNone = true) (hn : Extern.findNext fn = none) (he : Extern.find fn = some (Extern.Atomic.update (Op.intArith .add) .i64 true)) :
    Eff P L (.call ⟨.value (.func f), args.toArray, ts⟩) ty w fun u w' => u = .int .i64 (IntKind.i64.wrap (v + d)) ∧ Holds w0 w' (blk b (.cells #[.int .i64 (IntKind.i64.wrap (v + d))] t (0, 0)) • F) :=
  e_ext ha hf hname hb hn he (Conc.run_add_entry (cell_of_blk H.get.2 rfl) (free_of_blk H.get.2)) ⟨rfl, H.setCell (i := 0) _⟩
theorem e_load64 {f : FuncId} {args : List Operand} {ts : Array TypeId} {fn : Func} (H : Holds w0 w (blk b (.cells #[.int .i64 v] t (0, 0)) • F)) (ha : evl L args = some [.pointer (some ⟨b, 0, none⟩)])
    (hf : P.funcs[f]? = some fn) (hname : (fn.name == "runtime.NumGoroutine") = false) (hb : fn.body.isNone = true) (hn : Extern.findNext fn = none) (he : Extern.find fn = some (Extern.Atomic.loadT (.int .i64))) :
    Eff P L (.call ⟨.value (.func f), args.toArray, ts⟩) ty w fun u w' => u = .int .i64 v ∧ w = w' :=
  e_ext ha hf hname hb hn he (run_load64 (cell_of_blk H.get.2 rfl)) ⟨rfl, rfl⟩
theorem atom_add_ret (H : Holds w0 w (blk b (.cells #[.int .i64 v] t (0, 0)) • F)) : Ret Tryz.prog 52 #[.pointer (some ⟨b, 0, none⟩), .int .i64 d] w fun u w' => u = .int .i64 (IntKind.i64.wrap (v + d)) ∧ Holds w0 w' (blk b (.cells #[.int .i64 (IntKind.i64.wrap (v + d))] t (0, 0)) • F) := by
  refine ret_enter Tryz.func52 rfl Tryz.ntmps52 (Nat.le_of_ble_eq_true rfl) ?_
  dsimp only [slots0, Nat.reduceAdd]
  refine wc_seq ?_
  refine wc_region ?_
  refine wl_val (r_assign rfl) (ltn rfl) ?_
  refine wl_nil ?_
  refine wq_seq ?_
  refine wc_seq ?_
  refine wc_region ?_
  refine wl_val (r_move rfl) (ltn rfl) ?_
  refine wl_val (r_nil rfl) (ltn rfl) ?_
  refine wl_val (r_fieldA 0 Tryz.underlying102 rfl rfl Tryz.sizeOf2 (by decide) rfl (by first | exact Nat.zero_add _ | rfl)) (ltn rfl) ?_
  refine wl_val (r_move rfl) (ltn rfl) ?_
  refine wl_eff (e_add64 H rfl Tryz.func119 rfl rfl (by kernel_rfl) (by kernel_rfl)) (ltn rfl) ?_
  rintro _ w1 ⟨rfl, H1⟩
  refine wl_val (r_assign rfl) (ltn rfl) ?_
  refine wl_nil ?_
  refine wq_seq ?_
  refine wc_ret ?_
  refine wq_end1 (.inl rfl) Tryz.results52 rfl ?_
  exact ⟨rfl, H1⟩
theorem atom_load_ret (H : Holds w0 w (blk b (.cells #[.int .i64 v] t (0, 0)) • F)) : Ret Tryz.prog 56 #[.pointer (some ⟨b, 0, none⟩)] w fun u w' => u = .int .i64 v ∧ w = w' := by
  refine ret_enter Tryz.func56 rfl Tryz.ntmps56 (Nat.le_of_ble_eq_true rfl) ?_
  dsimp only [slots0, Nat.reduceAdd]
  refine wc_seq ?_
  refine wc_region ?_
  refine wl_val (r_assign rfl) (ltn rfl) ?_
  refine wl_nil ?_
  refine wq_seq ?_
  refine wc_seq ?_
  refine wc_region ?_
  refine wl_val (r_move rfl) (ltn rfl) ?_
  refine wl_val (r_nil rfl) (ltn rfl) ?_
  refine wl_val (r_fieldA 0 Tryz.underlying102 rfl rfl Tryz.sizeOf2 (by decide) rfl (by first | exact Nat.zero_add _ | rfl)) (ltn rfl) ?_
  refine wl_eff (e_load64 H rfl Tryz.func125 rfl rfl (by kernel_rfl) (by kernel_rfl)) (ltn rfl) ?_
  rintro _ _ ⟨rfl, rfl⟩
  refine wl_val (r_assign rfl) (ltn rfl) ?_
  refine wl_nil ?_
  refine wq_seq ?_
  refine wc_ret ?_
  refine wq_end1 (.inl rfl) Tryz.results56 rfl ?_
  exact ⟨rfl, rfl⟩
end
end Go.Proofs.YtgmpclifphbjkaaGreatDoor
end
section
/- A struct's value, as a list of cells. -/
set_option linter.unusedSimpArgs false
set_option linter.unusedVariables false
namespace Go.Proofs.YtgmpclifphbjkaaGreatDoor
open Go.RowKit
/-- The cells of a struct, field by field: from field i at o on, what is left of the places, of the zero cells, of the parts. -/
inductive Cells : Nat → Nat → List (Nat × Nat) → List Value → List (Nat × Value) → List Value → Prop
  | nil {i o : Nat} : Cells i o [] [] [] []
  | one {i o : Nat} {pl : List (Nat × Nat)} {z : List Value} {vs : List (Nat × Value)} {cs : List Value} {v zv : Value} (h : v.oneCell' = true) (k : Cells (i + 1) (o + 1) pl z vs cs) : Cells i o ((o, 1) :: pl) (zv :: z) ((i, v) :: vs) (v :: cs)
  | agg {i o m : Nat} {pl : List (Nat × Nat)} {z : List Value} {vs : List (Nat × Value)} {cs us zs : List Value} (hm : us.length = m) (hz : zs.length = m) (k : Cells (i + 1) (o + m) pl z vs cs) : Cells i o ((o, m) :: pl) (zs ++ z) ((i, .agg us.toArray) :: vs) (us ++ cs)
  | zero {i o m : Nat} {pl : List (Nat × Nat)} {z : List Value} {vs : List (Nat × Value)} {cs zs : List Value} (hz : zs.length = m) (k : Cells (i + 1) (o + m) pl z vs cs) : Cells i o ((o, m) :: pl) (zs ++ z) vs (zs ++ cs)
theorem one_cells' {v : Value} (h : v.oneCell' = true) : v.cells = #[v] := by cases v <;> simp_all [Value.cells, Value.oneCell']
theorem fill_step {pl : Array (Nat × Nat)} {i o m : Nat} {v : Value} {vs : List (Nat × Value)} {pre zs us z : List Value} {R : Option (Array Value)} (hp : pl[i]? = some (o, m)) (ho : pre.length = o) (hv : v.cells = us.toArray) (hm : us.length = m) (hz : zs.length = m)
    (h : Instr.fill (fun i => pl[i]?) (pre ++ us ++ z).toArray vs = R) : Instr.fill (fun i => pl[i]?) (pre ++ (zs ++ z)).toArray ((i, v) :: vs) = R := by
  simp only [Instr.fill]
  rw [hp]
  dsimp only
  rw [hv, if_neg (by simp; omega)]
  have hfr := fill_run us o 0 (pre ++ (zs ++ z)).toArray (by simp; omega)
  simp only [Nat.add_zero] at hfr
  rw [← Array.foldl_toList, Array.toList_zipIdx]
  simp only [List.toList_toArray] at hfr ⊢
  rw [show (us.zipIdx.foldl (fun cs (x : Value × Nat) => cs.setIfInBounds (o + x.2) x.1) (pre ++ (zs ++ z)).toArray) = _ from hfr]
  rw [← h]
  congr 2
  subst ho
  rw [List.take_left, ← List.append_assoc pre zs z, show pre.length + us.length = (pre ++ zs).length from by simp; omega, List.drop_left]
theorem fill_cells {i o : Nat} {pl : List (Nat × Nat)} {z cs : List Value} {vs : List (Nat × Value)} (h : Cells i o pl z vs cs) : ∀ {pp : List (Nat × Nat)} {pre : List Value}, pp.length = i → pre.length = o →
    Instr.fill (fun j => (pp ++ pl).toArray[j]?) (pre ++ z).toArray vs = some (pre ++ cs).toArray := by
  induction h with
  | nil => intro pp pre _ _; rfl
  | @one i o pl z vs cs v zv h k ih =>
    intro pp pre h1 h2
    refine fill_step (zs := [zv]) (us := [v]) (o := o) (m := 1) (by simp [← h1]) h2 (one_cells' h) rfl rfl ?_
    have := ih (pp := pp ++ [(o, 1)]) (pre := pre ++ [v]) (by simp; omega) (by simp; omega)
    simpa using this
  | @agg i o m pl z vs cs us zs hm hz k ih =>
    intro pp pre h1 h2
    refine fill_step (zs := zs) (us := us) (o := o) (m := m) (by simp [← h1]) h2 rfl hm hz ?_
    have := ih (pp := pp ++ [(o, m)]) (pre := pre ++ us) (by simp; omega) (by simp; omega)
    simpa using this
  | @zero i o m pl z vs cs zs hz k ih =>
    intro pp pre h1 h2
    have := ih (pp := pp ++ [(o, m)]) (pre := pre ++ zs) (by simp; omega) (by simp; omega)
    simpa using this
section
variable {P : Program} {L : List (Nat × Value)} {w : World} {ty : TypeId}
theorem r_buildL {t : TypeId} {fs : Array Field} {z : Value} {zl : List Value} {pl : List (Nat × Nat)} {ps : List (Nat × Operand)} {vs : List (Nat × Value)} {cs : List Value} (cells : List Value) (ht : P.underlying t = some (.struct fs)) (hz : ∀ w, (zeroValue t).run P w = .ok z w) (hzl : z.cells = zl.toArray)
    (hpl : ∀ w, (fs.mapM fun f => do pure (f.offset, ← sizeOf f.type) : Sem (Array (Nat × Nat))).run P w = .ok pl.toArray w) (hp : evp L ps = some vs) (hC : Cells 0 0 pl zl vs cs) (hcs : cs = cells) : Val P L (.build t ps.toArray) ty w (.agg cells.toArray) w := by
  subst hcs
  exact r_build cs.toArray ht hz hpl hp (by rw [hzl]; exact fill_cells hC (pp := []) (pre := []) rfl rfl)
end
end Go.Proofs.YtgmpclifphbjkaaGreatDoor
end
