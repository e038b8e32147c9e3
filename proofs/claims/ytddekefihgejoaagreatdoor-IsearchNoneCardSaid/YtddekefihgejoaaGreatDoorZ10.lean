import Derived.Test.YtddekefihgejoaaGreatDoorZ2
import Derived.Test.YtddekefihgejoaaGreatDoorZ9
import Derived.Test.YtddekefihgejoaaGreatDoorZ5
import Derived.Lib.OthersKept
import Derived.Lib.Bytealg
import Derived.Conc.AtomicLaws2
import Derived.Test.YtddekefihgejoaaGreatDoorZ7
set_option linter.unusedSimpArgs false
set_option linter.unusedVariables false
/- Texts of mine, joined, their names in short: Ed EdTwin EdA Atom Build. -/
section
namespace Go.Proofs.YtddekefihgejoaaGreatDoor
open Go.RowKit
def AQ (P : Int → Nat) (U : Int → List (List fB)) : List Int → HP
  | [] => emp
  | k :: D => dV (P k) (U k) [] 0 • AQ P U D
def Jf (D : List Int) (P : Int → Nat) : Int → Option Value := fun k => if k ∈ D then some (.pointer (some ⟨P k, 0, none⟩)) else none
theorem lX {P : Int → Nat} {U : Int → List (List fB)} {k : Int} : ∀ {D : List Int}, k ∈ D → AQ P U D = (dV (P k) (U k) [] 0 • AQ P U (D.erase k))
  | x :: D, h => by
    by_cases e : x = k
    · subst e; rw [List.erase_cons_head]; rfl
    · rw [List.erase_cons_tail (by simpa using e)]
      have hk : k ∈ D := (List.mem_cons.1 h).resolve_left (Ne.symm e)
      show (dV (P x) (U x) [] 0 • AQ P U D) = _
      rw [lX hk]
      show (dV (P x) (U x) [] 0 • dV (P k) (U k) [] 0 • AQ P U (D.erase k)) = (dV (P k) (U k) [] 0 • (dV (P x) (U x) [] 0 • AQ P U (D.erase k)))
      ac_rfl
theorem wV {P P' : Int → Nat} {U U' : Int → List (List fB)} : ∀ {D : List Int}, (∀ k ∈ D, P k = P' k ∧ U k = U' k) → AQ P U D = AQ P' U' D
  | [], _ => rfl
  | x :: D, h => by
    show (dV (P x) (U x) [] 0 • AQ P U D) = (dV (P' x) (U' x) [] 0 • AQ P' U' D)
    rw [(h x (by simp)).1, (h x (by simp)).2, wV fun k hk => h k (List.mem_cons_of_mem _ hk)]
def pF (b : Nat) (U : Int → List (List fB)) : HP := qJ fun (x : List Int × (Int → Nat)) => fact (x.1.Nodup ∧ ∀ k, k ∉ x.1 → U k = []) • dQ kW b (Jf x.1 x.2) • AQ x.2 U x.1
def Fb (b : Nat) (U : Int → List (List fB)) (k : Int) (p : Nat) : HP := qJ fun (x : List Int × (Int → Nat)) => fact (x.1.Nodup ∧ (∀ k, k ∉ x.1 → U k = []) ∧ k ∈ x.1 ∧ x.2 k = p) • dQ kW b (Jf x.1 x.2) • AQ x.2 U (x.1.erase k)
section
variable {w0 w : World} {F : HP} {b p : Nat} {k : Int} {U : Int → List (List fB)} {G : List (List fB)}
theorem aB.QJ (H : aB w0 w (pF b U • F)) : ∃ D P, (D : List Int).Nodup ∧ (∀ k, k ∉ D → U k = []) ∧ aB w0 w (dQ kW b (Jf D P) • AQ P U D • F) := by
  obtain ⟨⟨D, P⟩, H⟩ := H.lg
  obtain ⟨⟨h1, h2⟩, H⟩ := H.flat.fact
  exact ⟨D, P, h1, h2, H.flat⟩
theorem aB.wW {D : List Int} {P : Int → Nat} (h1 : D.Nodup) (h2 : ∀ k, k ∉ D → U k = []) (H : aB w0 w (dQ kW b (Jf D P) • AQ P U D • F)) : aB w0 w (pF b U • F) :=
  aB.gJ (D, P) (aB.deep (aB.jL ⟨h1, h2⟩ H.deep))
theorem aB.QK {D : List Int} {P : Int → Nat} (h1 : D.Nodup) (h2 : ∀ k, k ∉ D → U k = []) (hk : k ∈ D) (H : aB w0 w (dQ kW b (Jf D P) • AQ P U D • F)) : aB w0 w (dV (P k) (U k) [] 0 • Fb b U k (P k) • F) := by
  have H1 : aB w0 w ((dQ kW b (Jf D P) • AQ P U (D.erase k)) • dV (P k) (U k) [] 0 • F) := H.of_eq (by rw [lX hk]; ac_rfl)
  have H2 : aB w0 w (Fb b U k (P k) • dV (P k) (U k) [] 0 • F) := aB.gJ (D, P) (aB.deep (aB.jL ⟨h1, h2, hk, rfl⟩ H1))
  exact H2.swap
theorem aB.uF (H : aB w0 w (Fb b U k p • dV p G [] 0 • F)) : aB w0 w (pF b (sZ U k G) • F) := by
  obtain ⟨⟨D, P⟩, H⟩ := H.lg
  obtain ⟨⟨h1, h2, hk, hp⟩, H⟩ := H.flat.fact
  dsimp only at h1 h2 hk hp H
  subst hp
  refine aB.wW (D := D) (P := P) h1 (fun x hx => ?_) ?_
  · rw [rD _ _ (by rintro rfl; exact hx hk)]; exact h2 x hx
  · rw [lX (U := sZ U k G) hk, iC, wV (P' := P) (U' := U) fun x hx => ⟨rfl, rD _ _ (by rintro rfl; exact (List.Nodup.not_mem_erase h1) hx)⟩]
    exact H.of_eq (by ac_rfl)
end
def kX (t : Int → Option ByteArray) : Int → Option Value := fun k => (t k).map .string
def KN (pb pr pw pt pm : Nat) (c : lF) : HP := dI pb c.L c.pt c.mark • dU pr c.E c.at_ • bY pw (.cells #[.int .i64 c.place, .map (some pt)] 125 (0, 0)) • dQ kW pt (kX c.tx) • pF pm c.un
def Jg (pb pr pw pm : Nat) (c : lF) : List Value := [.pointer (some ⟨pb, 0, none⟩), .pointer (some ⟨pr, 0, none⟩), .pointer (some ⟨pw, 0, none⟩), .map (some pm), .int .i64 c.mode, .bool c.over, .int .i64 c.last, .int .i64 c.fr, .int .i64 c.to, .int .i64 c.res, .bool c.run]
def rF (inn : Bool) (c : lF) (u : List Value) : HP := if inn = true then qJ fun (x : Nat × Nat × Nat × Nat × Nat) => fact (u = Jg x.1 x.2.1 x.2.2.1 x.2.2.2.2 c) • KN x.1 x.2.1 x.2.2.1 x.2.2.2.1 x.2.2.2.2 c else emp
def zY (hl : List kZ) (c : lF) : Prop := 0 ≤ c.place ∧ c.place ≤ hl.length ∧ (∀ k t, c.tx k = some t → t.size ≤ 16384)
def vH (e : fB) : Prop := 0 ≤ e.1 ∧ 0 < e.2.1.length + e.2.2.length ∧ e.2.1.length ≤ 1024 ∧ e.2.2.length ≤ 1024
def jV (s : bG) : Prop := zY s.hl s.c ∧ (s.inn = true → zY s.hl s.was ∧ eH (s.was.un s.was.place) [] ≤ 16384 ∧ ∀ k, ∀ g ∈ s.was.un k, ∀ e ∈ g, vH e) ∧ (-1 ≤ s.arg ∧ s.arg ≤ 1000000) ∧ (∀ e ∈ s.put, vH e) ∧ eH s.here s.put ≤ 16384 ∧ (∀ k, ∀ g ∈ s.c.un k, ∀ e ∈ g, vH e)
structure EdP where
  pb : Nat
  pr : Nat
  pw : Nat
  pt : Nat
  pm : Nat
  ph : Nat
  bl : Nat
  pv : Value
  es : List dn
  u0 : Value
  u1 : Value
  u2 : Value
  u3 : Value
  u4 : Value
  u5 : Value
  u6 : Value
  u7 : Value
  u8 : Value
  u9 : Value
  ua : Value
def YW (e : Nat) (s : bG) (M : Nat → HP) : HP := qJ fun (x : EdP) => fact (jV s ∧ x.es.map dn.says = s.put) •
  bY e (.cells (.pointer (some ⟨x.pb, 0, none⟩) :: .pointer (some ⟨x.pr, 0, none⟩) :: .pointer (some ⟨x.pw, 0, none⟩) :: .map (some x.pm) :: .int .i64 s.c.mode :: .bool s.c.over :: .int .i64 s.c.last :: .int .i64 s.c.fr :: .int .i64 s.c.to :: .int .i64 s.c.res :: .bool s.c.run :: .pointer (some ⟨x.ph, 0, none⟩) :: .pointer (some ⟨x.bl, 0, none⟩) :: .bool s.given :: .bool s.minus :: .int .i64 s.arg :: .bool s.inn :: x.u0 :: x.u1 :: x.u2 :: x.u3 :: x.u4 :: x.u5 :: x.u6 :: x.u7 :: x.u8 :: x.u9 :: x.ua :: .int .i64 s.cls :: .bool s.killed :: .bool s.lQ :: .bool s.argues :: .bool s.whole :: x.pv :: []).toArray 69 (0, 0)) •
  dI x.pb s.c.L s.c.pt s.c.mark • dU x.pr s.c.E s.c.at_ • bY x.pw (.cells #[.int .i64 s.c.place, .map (some x.pt)] 125 (0, 0)) • dQ kW x.pt (kX s.c.tx) • M x.pm •
  dh x.ph s.hl s.base s.most • bY x.bl (.cells #[.int .i64 s.rY] 144 (0, 0)) • Row 202 3 x.pv s.put.length (x.es.flatMap dn.enc) • jh x.es • rF s.inn s.was [x.u0, x.u1, x.u2, x.u3, x.u4, x.u5, x.u6, x.u7, x.u8, x.u9, x.ua]
def dK (e : Nat) (s : bG) : HP := YW e s fun pm => pF pm s.c.un
def ZQ (e : Nat) (s : bG) (p : Nat) : HP := YW e s fun pm => Fb pm s.c.un s.c.place p
section
variable {w0 w : World} {F : HP} {e : Nat} {s : bG} {M : Nat → HP}
theorem aB.edG (H : aB w0 w (YW e s M • F)) : ∃ pb pr pw pt pm ph bl pv es u0 u1 u2 u3 u4 u5 u6 u7 u8 u9 ua, jV s ∧ es.map dn.says = s.put ∧ es.length = s.put.length ∧ aB w0 w (
  bY e (.cells (.pointer (some ⟨pb, 0, none⟩) :: .pointer (some ⟨pr, 0, none⟩) :: .pointer (some ⟨pw, 0, none⟩) :: .map (some pm) :: .int .i64 s.c.mode :: .bool s.c.over :: .int .i64 s.c.last :: .int .i64 s.c.fr :: .int .i64 s.c.to :: .int .i64 s.c.res :: .bool s.c.run :: .pointer (some ⟨ph, 0, none⟩) :: .pointer (some ⟨bl, 0, none⟩) :: .bool s.given :: .bool s.minus :: .int .i64 s.arg :: .bool s.inn :: u0 :: u1 :: u2 :: u3 :: u4 :: u5 :: u6 :: u7 :: u8 :: u9 :: ua :: .int .i64 s.cls :: .bool s.killed :: .bool s.lQ :: .bool s.argues :: .bool s.whole :: pv :: []).toArray 69 (0, 0)) •
  dI pb s.c.L s.c.pt s.c.mark • dU pr s.c.E s.c.at_ • bY pw (.cells #[.int .i64 s.c.place, .map (some pt)] 125 (0, 0)) • dQ kW pt (kX s.c.tx) • M pm •
  dh ph s.hl s.base s.most • bY bl (.cells #[.int .i64 s.rY] 144 (0, 0)) • Row 202 3 pv s.put.length (es.flatMap dn.enc) • jh es • rF s.inn s.was [u0, u1, u2, u3, u4, u5, u6, u7, u8, u9, ua] • F) := by
  obtain ⟨⟨pb, pr, pw, pt, pm, ph, bl, pv, es, u0, u1, u2, u3, u4, u5, u6, u7, u8, u9, ua⟩, H⟩ := H.lg
  obtain ⟨⟨h1, h2⟩, H⟩ := H.flat.fact
  refine ⟨pb, pr, pw, pt, pm, ph, bl, pv, es, u0, u1, u2, u3, u4, u5, u6, u7, u8, u9, ua, h1, h2, ?_, ?_⟩
  · rw [← h2]; simp
  · dsimp only at H
    exact H.of_eq (by simp only [bH])
theorem aB.VH {pb pr pw pt pm ph bl : Nat} {pv : Value} {es : List dn} {u0 u1 u2 u3 u4 u5 u6 u7 u8 u9 ua : Value} (h1 : jV s) (h2 : es.map dn.says = s.put) (H : aB w0 w (
  bY e (.cells (.pointer (some ⟨pb, 0, none⟩) :: .pointer (some ⟨pr, 0, none⟩) :: .pointer (some ⟨pw, 0, none⟩) :: .map (some pm) :: .int .i64 s.c.mode :: .bool s.c.over :: .int .i64 s.c.last :: .int .i64 s.c.fr :: .int .i64 s.c.to :: .int .i64 s.c.res :: .bool s.c.run :: .pointer (some ⟨ph, 0, none⟩) :: .pointer (some ⟨bl, 0, none⟩) :: .bool s.given :: .bool s.minus :: .int .i64 s.arg :: .bool s.inn :: u0 :: u1 :: u2 :: u3 :: u4 :: u5 :: u6 :: u7 :: u8 :: u9 :: ua :: .int .i64 s.cls :: .bool s.killed :: .bool s.lQ :: .bool s.argues :: .bool s.whole :: pv :: []).toArray 69 (0, 0)) •
  dI pb s.c.L s.c.pt s.c.mark • dU pr s.c.E s.c.at_ • bY pw (.cells #[.int .i64 s.c.place, .map (some pt)] 125 (0, 0)) • dQ kW pt (kX s.c.tx) • M pm •
  dh ph s.hl s.base s.most • bY bl (.cells #[.int .i64 s.rY] 144 (0, 0)) • Row 202 3 pv s.put.length (es.flatMap dn.enc) • jh es • rF s.inn s.was [u0, u1, u2, u3, u4, u5, u6, u7, u8, u9, ua] • F)) : aB w0 w (YW e s M • F) :=
  aB.gJ ⟨pb, pr, pw, pt, pm, ph, bl, pv, es, u0, u1, u2, u3, u4, u5, u6, u7, u8, u9, ua⟩ (aB.deep (aB.jL ⟨h1, h2⟩ (H.of_eq (by simp only [bH]))))
theorem aB.dW {pb pr pw pt pm ph bl : Nat} {pv : Value} {es : List dn} {u0 u1 u2 u3 u4 u5 u6 u7 u8 u9 ua : Value} (h1 : jV s) (h2 : es.map dn.says = s.put) (H : aB w0 w (
  bY e (.cells (.pointer (some ⟨pb, 0, none⟩) :: .pointer (some ⟨pr, 0, none⟩) :: .pointer (some ⟨pw, 0, none⟩) :: .map (some pm) :: .int .i64 s.c.mode :: .bool s.c.over :: .int .i64 s.c.last :: .int .i64 s.c.fr :: .int .i64 s.c.to :: .int .i64 s.c.res :: .bool s.c.run :: .pointer (some ⟨ph, 0, none⟩) :: .pointer (some ⟨bl, 0, none⟩) :: .bool s.given :: .bool s.minus :: .int .i64 s.arg :: .bool s.inn :: u0 :: u1 :: u2 :: u3 :: u4 :: u5 :: u6 :: u7 :: u8 :: u9 :: ua :: .int .i64 s.cls :: .bool s.killed :: .bool s.lQ :: .bool s.argues :: .bool s.whole :: pv :: []).toArray 69 (0, 0)) •
  dI pb s.c.L s.c.pt s.c.mark • dU pr s.c.E s.c.at_ • bY pw (.cells #[.int .i64 s.c.place, .map (some pt)] 125 (0, 0)) • dQ kW pt (kX s.c.tx) • pF pm s.c.un •
  dh ph s.hl s.base s.most • bY bl (.cells #[.int .i64 s.rY] 144 (0, 0)) • Row 202 3 pv s.put.length (es.flatMap dn.enc) • jh es • rF s.inn s.was [u0, u1, u2, u3, u4, u5, u6, u7, u8, u9, ua] • F)) : aB w0 w (dK e s • F) := aB.VH (M := fun pm => pF pm s.c.un) h1 h2 H
theorem aB.DR (H : aB w0 w (dK e s • F)) : ∃ pb pr pw pt pm ph bl pv es u0 u1 u2 u3 u4 u5 u6 u7 u8 u9 ua, jV s ∧ es.map dn.says = s.put ∧ es.length = s.put.length ∧ aB w0 w (
  bY e (.cells (.pointer (some ⟨pb, 0, none⟩) :: .pointer (some ⟨pr, 0, none⟩) :: .pointer (some ⟨pw, 0, none⟩) :: .map (some pm) :: .int .i64 s.c.mode :: .bool s.c.over :: .int .i64 s.c.last :: .int .i64 s.c.fr :: .int .i64 s.c.to :: .int .i64 s.c.res :: .bool s.c.run :: .pointer (some ⟨ph, 0, none⟩) :: .pointer (some ⟨bl, 0, none⟩) :: .bool s.given :: .bool s.minus :: .int .i64 s.arg :: .bool s.inn :: u0 :: u1 :: u2 :: u3 :: u4 :: u5 :: u6 :: u7 :: u8 :: u9 :: ua :: .int .i64 s.cls :: .bool s.killed :: .bool s.lQ :: .bool s.argues :: .bool s.whole :: pv :: []).toArray 69 (0, 0)) •
  dI pb s.c.L s.c.pt s.c.mark • dU pr s.c.E s.c.at_ • bY pw (.cells #[.int .i64 s.c.place, .map (some pt)] 125 (0, 0)) • dQ kW pt (kX s.c.tx) • pF pm s.c.un •
  dh ph s.hl s.base s.most • bY bl (.cells #[.int .i64 s.rY] 144 (0, 0)) • Row 202 3 pv s.put.length (es.flatMap dn.enc) • jh es • rF s.inn s.was [u0, u1, u2, u3, u4, u5, u6, u7, u8, u9, ua] • F) := H.edG
end
end Go.Proofs.YtddekefihgejoaaGreatDoor
end
section
namespace Go.Proofs.YtddekefihgejoaaGreatDoor
open Go.RowKit
open _root_.Go.Proofs.Tryz
def Jh {β : Type} (f : Int → Option β) (S : List Int) : Int → Option β := fun k => if k ∈ S then f k else none
theorem QL {β : Type} (f : Int → Option β) : Jh f [] = fun _ => none := by funext k; simp [Jh]
theorem Ot {β : Type} {f : Int → Option β} {S : List Int} {a : Int} {u : β} (h : f a = some u) : Jh f (S ++ [a]) = upd (Jh f S) a u := by
  funext k
  unfold Jh upd
  by_cases hk : k = a
  · subst hk; simp [h]
  · simp [hk]
theorem QM {β : Type} {f : Int → Option β} {S : List Int} (h : ∀ a u, f a = some u → a ∈ S) : Jh f S = f := by
  funext k
  unfold Jh
  split
  · rfl
  · rename_i hk
    cases hf : f k with
    | none => rfl
    | some u => exact absurd (h k u hf) hk
theorem MQ (P : Int → Nat) : Jf [] P = fun _ => none := by funext k; simp [Jf]
theorem QN {D : List Int} {P : Int → Nat} {a : Int} {u : Value} (h : Jf D P a = some u) : a ∈ D ∧ u = .pointer (some ⟨P a, 0, none⟩) := by
  unfold Jf at h
  split at h
  · rename_i hm; exact ⟨hm, by cases h; rfl⟩
  · cases h
theorem Ji {S : List Int} {P : Int → Nat} {a : Int} {q : Nat} (h : a ∉ S) : Jf (S ++ [a]) (sZ P a q) = upd (Jf S P) a (.pointer (some ⟨q, 0, none⟩)) := by
  funext k
  unfold Jf upd sZ
  by_cases hk : k = a
  · subst hk; simp
  · simp [hk]
theorem DT {P : Int → Nat} {U : Int → List (List fB)} {a : Int} : ∀ {S : List Int}, AQ P U (S ++ [a]) = (AQ P U S • dV (P a) (U a) [] 0)
  | [] => by show (dV (P a) (U a) [] 0 • emp) = (emp • dV (P a) (U a) [] 0); rw [mZ, jd]
  | x :: S => by
    show (dV (P x) (U x) [] 0 • AQ P U (S ++ [a])) = ((dV (P x) (U x) [] 0 • AQ P U S) • dV (P a) (U a) [] 0)
    rw [DT, bH]
theorem Fe {α : Type} {o : Option α} (h : ¬ o.isSome = true) : o = none := by cases o <;> simp_all
theorem DU {S : List Int} {a : Int} (h : S.Nodup) (ha : a ∉ S) : (S ++ [a]).Nodup := by
  rw [List.nodup_append]
  exact ⟨h, by simp, by intro x hx y hy; rw [List.mem_singleton.1 hy]; rintro rfl; exact ha hx⟩
section
variable {w0 w : World} {F : HP} {pb pr pw pt pm : Nat} {c : lF}
theorem QO (H : aB w0 w (dI pb c.L c.pt c.mark • dU pr c.E c.at_ • bY pw (.cells #[.int .i64 c.place, .map (some pt)] 125 (0, 0)) • dQ kW pt (kX c.tx) • pF pm c.un • F)) :
  fE prog 80 #[.agg #[.pointer (some ⟨pb, 0, none⟩), .pointer (some ⟨pr, 0, none⟩), .pointer (some ⟨pw, 0, none⟩), .map (some pm), .int .i64 c.mode, .bool c.over, .int .i64 c.last, .int .i64 c.fr, .int .i64 c.to, .int .i64 c.res, .bool c.run]] w fun v w' =>
   ∃ qb qr qw qt qm, v = .agg #[.pointer (some ⟨qb, 0, none⟩), .pointer (some ⟨qr, 0, none⟩), .pointer (some ⟨qw, 0, none⟩), .map (some qm), .int .i64 c.mode, .bool c.over, .int .i64 c.last, .int .i64 c.fr, .int .i64 c.to, .int .i64 c.res, .bool c.run] ∧
    aB w0 w' (dI qb c.L c.pt c.mark • dU qr c.E c.at_ • bY qw (.cells #[.int .i64 c.place, .map (some qt)] 125 (0, 0)) • dQ kW qt (kX c.tx) • pF qm c.un •
     dI pb c.L c.pt c.mark • dU pr c.E c.at_ • bY pw (.cells #[.int .i64 c.place, .map (some pt)] 125 (0, 0)) • dQ kW pt (kX c.tx) • pF pm c.un • F) := by
 refine gy func80 ntmps80 ?_
 dsimp only [aY, Nat.reduceAdd]
 refine ay (ah (gq (iw (l := [_, _, _, _, _, _, _, _, _, _, _]) H rfl rfl) ?_))
 rintro _ w1 ⟨b1, rfl, H1⟩
 refine gq (bU (l := [_, _, _, _, _, _, _, _, _, _, _]) H1 zeroValue64 rfl) ?_
 rintro _ w2 ⟨b2, rfl, H2⟩
 refine aA (aj (ay ?_))
 have Qb := H2.drew
 have uh := aB.kp (Qb.f7.f7.f7.f7.f7.f7.f7)
 refine vV [1, 4] uh rfl (dR 0 rfl uh 0 underlying64 rfl sizeOf59 rfl (gY 1 rfl uh (fun W hW => iH underlying59 rfl ((Kp.h hW).f2).get.2 rfl) (dR 3 rfl uh 1 underlying64 rfl sizeOf60 rfl (gY 4 rfl uh (fun W hW => iH underlying60 rfl ((Kp.h hW).f2).get.2 rfl) (jk 2 rfl (rP rfl func125 (Ez Qb.f3)) ?_)))))
 rintro _ w3 ⟨q3, rfl, H3⟩
 have BF := aB.kp (H3.f8.f8.f8.f8.f8.f8.f8.f8)
 refine bT BF (fun W hW => (Kp.h hW).right.f7.f7.f7.f7.f5.f7.f7) ?_
 refine dR 6 rfl BF 0 underlying64 rfl sizeOf59 rfl (jk 5 rfl (rP rfl func113 (wE H3.f5)) ?_)
 rintro _ w4 ⟨pc4, rfl, H4⟩
 have uj := aB.kp (H4.f9.f9.f9.f9.f9.f9.f9.f9.f9)
 refine dN uj (by kernel_rfl) ?_
 refine dJ 7 rfl (by kernel_rfl) (aS 0 (l' := [_, _, _, _, _, _, _, _, _, _, _]) H4.f6 sizeOf59 rfl rfl (by first | rfl | assumption) rfl rfl) ?_
 rintro _ w5 H5
 have uq := aB.kp (H5.f9.f9.f9.f9.f9.f9.f9.f9.f9)
 refine dN uq (by kernel_rfl) ?_
 refine dR 8 rfl uq 1 underlying64 rfl sizeOf60 rfl ?_
 refine dJ 9 rfl (by kernel_rfl) (aS 1 (l' := [_, _, _, _, _, _, _, _, _, _, _]) H5 sizeOf60 rfl rfl (by first | rfl | assumption) rfl rfl) ?_
 rintro _ w6 H6
 have BJ := aB.kp (H6.f9.f9.f9.f9.f9.f9.f9.f9.f9)
 refine dN BJ (by kernel_rfl) ?_
 refine nT (aj (ay (ah (bg 2 underlying64 rfl sizeOf61 rfl (dO underlying61 rfl (H6).get.2 rfl (bP rfl (bg 0 underlying125 rfl sizeOf3 rfl (dO underlying3 rfl (H6.f7).get.2 rfl (gq (iO (xu .i64) H6) ?_)))))))))
 rintro _ w7 ⟨b7, rfl, H7⟩
 refine aU (fD (pl := #[(0, 1), (1, 1)]) (#[_, _]) underlying125 zeroValue125 (fun w => by kernel_rfl) rfl (rfl)) (gq (iw (l := [_, _]) H7 rfl rfl) ?_)
 rintro _ w8 ⟨b8, rfl, H8⟩
 refine aV rfl (aA (aj (ay (ay (ah (bg 2 underlying64 rfl sizeOf61 rfl (dO underlying61 rfl (H8.f3).get.2 rfl (bP rfl (bg 1 underlying125 rfl sizeOf123 rfl (dO underlying123 rfl (H8.f9).get.2 rfl (gq (AO H8.f10 underlying123 rfl) ?_)))))))))))
 rintro _ w9 ⟨it9, mi, rfl, H9⟩
 refine aA (aj (bf ?_))
 obtain ⟨R10, ZR, ZT⟩ := aB.Ci (H9.f2.f3.f3)
 have HX0 := ZT
 rw [← QL (kX c.tx)] at HX0
 refine fH [(1, _), (2, _), (3, _), (30, _)] (fun (⟨S, n⟩ : List Int × Nat) => []) (fun (⟨S, n⟩ : List Int × Nat) W => aB w0 W (zf kW pt it9 (kX c.tx) S n • dQ kW b7 (Jh (kX c.tx) S) • bY b8 (.cells #[.int .i64 c.place, .map (some b7)] 125 (0, 0)) • R10)) (fun (⟨S, n⟩ : List Int × Nat) => n) (([], _)) (Sub.cons rfl (Sub.cons rfl (Sub.cons rfl (Sub.cons rfl (Sub.nil _))))) (Sub.nil _) HX0 ?_
 rintro ⟨S, n⟩ Hr HL
 dsimp only [List.cons_append, List.nil_append]
 refine ay (ah (gq (DL HL rfl) ?_))
 rintro _ w12 ⟨ox, Sx, mx, rfl, XV, uf⟩
 refine aU (UO rfl) (aA (aj (ay (aP rfl (fun h1 => ?_) (fun h1 => ?_)))))
 ·(try simp only [aI] at h1)
  try (exfalso; first | contradiction | omega)
  all_goals
   obtain ⟨⟨a, u⟩, rfl⟩ := Option.isSome_iff_exists.1 h1
   obtain ⟨ha, hns, hlt, rfl⟩ := XV
   refine aT (aj (bf (ay (ah ?_))))
   refine aU (MP (uf) (by assumption) rfl) ?_
   refine yA rfl rfl (yA rfl rfl (aV rfl (aV rfl (aA (aj (ah (aN rfl (bP rfl (bg 1 underlying125 rfl sizeOf123 rfl (dO underlying123 rfl (uf.f3).get.2 rfl (aN rfl (aN rfl (aG (sD uf.f2 underlying123 underlying3 rfl rfl rfl) ?_)))))))))))))
   rintro _ NY xC
   refine aA (aH ?_)
   have hres := Ot (S := S) ha
   refine dA ((S ++ [a], mx)) ?_ ?_ ?_ ?_
   ·exact (Sub.nil _)
   ·exact (Sub.cons rfl (Sub.cons rfl (Sub.cons rfl (Sub.cons rfl (Sub.nil _)))))
   ·(try dsimp only)
    first | done | exact (by rw [hres]; exact xC.f3.f2.f3)
   ·(try dsimp only); omega
 ·(try simp only [aI] at h1)
  try (exfalso; first | contradiction | omega)
  all_goals
   obtain rfl := Fe (o := ox) (by simp [h1])
   obtain ⟨rfl, rfl, hall⟩ := XV
   refine dL (aW ?_)
   have HX := uf.f3.f2.f3
   rw [QM hall] at HX
   have QS := HX.f2
   have QT := QS.Fa
   subst ZR
   refine aW (bD (aj (ay (ah (aN rfl (bg 2 underlying64 rfl sizeOf61 rfl (aG (aS 2 (l' := [_, _, _, _, _, _, _, _, _, _, _]) QT.f4 sizeOf61 rfl rfl (by first | rfl | assumption) rfl rfl) ?_)))))))
   rintro _ w16 qY
   refine aA (aj (ay (ah (gq (iO (xu .i64) qY) ?_))))
   rintro _ Tz ⟨b17, rfl, yC⟩
   refine aV rfl (aA (aj (ay (ay ?_))))
   obtain ⟨D, P, hD1, hD2, HU⟩ := (yC.f12).QJ
   refine ah (bg 3 underlying64 rfl sizeOf62 rfl (dO underlying62 rfl (HU.f4).get.2 rfl (gq (AO HU underlying62 rfl) ?_)))
   rintro _ Sv ⟨ZU, mi, rfl, zB⟩
   refine aA (aj (bf ?_))
   obtain ⟨R19, ZV, ZW⟩ := aB.Ci (zB.f3.f3.f3)
   have HX0 := ZW
   rw [← MQ P] at HX0
   refine fH [(1, _), (2, _), (6, _), (47, _)] (fun (⟨S, n, P2⟩ : List Int × Nat × (Int → Nat)) => []) (fun (⟨S, n, P2⟩ : List Int × Nat × (Int → Nat)) W => S.Nodup ∧ aB w0 W (zf kW pm ZU (Jf D P) S n • AQ P c.un D • dQ kW b17 (Jf S P2) • AQ P2 c.un S • R19)) (fun (⟨S, n, P2⟩ : List Int × Nat × (Int → Nat)) => n) (([], _, P)) (Sub.cons rfl (Sub.cons rfl (Sub.cons rfl (Sub.cons rfl (Sub.nil _))))) (Sub.nil _) ⟨List.nodup_nil, (HX0).of_eq (by show _ = (_ • _ • _ • emp • _); rw [jd])⟩ ?_
   rintro ⟨S, n, P2⟩ Sz ⟨hS, HL⟩
   dsimp only [List.cons_append, List.nil_append]
   refine ay (ah (gq (DL HL rfl) ?_))
   rintro _ TA ⟨ox, Sx, mx, rfl, XV, oV⟩
   refine aU (UO rfl) (aA (aj (ay (aP rfl (fun h2 => ?_) (fun h2 => ?_)))))
   ·(try simp only [aI] at h2)
    try (exfalso; first | contradiction | omega)
    all_goals
     obtain ⟨⟨a, u⟩, rfl⟩ := Option.isSome_iff_exists.1 h2
     obtain ⟨ha, hns, hlt, rfl⟩ := XV
     obtain ⟨hmem, rfl⟩ := QN ha
     have HF := oV.f2
     rw [lX hmem] at HF
     have HF2 := HF.flat
     refine aT (aj (bf (ay (ah ?_))))
     refine aU (MP (HF2.f3) (by assumption) rfl) ?_
     refine yA rfl rfl (yA rfl rfl (aV rfl (aV rfl (aA (aj (ah (aN rfl (aN rfl (aN rfl (dw rfl func126 (DF HF2) ?_))))))))))
     rintro _ Xf ⟨q22, rfl, JX⟩
     refine aG (sD JX.f5 underlying62 underlying3 rfl rfl rfl) ?_
     rintro _ O7 rV
     refine aA (aH ?_)
     have HQ := rV.f2.f6.f3.f5.f5.f6
     have hu1 : AQ (sZ P2 a q22) c.un (S ++ [a]) = (AQ P2 c.un S • dV q22 (c.un a) [] 0) := by
      rw [DT, iC, wV (P' := P2) (U' := c.un) fun x hx => ⟨rD _ _ (by rintro rfl; exact hns hx), rfl⟩]
     refine dA ((S ++ [a], mx, sZ P2 a q22)) ?_ ?_ ?_ ?_
     ·exact (Sub.nil _)
     ·exact (Sub.cons rfl (Sub.cons rfl (Sub.cons rfl (Sub.cons rfl (Sub.nil _)))))
     ·(try dsimp only)
      first | done | exact ⟨DU hS hns, HQ.of_eq (by rw [lX hmem, hu1, Ji hns]; ac_rfl)⟩
     ·(try dsimp only); omega
   ·(try simp only [aI] at h2)
    try (exfalso; first | contradiction | omega)
    all_goals
     obtain rfl := Fe (o := ox) (by simp [h2])
     obtain ⟨rfl, rfl, hall⟩ := XV
     refine dL (aW ?_)
     have VI := oV
     have VJ := VI.Fa
     subst ZV
     have VK := VJ.f2.f2
     have VL := aB.wW hD1 hD2 VK
     have hnS : ∀ k, k ∉ Sx → c.un k = [] := fun k hk => hD2 k fun hkD => hk (hall k _ (if_pos hkD))
     have ZX := VL.f3.f3
     have ZY := aB.wW hS hnS ZX
     refine aW (bD (aj (ay (ah (aN rfl (bg 3 underlying64 rfl sizeOf62 rfl (aG (aS 3 (l' := [_, _, _, _, _, _, _, _, _, _, _]) ZY.f3 sizeOf62 rfl rfl (by first | rfl | assumption) rfl rfl) ?_)))))))
     rintro _ YR JY
     refine aA (aj (ay (ah (aU (bQ underlying64 rfl sizeOf64 rfl rfl (JY).get.2) (aG (bn 0 (l' := [_, _, _, _, _, _, _, _, _, _, _]) (us := [_, _, _, _, _, _, _, _, _, _, _]) JY.f11 sizeOf64 rfl rfl rfl (aC (by first | rfl | assumption) (aC (by first | rfl | assumption) (aC (by first | rfl | assumption) (aC (by first | rfl | assumption) (aC (by first | rfl | assumption) (aC (by first | rfl | assumption) (aC (by first | rfl | assumption) (aC (by first | rfl | assumption) (aC (by first | rfl | assumption) (aC (by first | rfl | assumption) (aC (by first | rfl | assumption) aZ))))))))))) rfl rfl) ?_)))))
     rintro _ Wq JZ
     refine aA (aj (aJ ?_))
     refine jM (.inl rfl) (CX results80 rfl underlying64 rfl (by rw [show (prog.info? 64).map (·.size) = some 11 from by kernel_rfl]; rfl) (JZ).get.2) ?_
     exact ⟨_, _, _, _, _, rfl, JZ.right.right.f2.f3.f10.f8.f10.f6.f7.f8.f9.f10⟩
end
end Go.Proofs.YtddekefihgejoaaGreatDoor
end
section
namespace Go.Proofs.YtddekefihgejoaaGreatDoor
open Go.RowKit
open _root_.Go.Proofs.Tryz
def DV (D : List Int) (P : Int → Nat) (k : Int) : Option Addr := if k ∈ D then some ⟨P k, 0, none⟩ else none
theorem MR (D : List Int) (P : Int → Nat) (k : Int) : (Jf D P k).getD (.pointer none) = .pointer (DV D P k) := by unfold Jf DV; split <;> rfl
theorem Jj {D : List Int} {P : Int → Nat} {k : Int} (h : k ∈ D) : DV D P k = some ⟨P k, 0, none⟩ := if_pos h
theorem Ou {D : List Int} {P : Int → Nat} {k : Int} (h : (DV D P k).isNone = false) : k ∈ D := by
  unfold DV at h
  split at h
  · assumption
  · cases h
theorem Ov {D : List Int} {P : Int → Nat} {k : Int} (h : (DV D P k).isNone = true) : k ∉ D := by
  unfold DV at h
  split at h
  · cases h
  · assumption
theorem BX {s : bG} (h : ¬ s.uz = 0) : s.inn = false ∧ s.uz = 1 := by
  unfold bG.uz at *
  cases hi : s.inn <;> simp_all
theorem zk {s : bG} (h : s.uz = 0) : s.inn = true := by
  unfold bG.uz at h
  cases hi : s.inn <;> simp_all
theorem aB.Z4 {w0 w : World} {A B C F : HP} (H : aB w0 w (A • B • C • F)) : aB w0 w (A • (B • C) • F) := H.of_eq (by rw [bH])
section
variable {w0 w : World} {F : HP} {e p : Nat} {s : bG}
theorem o7 (H : aB w0 w (dK e s • F)) : fE prog 54 #[.pointer (some ⟨e, 0, none⟩)] w fun v w' => v = .bool false ∧ w = w' := by
 refine gy func54 ntmps54 ?_
 dsimp only [aY, Nat.reduceAdd]
 refine ay (ah (aV rfl (aA (aj (ay ?_)))))
 obtain ⟨qj, ql, qo, qp, qx, qy, qA, qB, nY, mD, mF, mG, mJ, mM, mO, mP, mQ, mV, mW, mX, dF, bK, gV, dY⟩ := (H).DR
 refine ah (aN rfl (aU (eF underlying30 rfl rfl) (jy rfl (fun h1 => ?_) (fun h1 => ?_))))
 ·(try simp only [aI] at h1)
  try (exfalso; first | contradiction | omega)
  all_goals
   refine bF (bF (bF (bF (bF (jw rfl rfl (aV rfl (aA (aj (aJ (aQ (.inl rfl) results54 rfl ?_))))))))))
   exact ⟨rfl, rfl⟩
 ·(try simp only [aI] at h1)
  try (exfalso; first | contradiction | omega)
  all_goals
   refine bC (aN rfl (bC (bP rfl (bC (bg 11 underlying69 rfl sizeOf65 rfl (bC (dO underlying65 rfl (dY).get.2 rfl (bC (aU (eF underlying65 rfl rfl) (iU rfl rfl (aV rfl (aA (aj (aJ (aQ (.inl rfl) results54 rfl ?_)))))))))))))))
   exact ⟨rfl, rfl⟩
theorem kM (H : aB w0 w (dK e s • F)) : fE prog 81 #[.pointer (some ⟨e, 0, none⟩)] w fun v w' => v = .int .i64 s.uz ∧ w = w' := by
 unfold bG.uz
 refine gy func81 ntmps81 ?_
 dsimp only [aY, Nat.reduceAdd]
 refine ay (ah (aV rfl (aA (aj (ay (bf (ay (ah (aN rfl (dw rfl func54 (o7 H) ?_))))))))))
 rintro _ _ ⟨rfl, rfl⟩
 refine aV rfl (aA (aj (pJ (ay ?_))))
 obtain ⟨qj, ql, qo, qp, qx, qy, qA, qB, nY, mD, mF, mG, mJ, mM, mO, mP, mQ, mV, mW, mX, dF, bK, gV, dY⟩ := (H).DR
 refine ah (aN rfl (bP rfl (bg 16 underlying69 rfl sizeOf4 rfl (dO underlying4 rfl (dY).get.2 rfl (aU (kJ rfl) (aV rfl (aA (aj (aP rfl (fun h1 => ?_) (fun h1 => ?_))))))))))
 ·(try simp only [aI] at h1)
  try (exfalso; first | contradiction | omega)
  all_goals
   refine ay (ah (aV rfl (aA (aj (aJ (aX (aK (aQ (.inl rfl) results81 rfl ?_))))))))
   exact ⟨by simp [*], rfl⟩
 ·(try simp only [aI] at h1)
  try (exfalso; first | contradiction | omega)
  all_goals
   refine aT (aH (aj (ay (ah (aV rfl (aA (aj (aJ (aQ (.inl rfl) results81 rfl ?_)))))))))
   exact ⟨by simp [*], rfl⟩
theorem wI {x0 x1 x4 x5 x6 x7 x8 x9 x10 x11 x12 zn x14 x15 x16 x17 x18 x19 x20 x21 yE x23 x24 x25 yF x27 x28 x29 x30 x31 x32 AU : Value} {pw pt pm : Nat} {k : Int} {U : Int → List (List fB)} (H : aB w0 w (bY e (.cells (x0 :: x1 :: .pointer (some ⟨pw, 0, none⟩) :: .map (some pm) :: x4 :: x5 :: x6 :: x7 :: x8 :: x9 :: x10 :: x11 :: x12 :: zn :: x14 :: x15 :: x16 :: x17 :: x18 :: x19 :: x20 :: x21 :: yE :: x23 :: x24 :: x25 :: yF :: x27 :: x28 :: x29 :: x30 :: x31 :: x32 :: AU :: []).toArray 69 (0, 0)) • bY pw (.cells #[.int .i64 k, .map (some pt)] 125 (0, 0)) • pF pm U • F)) : fE prog 128 #[.pointer (some ⟨e, 0, none⟩)] w fun v w' => ∃ p, v = .pointer (some ⟨p, 0, none⟩) ∧
  aB w0 w' (dV p (U k) [] 0 • Fb pm U k p • bY e (.cells (x0 :: x1 :: .pointer (some ⟨pw, 0, none⟩) :: .map (some pm) :: x4 :: x5 :: x6 :: x7 :: x8 :: x9 :: x10 :: x11 :: x12 :: zn :: x14 :: x15 :: x16 :: x17 :: x18 :: x19 :: x20 :: x21 :: yE :: x23 :: x24 :: x25 :: yF :: x27 :: x28 :: x29 :: x30 :: x31 :: x32 :: AU :: []).toArray 69 (0, 0)) • bY pw (.cells #[.int .i64 k, .map (some pt)] 125 (0, 0)) • F) := by
 refine gy func128 ntmps128 ?_
 dsimp only [aY, Nat.reduceAdd]
 refine ay (ah (aV rfl (aA (aj (ay ?_)))))
 obtain ⟨D, P, hD1, hD2, HU⟩ := (H.f3).QJ
 have VN := HU.drew
 have pV := aB.kp (VN.f4.f4.f4.f4)
 refine vV [4, 9, 12, 13] pV rfl (gQ 0 rfl pV rfl (iQ 1 rfl pV rfl (dR 2 rfl pV 0 underlying69 rfl sizeOf64 rfl (dR 3 rfl pV 3 underlying64 rfl sizeOf62 rfl (gY 4 rfl pV (fun W hW => iH underlying62 rfl ((Kp.h hW).f3).get.2 rfl) (gQ 5 rfl pV rfl (iQ 6 rfl pV rfl (dR 7 rfl pV 0 underlying69 rfl sizeOf64 rfl (dR 8 rfl pV 2 underlying64 rfl sizeOf61 rfl (gY 9 rfl pV (fun W hW => iH underlying61 rfl ((Kp.h hW).f3).get.2 rfl) (iQ 10 rfl pV rfl (dR 11 rfl pV 0 underlying125 rfl sizeOf3 rfl (gY 12 rfl pV (fun W hW => iH underlying3 rfl ((Kp.h hW).f4).get.2 rfl) (gY 13 rfl pV (fun W hW => WU (I9 ((Kp.h hW)) underlying62 underlying3 zeroValue187 rfl rfl) (MR D P k)) (iJ 14 rfl pV (fun _ => eP rfl) (nT (aj (ay (ay (ah (aN rfl (aU (eF underlying187 rfl rfl) (aA (aj (aP rfl (fun h1 => ?_) (fun h1 => ?_))))))))))))))))))))))))))
 ·(try simp only [aI] at h1)
  try (exfalso; first | contradiction | omega)
  all_goals
   have hnm := Ov h1
   refine ay (ah (dw rfl func163 (Gh VN) ?_))
   rintro _ w1 ⟨p1, rfl, H1⟩
   refine aV rfl (aA (aj ?_))
   have XW := H1.drew
   have rG := aB.kp (XW.f5.f5.f5.f5.f5)
   refine vV [4, 9, 12] rG rfl (gQ 0 rfl rG rfl (iQ 1 rfl rG rfl (dR 2 rfl rG 0 underlying69 rfl sizeOf64 rfl (dR 3 rfl rG 3 underlying64 rfl sizeOf62 rfl (gY 4 rfl rG (fun W hW => iH underlying62 rfl ((Kp.h hW).f4).get.2 rfl) (gQ 5 rfl rG rfl (iQ 6 rfl rG rfl (dR 7 rfl rG 0 underlying69 rfl sizeOf64 rfl (dR 8 rfl rG 2 underlying64 rfl sizeOf61 rfl (gY 9 rfl rG (fun W hW => iH underlying61 rfl ((Kp.h hW).f4).get.2 rfl) (iQ 10 rfl rG rfl (dR 11 rfl rG 0 underlying125 rfl sizeOf3 rfl (gY 12 rfl rG (fun W hW => iH underlying3 rfl ((Kp.h hW).f5).get.2 rfl) (gQ 13 rfl rG rfl ?_))))))))))))))
   refine dJ 14 rfl (by kernel_rfl) (sD XW.f2 underlying62 underlying3 rfl rfl rfl) ?_
   rintro _ w2 H2
   have y5 := aB.kp (H2.f5.f5.f5.f5.f5)
   refine dN y5 (by kernel_rfl) ?_
   refine nT (aj (ay (ah (aN rfl (aV rfl (aA (aj (aJ (aQ (.inl rfl) results128 rfl ?_)))))))))
   have hu1 : AQ (sZ P k p1) U (D ++ [k]) = (AQ P U D • dV p1 [] [] 0) := by
    rw [DT, iC, hD2 _ hnm, wV (P' := P) (U' := U) fun x hx => ⟨rD _ _ (by rintro rfl; exact hnm hx), rfl⟩]
   have HM := aB.Z4 H2.f5.f5.f4.f5.f5
   rw [← hu1, ← Ji hnm] at HM
   have HZ := aB.QK (k := k) (DU hD1 hnm) (fun k hk => hD2 k fun hm => hk (by simp [hm])) (by simp) HM
   rw [iC] at HZ
   exact ⟨_, rfl, HZ⟩
 ·(try simp only [aI] at h1)
  try (exfalso; first | contradiction | omega)
  all_goals
   have hmem := Ou h1
   rw [Jj hmem]
   refine aT (aj (ay (ah (aN rfl (aV rfl (aA (aj (aJ (aQ (.inl rfl) results128 rfl ?_)))))))))
   exact ⟨_, rfl, aB.QK hD1 hD2 hmem VN.f4.f4.f4.f4⟩
theorem aB.Gx {b p : Nat} {k : Int} {U : Int → List (List fB)} (H : aB w0 w (Fb b U k p • dV p (U k) [] 0 • F)) : aB w0 w (pF b U • F) := by
  have := H.uF
  rwa [TN] at this
end
end Go.Proofs.YtddekefihgejoaaGreatDoor
end
section
namespace Go.Proofs.YtddekefihgejoaaGreatDoor
open Go.RowKit Go.Lib
section
variable {P : Program} {L : List (Nat × Value)} {w0 w : World} {F : HP} {ty : TypeId} {b : Nat} {v d : Int} {t : TypeId}
theorem UR {T : Value → World → Prop} {f : FuncId} {args : List Operand} {ts : Array TypeId} {vs : List Value} {fn : Func} {e : Array Value → Sem Value} {v : Value} {w' : World} (ha : zG L args = some vs)
    (hf : P.funcs[f]? = some fn) (hname : (fn.name == "runtime.NumGoroutine") = false) (hb : fn.body.isNone = true) (hn : Extern.findNext fn = none) (he : Extern.find fn = some e) (hr : (e vs.toArray).run P w = .ok v w') (ht : T v w') :
    rH P L (.call ⟨.value (.func f), args.toArray, ts⟩) ty w T := ni (v := v) (w' := w') (fun ρ hρ _ _ _ _ => by
  have hg : ρ (.func f) = .func (.func f) #[] #[] := hρ _ _ rfl
  have hc := run_callFunc_extern hf hname hb hn he vs.toArray w
  rw [hr] at hc
  simp [execOp, resolve, invoke, WV hρ _ _ ha, hg, Deferred.ofValue]
  exact hc) ht
theorem KO (hc : w.cell? ⟨b, 0, none⟩ = some (.int .i64 v)) : (Extern.Atomic.loadT (.int .i64) #[.pointer (some ⟨b, 0, none⟩)]).run P w = .ok (.int .i64 v) w := by
  change Sem.run P (do Extern.Atomic.read (.int .i64) (← asAddr (.pointer (some ⟨b, 0, none⟩)))) w = _
  simp [Extern.Atomic.read, asAddr, hc, Result.andThen]
theorem TR {f : FuncId} {args : List Operand} {ts : Array TypeId} {fn : Func} (H : aB w0 w (bY b (.cells #[.int .i64 v] t (0, 0)) • F)) (ha : zG L args = some [.pointer (some ⟨b, 0, none⟩), .int .i64 d])
    (hf : P.funcs[f]? = some fn) (hname : (fn.name == "runtime.NumGoroutine") = false) (hb : fn.body.isNone = true) (hn : Extern.findNext fn = none) (he : Extern.find fn = some (Extern.Atomic.update (Op.intArith .add) .i64 true)) :
    rH P L (.call ⟨.value (.func f), args.toArray, ts⟩) ty w fun u w' => u = .int .i64 (IntKind.i64.wrap (v + d)) ∧ aB w0 w' (bY b (.cells #[.int .i64 (IntKind.i64.wrap (v + d))] t (0, 0)) • F) :=
  UR ha hf hname hb hn he (Conc.run_add_entry (gX H.get.2 rfl) (Ak H.get.2)) ⟨rfl, H.setCell (i := 0) _⟩
theorem QU {f : FuncId} {args : List Operand} {ts : Array TypeId} {fn : Func} (H : aB w0 w (bY b (.cells #[.int .i64 v] t (0, 0)) • F)) (ha : zG L args = some [.pointer (some ⟨b, 0, none⟩)])
    (hf : P.funcs[f]? = some fn) (hname : (fn.name == "runtime.NumGoroutine") = false) (hb : fn.body.isNone = true) (hn : Extern.findNext fn = none) (he : Extern.find fn = some (Extern.Atomic.loadT (.int .i64))) :
    rH P L (.call ⟨.value (.func f), args.toArray, ts⟩) ty w fun u w' => u = .int .i64 v ∧ w = w' :=
  UR ha hf hname hb hn he (KO (gX H.get.2 rfl)) ⟨rfl, rfl⟩
theorem zo (H : aB w0 w (bY b (.cells #[.int .i64 v] t (0, 0)) • F)) : fE Tryz.prog 82 #[.pointer (some ⟨b, 0, none⟩), .int .i64 d] w fun u w' => u = .int .i64 (IntKind.i64.wrap (v + d)) ∧ aB w0 w' (bY b (.cells #[.int .i64 (IntKind.i64.wrap (v + d))] t (0, 0)) • F) := by
 refine gy Tryz.func82 Tryz.ntmps82 ?_
 dsimp only [aY, Nat.reduceAdd]
 refine ay (ah (aV rfl (aA (aj (ay (ah (aN rfl (bP rfl (bg 0 Tryz.underlying144 rfl Tryz.sizeOf2 rfl (aN rfl (gq (TR H rfl Tryz.func127 rfl rfl (by kernel_rfl) (by kernel_rfl)) ?_)))))))))))
 rintro _ w1 ⟨rfl, H1⟩
 refine aV rfl (aA (aj (aJ (aQ (.inl rfl) Tryz.results82 rfl ?_))))
 exact ⟨rfl, H1⟩
theorem jZ (H : aB w0 w (bY b (.cells #[.int .i64 v] t (0, 0)) • F)) : fE Tryz.prog 58 #[.pointer (some ⟨b, 0, none⟩)] w fun u w' => u = .int .i64 v ∧ w = w' := by
 refine gy Tryz.func58 Tryz.ntmps58 ?_
 dsimp only [aY, Nat.reduceAdd]
 refine ay (ah (aV rfl (aA (aj (ay (ah (aN rfl (bP rfl (bg 0 Tryz.underlying144 rfl Tryz.sizeOf2 rfl (gq (QU H rfl Tryz.func118 rfl rfl (by kernel_rfl) (by kernel_rfl)) ?_))))))))))
 rintro _ _ ⟨rfl, rfl⟩
 refine aV rfl (aA (aj (aJ (aQ (.inl rfl) Tryz.results58 rfl ?_))))
 exact ⟨rfl, rfl⟩
end
end Go.Proofs.YtddekefihgejoaaGreatDoor
end
section
namespace Go.Proofs.YtddekefihgejoaaGreatDoor
open Go.RowKit
inductive Cells : Nat → Nat → List (Nat × Nat) → List Value → List (Nat × Value) → List Value → Prop
  | nil {i o : Nat} : Cells i o [] [] [] []
  | one {i o : Nat} {pl : List (Nat × Nat)} {z : List Value} {vs : List (Nat × Value)} {cs : List Value} {v zv : Value} (h : v.oneCell' = true) (k : Cells (i + 1) (o + 1) pl z vs cs) : Cells i o ((o, 1) :: pl) (zv :: z) ((i, v) :: vs) (v :: cs)
  | agg {i o m : Nat} {pl : List (Nat × Nat)} {z : List Value} {vs : List (Nat × Value)} {cs us zs : List Value} (hm : us.length = m) (hz : zs.length = m) (k : Cells (i + 1) (o + m) pl z vs cs) : Cells i o ((o, m) :: pl) (zs ++ z) ((i, .agg us.toArray) :: vs) (us ++ cs)
  | zero {i o m : Nat} {pl : List (Nat × Nat)} {z : List Value} {vs : List (Nat × Value)} {cs zs : List Value} (hz : zs.length = m) (k : Cells (i + 1) (o + m) pl z vs cs) : Cells i o ((o, m) :: pl) (zs ++ z) vs (zs ++ cs)
theorem KP {v : Value} (h : v.oneCell' = true) : v.cells = #[v] := by cases v <;> simp_all [Value.cells, Value.oneCell']
theorem Fg {pl : Array (Nat × Nat)} {i o m : Nat} {v : Value} {vs : List (Nat × Value)} {pre zs us z : List Value} {R : Option (Array Value)} (hp : pl[i]? = some (o, m)) (ho : pre.length = o) (hv : v.cells = us.toArray) (hm : us.length = m) (hz : zs.length = m)
    (h : Instr.fill (fun i => pl[i]?) (pre ++ us ++ z).toArray vs = R) : Instr.fill (fun i => pl[i]?) (pre ++ (zs ++ z)).toArray ((i, v) :: vs) = R := by
  simp only [Instr.fill]
  rw [hp]
  dsimp only
  rw [hv, if_neg (by simp; omega)]
  have hfr := Dp us o 0 (pre ++ (zs ++ z)).toArray (by simp; omega)
  simp only [Nat.add_zero] at hfr
  rw [← Array.foldl_toList, Array.toList_zipIdx]
  simp only [List.toList_toArray] at hfr ⊢
  rw [show (us.zipIdx.foldl (fun cs (x : Value × Nat) => cs.setIfInBounds (o + x.2) x.1) (pre ++ (zs ++ z)).toArray) = _ from hfr]
  rw [← h]
  congr 2
  subst ho
  rw [List.take_left, ← List.append_assoc pre zs z, show pre.length + us.length = (pre ++ zs).length from by simp; omega, List.drop_left]
theorem KQ {i o : Nat} {pl : List (Nat × Nat)} {z cs : List Value} {vs : List (Nat × Value)} (h : Cells i o pl z vs cs) : ∀ {pp : List (Nat × Nat)} {pre : List Value}, pp.length = i → pre.length = o →
    Instr.fill (fun j => (pp ++ pl).toArray[j]?) (pre ++ z).toArray vs = some (pre ++ cs).toArray := by
  induction h with
  | nil => intro pp pre _ _; rfl
  | @one i o pl z vs cs v zv h k ih =>
    intro pp pre h1 h2
    refine Fg (zs := [zv]) (us := [v]) (o := o) (m := 1) (by simp [← h1]) h2 (KP h) rfl rfl ?_
    have := ih (pp := pp ++ [(o, 1)]) (pre := pre ++ [v]) (by simp; omega) (by simp; omega)
    simpa using this
  | @agg i o m pl z vs cs us zs hm hz k ih =>
    intro pp pre h1 h2
    refine Fg (zs := zs) (us := us) (o := o) (m := m) (by simp [← h1]) h2 rfl hm hz ?_
    have := ih (pp := pp ++ [(o, m)]) (pre := pre ++ us) (by simp; omega) (by simp; omega)
    simpa using this
  | @zero i o m pl z vs cs zs hz k ih =>
    intro pp pre h1 h2
    have := ih (pp := pp ++ [(o, m)]) (pre := pre ++ zs) (by simp; omega) (by simp; omega)
    simpa using this
section
variable {P : Program} {L : List (Nat × Value)} {w : World} {ty : TypeId}
theorem cO {t : TypeId} {fs : Array Field} {z : Value} {zl : List Value} {pl : List (Nat × Nat)} {ps : List (Nat × Operand)} {vs : List (Nat × Value)} {cs : List Value} (cells : List Value) (ht : P.underlying t = some (.struct fs)) (hz : ∀ w, (zeroValue t).run P w = .ok z w) (hzl : z.cells = zl.toArray)
    (hpl : ∀ w, (fs.mapM fun f => do pure (f.offset, ← sizeOf f.type) : Sem (Array (Nat × Nat))).run P w = .ok pl.toArray w) (hp : Sr L ps = some vs) (hC : Cells 0 0 pl zl vs cs) (hcs : cs = cells) : Val P L (.build t ps.toArray) ty w (.agg cells.toArray) w := by
  subst hcs
  exact fD cs.toArray ht hz hpl hp (by rw [hzl]; exact KQ hC (pp := []) (pre := []) rfl rfl)
end
end Go.Proofs.YtddekefihgejoaaGreatDoor
end
