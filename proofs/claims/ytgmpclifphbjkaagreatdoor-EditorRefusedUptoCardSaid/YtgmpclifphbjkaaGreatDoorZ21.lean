import Derived.Test.YtgmpclifphbjkaaGreatDoorZ2
import Derived.Test.YtgmpclifphbjkaaGreatDoorZ20
import Derived.Test.YtgmpclifphbjkaaGreatDoorZ18
import Derived.Test.YtgmpclifphbjkaaGreatDoorZ10
import Derived.Test.YtgmpclifphbjkaaGreatDoorZ8
import Derived.Test.YtgmpclifphbjkaaGreatDoorZ9
import Derived.Test.YtgmpclifphbjkaaGreatDoorZ12
set_option linter.unusedSimpArgs false
set_option linter.unusedVariables false
/- Texts of mine, joined, their names in short: ESame2 ELive FieldVal LawEUndoes ERefM2 HistF RHist. -/
section
namespace Go.Proofs.YtgmpclifphbjkaaGreatDoor
open Go.RowKit
open _root_.Go.Proofs.Tryz
structure UU where
  pt : Int
  mrk : Int
  mode : Int
  over : Bool
  given : Bool
  minus : Bool
  arg : Int
  last : Int
  fr : Int
  to : Int
  place : Int
  WR : Int
  res : Int
  iO : Int
def Yi (x : UU) (u ks sv : Value) : List Value := [u, .int .i64 x.pt, .int .i64 x.mrk, .int .i64 x.mode, .bool x.over, .bool x.given, .bool x.minus, .int .i64 x.arg, .int .i64 x.last, .int .i64 x.fr, .int .i64 x.to, ks, .int .i64 x.place, sv, .int .i64 x.WR, .int .i64 x.res, .int .i64 x.iO]
theorem Po (x : Int × ByteArray) : (ni x).length = 2 := rfl
section
variable {w0 w : World} {F : HP} {x : UU} {u z ks qs sv tv : Value} {l : List Int} {ls : List (List Int)} {us vs : List Value} {S : List (Int × ByteArray)}
theorem FI (H : aB w0 w F) (g1 : iU w0 F .i32 u l) (g2 : iU w0 F .i32 z l) (k1 : yM w0 F 1 ks ls.length us) (k2 : yM w0 F 1 qs ls.length vs)
  (e1 : ∀ k, k < ls.length → iU w0 F .i32 (us.getD k undef) (ls.getD k [])) (e2 : ∀ k, k < ls.length → iU w0 F .i32 (vs.getD k undef) (ls.getD k []))
  (s1 : yM w0 F 2 sv S.length (S.flatMap ni)) (s2 : yM w0 F 2 tv S.length (S.flatMap ni)) :
  fQ prog 20 #[.agg (Yi x u ks sv).toArray, .agg (Yi x z qs tv).toArray] w fun v' w' => v' = .bool true ∧ aB w0 w' F := by
 have hb1 : (ls.length : Int) ≤ 9223372036854775807 := by obtain ⟨_, a, c, _, h1, h2, _⟩ := k1 w H; omega
 have hb2 : (S.length : Int) ≤ 9223372036854775807 := by obtain ⟨_, a, c, _, h1, h2, _⟩ := s1 w H; omega
 unfold Yi
 refine gX func20 ntmps20 ?_
 dsimp only [bg, Nat.reduceAdd]
 refine ay (ah (iy (iq (l := [_, _, _, _, _, _, _, _, _, _, _, _, _, _, _, _, _]) H rfl rfl) ?_))
 rintro _ w1 ⟨b1, rfl, H1⟩
 refine iy (iq (l := [_, _, _, _, _, _, _, _, _, _, _, _, _, _, _, _, _]) H1 rfl rfl) ?_
 rintro _ w2 ⟨b2, rfl, H2⟩
 refine aV rfl (aA (aj (ay (ay (ah (aZ 0 underlying46 rfl sizeOf42 rfl (aU (qP 0 (xs := [_, _, _]) underlying42 rfl sizeOf42 rfl rfl (H2.f2).get.2 rfl) (aZ 0 underlying46 rfl sizeOf42 rfl (aU (qP 0 (xs := [_, _, _]) underlying42 rfl sizeOf42 rfl rfl (H2).get.2 rfl) (dw rfl func66 (Gq (l := l) (pt := x.pt) (mk := x.mrk) H2 (fun W HW => g1 _ (HW.right.right)) (fun W HW => g2 _ (HW.right.right))) ?_))))))))))
 rintro _ w3 ⟨rfl, H3⟩
 refine aU (kM rfl) (jo rfl (fun h => by exfalso; (try simp only [aG] at h); simp at h) (fun h1 => ?_))
 (try simp only [aG] at h1)
 refine bD (aZ 3 underlying46 rfl sizeOf3 rfl (bD (cO underlying3 rfl (H3.f2).get.2 rfl (bD (aZ 3 underlying46 rfl sizeOf3 rfl (bD (cO underlying3 rfl (H3).get.2 rfl (bD (aU (bZ rfl rfl) (jr rfl rfl (jo rfl (fun h => by exfalso; (try simp only [aG] at h); simp at h) (fun h2 => ?_))))))))))))
 (try simp only [aG] at h2)
 refine bD (aZ 4 underlying46 rfl sizeOf4 rfl (bD (cO underlying4 rfl (H3.f2).get.2 rfl (bD (aZ 4 underlying46 rfl sizeOf4 rfl (bD (cO underlying4 rfl (H3).get.2 rfl (bD (aU (zI underlying4 rfl rfl) (jr rfl rfl (jo rfl (fun h => by exfalso; (try simp only [aG] at h); simp at h) (fun h3 => ?_))))))))))))
 (try simp only [aG] at h3)
 refine bD (aZ 5 underlying46 rfl sizeOf4 rfl (bD (cO underlying4 rfl (H3.f2).get.2 rfl (bD (aZ 5 underlying46 rfl sizeOf4 rfl (bD (cO underlying4 rfl (H3).get.2 rfl (bD (aU (zI underlying4 rfl rfl) (jr rfl rfl (jo rfl (fun h => by exfalso; (try simp only [aG] at h); simp at h) (fun h4 => ?_))))))))))))
 (try simp only [aG] at h4)
 refine bD (aZ 6 underlying46 rfl sizeOf4 rfl (bD (cO underlying4 rfl (H3.f2).get.2 rfl (bD (aZ 6 underlying46 rfl sizeOf4 rfl (bD (cO underlying4 rfl (H3).get.2 rfl (bD (aU (zI underlying4 rfl rfl) (jr rfl rfl (jo rfl (fun h => by exfalso; (try simp only [aG] at h); simp at h) (fun h5 => ?_))))))))))))
 (try simp only [aG] at h5)
 refine bD (aZ 7 underlying46 rfl sizeOf3 rfl (bD (cO underlying3 rfl (H3.f2).get.2 rfl (bD (aZ 7 underlying46 rfl sizeOf3 rfl (bD (cO underlying3 rfl (H3).get.2 rfl (bD (aU (bZ rfl rfl) (jr rfl rfl (jo rfl (fun h => by exfalso; (try simp only [aG] at h); simp at h) (fun h6 => ?_))))))))))))
 (try simp only [aG] at h6)
 refine bD (aZ 8 underlying46 rfl sizeOf3 rfl (bD (cO underlying3 rfl (H3.f2).get.2 rfl (bD (aZ 8 underlying46 rfl sizeOf3 rfl (bD (cO underlying3 rfl (H3).get.2 rfl (bD (aU (bZ rfl rfl) (jr rfl rfl (jo rfl (fun h => by exfalso; (try simp only [aG] at h); simp at h) (fun h7 => ?_))))))))))))
 (try simp only [aG] at h7)
 refine bD (aZ 9 underlying46 rfl sizeOf3 rfl (bD (cO underlying3 rfl (H3.f2).get.2 rfl (bD (aZ 9 underlying46 rfl sizeOf3 rfl (bD (cO underlying3 rfl (H3).get.2 rfl (bD (aU (bZ rfl rfl) (jr rfl rfl (jo rfl (fun h => by exfalso; (try simp only [aG] at h); simp at h) (fun h8 => ?_))))))))))))
 (try simp only [aG] at h8)
 refine bD (aZ 10 underlying46 rfl sizeOf3 rfl (bD (cO underlying3 rfl (H3.f2).get.2 rfl (bD (aZ 10 underlying46 rfl sizeOf3 rfl (bD (cO underlying3 rfl (H3).get.2 rfl (bD (aU (bZ rfl rfl) (jr rfl rfl (jo rfl (fun h => by exfalso; (try simp only [aG] at h); simp at h) (fun h9 => ?_))))))))))))
 (try simp only [aG] at h9)
 refine bD (aZ 11 underlying46 rfl sizeOf43 rfl (bD (cO underlying43 rfl (H3.f2).get.2 rfl (bD (aU (fB (k1 _ (H3.right.right)) underlying43 rfl) (bD (aZ 11 underlying46 rfl sizeOf43 rfl (bD (cO underlying43 rfl (H3).get.2 rfl (bD (aU (fB (k2 _ (H3.right.right)) underlying43 rfl) (bD (aU (bZ rfl rfl) (jr rfl rfl (aA (aj (aH rfl (fun h => by exfalso; (try simp only [aG] at h); simp at h) (fun h10 => ?_))))))))))))))))))
 (try simp only [aG] at h10)
 refine aS (aj (ay (ay (ah (aV rfl (aA (aj (bf ?_))))))))
 refine fM [(2, _), (3, _)] (fun (k : Nat) => [(5, .int .i64 (k : Int))]) (fun (k : Nat) W => k ≤ ls.length ∧ aB w0 W (dA b1 (.cells (Yi x u ks sv).toArray 46 (0, 0)) • dA b2 (.cells (Yi x z qs tv).toArray 46 (0, 0)) • F)) (fun (k : Nat) => ls.length - k) (0) (Sub.cons rfl (Sub.cons rfl (Sub.nil _))) (Sub.cons rfl (Sub.nil _)) ⟨by omega, H3.f2⟩ ?_
 rintro k w4 ⟨hk, HL⟩
 dsimp only [List.cons_append, List.nil_append]
 refine ay (ay (ah (aO rfl (aZ 11 underlying46 rfl sizeOf43 rfl (cO underlying43 rfl (HL).get.2 rfl (aU (fB (k1 _ (HL.right.right)) underlying43 rfl) (aU (dL rfl rfl) (aA (aj (aH rfl (fun h11 => ?_) (fun h11 => ?_)))))))))))
 ·(try simp only [aG] at h11)
  have hkl : k < ls.length := by have h9 := h11; omega
  refine aS (aj (ay (bf (ay ?_))))
  have QK := HL.drew
  have yI := aB.kp (QK.f2.f2)
  refine uH [1, 4, 6, 9] yI rfl (dP 0 rfl yI 11 underlying46 rfl sizeOf43 rfl (gQ 1 rfl yI (fun W hW => iI underlying43 rfl ((Kp.h hW)).get.2 rfl) (fU 2 rfl yI rfl ?_)))
  obtain ⟨bks, oks, cks, eks⟩ := Rd.rG (k1 _ (QK.right.right)) (by omega)
  cases eks
  refine iJ 3 rfl yI (fun _ => eF underlying43 sizeOf22 rfl rfl (by omega)) ?_
  refine gQ 4 rfl yI (fun W hW => iC (dM underlying22 rfl) rfl (by first | exact Rd.Ee (k1 _ ((Kp.h hW).right.right)) (by omega) | exact Rd.U9 (k1 _ ((Kp.h hW).right.right)) (by omega) | exact Rd.UM (k1 _ ((Kp.h hW).right.right)) (by omega))) ?_
  refine Q5 (fun ab3 Yj => ?_)
  refine dP 5 rfl yI 11 underlying46 rfl sizeOf43 rfl (gQ 6 rfl yI (fun W hW => iI underlying43 rfl ((Kp.h hW).f2).get.2 rfl) (fU 7 rfl yI rfl ?_))
  obtain ⟨bqs, oqs, cqs, eqs⟩ := Rd.rG (k2 _ (QK.right.right)) (by omega)
  cases eqs
  refine iJ 8 rfl yI (fun _ => eF underlying43 sizeOf22 rfl rfl (by omega)) ?_
  refine gQ 9 rfl yI (fun W hW => iC (dM underlying22 rfl) rfl (by first | exact Rd.Ee (k2 _ ((Kp.h hW).right.right)) (by omega) | exact Rd.U9 (k2 _ ((Kp.h hW).right.right)) (by omega) | exact Rd.UM (k2 _ ((Kp.h hW).right.right)) (by omega))) ?_
  refine Q5 (fun ab4 Yk => ?_)
  refine jH 10 rfl (rU rfl func67 (J3 _ _ _ _ _ ((by rw [Yj]; exact e1 _ (by omega) _ (QK.right.right))) ((by rw [Yk]; exact e2 _ (by omega) _ (QK.right.right))))) ?_
  rintro _ w7 ⟨rfl, hD7⟩
  have HD7 := QK.nH hD7
  have vO := aB.kp (HD7.f2.f2)
  refine fA vO (by kernel_rfl) ?_
  refine iJ 11 rfl vO (fun _ => kM rfl) (mg (aj (aH rfl (fun h => by exfalso; (try simp only [aG] at h); simp at h) (fun h12 => ?_))))
  (try simp only [aG] at h12)
  refine aS (aQ (aj (ah (aO rfl (aU (eP rfl rfl (by omega)) (aV rfl (aA ?_)))))))
  refine dK (k + 1) ?_ ?_ ?_ ?_
  ·exact (Sub.cons rfl (Sub.nil _))
  ·exact (Sub.cons rfl (Sub.cons rfl (Sub.nil _)))
  ·(try dsimp only)
   first | done | exact ⟨by omega, HD7.f2.f2⟩
  ·(try dsimp only); omega
 ·(try simp only [aG] at h11)
  refine fG (aX (aX (bM (aj (ay (ay (ah (aZ 12 underlying46 rfl sizeOf3 rfl (cO underlying3 rfl (HL).get.2 rfl (aZ 12 underlying46 rfl sizeOf3 rfl (cO underlying3 rfl (HL.f2).get.2 rfl (aU (bZ rfl rfl) (jo rfl (fun h => by exfalso; (try simp only [aG] at h); simp at h) (fun h13 => ?_))))))))))))))
  (try simp only [aG] at h13)
  refine bD (aZ 13 underlying46 rfl sizeOf44 rfl (bD (cO underlying44 rfl (HL).get.2 rfl (bD (aU (fB (s1 _ (HL.right.right)) underlying44 rfl) (bD (aZ 13 underlying46 rfl sizeOf44 rfl (bD (cO underlying44 rfl (HL.f2).get.2 rfl (bD (aU (fB (s2 _ (HL.right.right)) underlying44 rfl) (bD (aU (bZ rfl rfl) (jr rfl rfl (jo rfl (fun h => by exfalso; (try simp only [aG] at h); simp at h) (fun h14 => ?_))))))))))))))))
  (try simp only [aG] at h14)
  refine bD (aZ 14 underlying46 rfl sizeOf3 rfl (bD (cO underlying3 rfl (HL).get.2 rfl (bD (aZ 14 underlying46 rfl sizeOf3 rfl (bD (cO underlying3 rfl (HL.f2).get.2 rfl (bD (aU (bZ rfl rfl) (jr rfl rfl (jo rfl (fun h => by exfalso; (try simp only [aG] at h); simp at h) (fun h15 => ?_))))))))))))
  (try simp only [aG] at h15)
  refine bD (aZ 15 underlying46 rfl sizeOf3 rfl (bD (cO underlying3 rfl (HL).get.2 rfl (bD (aZ 15 underlying46 rfl sizeOf3 rfl (bD (cO underlying3 rfl (HL.f2).get.2 rfl (bD (aU (bZ rfl rfl) (jr rfl rfl (jo rfl (fun h => by exfalso; (try simp only [aG] at h); simp at h) (fun h16 => ?_))))))))))))
  (try simp only [aG] at h16)
  refine bD (aZ 16 underlying46 rfl sizeOf2 rfl (bD (cO underlying2 rfl (HL).get.2 rfl (bD (aZ 16 underlying46 rfl sizeOf2 rfl (bD (cO underlying2 rfl (HL.f2).get.2 rfl (bD (aU (bZ rfl rfl) (jr rfl rfl (aA (aj (aH rfl (fun h => by exfalso; (try simp only [aG] at h); simp at h) (fun h17 => ?_))))))))))))))
  (try simp only [aG] at h17)
  refine aS (aj (ay (ay (ah (aV rfl (aA (aj (bf ?_))))))))
  refine fM [(2, _), (3, _)] (fun (k2 : Nat) => [(6, .int .i64 (k2 : Int))]) (fun (k2 : Nat) W => k2 ≤ S.length ∧ aB w0 W (dA b1 (.cells (Yi x u ks sv).toArray 46 (0, 0)) • dA b2 (.cells (Yi x z qs tv).toArray 46 (0, 0)) • F)) (fun (k2 : Nat) => S.length - k2) (0) (Sub.cons rfl (Sub.cons rfl (Sub.nil _))) (Sub.cons rfl (Sub.nil _)) ⟨by omega, HL.f2.f2⟩ ?_
  rintro k2 w8 ⟨hk2, HL2⟩
  dsimp only [List.cons_append, List.nil_append]
  refine ay (ay (ah (aO rfl (aZ 13 underlying46 rfl sizeOf44 rfl (cO underlying44 rfl (HL2).get.2 rfl (aU (fB (s1 _ (HL2.right.right)) underlying44 rfl) (aU (dL rfl rfl) (aA (aj (aH rfl (fun h18 => ?_) (fun h18 => ?_)))))))))))
  ·(try simp only [aG] at h18)
   have hkl2 : k2 < S.length := by have h9 := h18; omega
   refine aS (aj (ay (bf (ay ?_))))
   have Pq := HL2.drew
   have rP := aB.kp (Pq.f2.f2)
   refine uH [1, 4, 6, 9] rP rfl (dP 0 rfl rP 13 underlying46 rfl sizeOf44 rfl (gQ 1 rfl rP (fun W hW => iI underlying44 rfl ((Kp.h hW)).get.2 rfl) (fU 2 rfl rP rfl ?_)))
   obtain ⟨bsv, osv, csv, esv⟩ := Rd.rG (s1 _ (Pq.right.right)) (by omega)
   cases esv
   refine iJ 3 rfl rP (fun _ => eF underlying44 sizeOf130 rfl rfl (by omega)) (gQ 4 rfl rP (fun W hW => gY (ys := [_, _]) (s1 _ ((Kp.h hW).right.right)) (by omega) underlying130 rfl sizeOf130 rfl (iQ Po (by omega) default) rfl) (dP 5 rfl rP 13 underlying46 rfl sizeOf44 rfl (gQ 6 rfl rP (fun W hW => iI underlying44 rfl ((Kp.h hW).f2).get.2 rfl) (fU 7 rfl rP rfl ?_))))
   obtain ⟨btv, otv, ctv, etv⟩ := Rd.rG (s2 _ (Pq.right.right)) (by omega)
   cases etv
   refine iJ 8 rfl rP (fun _ => eF underlying44 sizeOf130 rfl rfl (by omega)) (gQ 9 rfl rP (fun W hW => gY (ys := [_, _]) (s2 _ ((Kp.h hW).right.right)) (by omega) underlying130 rfl sizeOf130 rfl (iQ Po (by omega) default) rfl) (iJ 10 rfl rP (fun _ => Jy rfl rfl) (mg (aj (aH rfl (fun h => by exfalso; (try simp only [aG] at h); simp at h) (fun h19 => ?_))))))
   (try simp only [aG] at h19)
   refine aS (aQ (aj (ah (aO rfl (aU (eP rfl rfl (by omega)) (aV rfl (aA ?_)))))))
   refine dK (k2 + 1) ?_ ?_ ?_ ?_
   ·exact (Sub.cons rfl (Sub.nil _))
   ·exact (Sub.cons rfl (Sub.cons rfl (Sub.nil _)))
   ·(try dsimp only)
    first | done | exact ⟨by omega, Pq.f2.f2⟩
   ·(try dsimp only); omega
  ·(try simp only [aG] at h18)
   refine fG (aX (aX (bM (aj (ay (ah (aV rfl (aA (aj (aJ (aP (.inl rfl) results20 rfl ?_)))))))))))
   exact ⟨rfl, HL2.right.right⟩
end
end Go.Proofs.YtgmpclifphbjkaaGreatDoor
end
section
namespace Go.Proofs.YtgmpclifphbjkaaGreatDoor
open Go.RowKit
open _root_.Go.Proofs.Tryz
def LY : aY := ((aY.new [] 1 10).bF.jM [97]).iE 0
theorem Yl : LY.c.L = [97] := by rfl
theorem QL : (utf8 LY.c.L).toList = (ByteArray.mk #[97]).toList := by rw [Yl]; exact congrArg ByteArray.toList (by rfl)
theorem LZ : LY.uT = 1 := by rfl
theorem Uw : LY.arg = -1 := by rfl
theorem QM : LY.CW = 3 := by rfl
section
variable {w0 w : World} {F : HP}
theorem L6 (H : aB w0 w F) : fQ prog 9 #[] w fun v w' => v = .bool true ∧ aB w0 w' F := by
 refine gX func9 ntmps9 ?_
 dsimp only [bg, Nat.reduceAdd]
 refine ay (ah (aV rfl (aA (aj (ay (ah (dw rfl func7 (wK H (by omega)) ?_)))))))
 rintro _ w1 ⟨p1, rfl, H1⟩
 refine aO rfl (nX rfl rfl (nX rfl rfl (aV rfl (aV rfl (aA (aj (ay (ah (aO rfl (dw rfl func8 (Fa H1) ?_))))))))))
 rintro _ w2 ⟨e2, rfl, H2⟩
 refine aO rfl (nX rfl rfl (nX rfl rfl (aV rfl (aV rfl (aA (aj (ay (ay (ah (aO rfl (aU (bZ rfl rfl) (jo rfl (fun h => by exfalso; (try simp only [aG] at h); simp at h) (fun h1 => ?_)))))))))))))
 (try simp only [aG] at h1)
 refine bD (aO rfl (bD (aU (bZ rfl rfl) (jr rfl rfl (jo rfl (fun h => by exfalso; (try simp only [aG] at h); simp at h) (fun h2 => ?_))))))
 (try simp only [aG] at h2)
 refine bD (aO rfl (bD (aU (jc underlying28 rfl rfl) (jr rfl rfl (aA (aj (aH rfl (fun h => by exfalso; (try simp only [aG] at h); simp at h) (fun h3 => ?_))))))))
 (try simp only [aG] at h3)
 refine aS (aj (ay (ah (aO rfl (dw rfl func11 (wQ H2) ?_)))))
 rintro _ w3 ⟨rfl, H3⟩
 refine aA (aj (ay (ah (aO rfl (iy (iD (k := .i32) (l := [97]) H3 underlying22 sizeOf21 zeroValue21 rfl rfl rfl (by decide)) ?_)))))
 rintro l4 w4 H4
 refine dw rfl func21 (Dc H4.f2 (fun W HW => (HW).aT) (by simp)) ?_
 rintro _ w5 ⟨rfl, H5⟩
 refine aA (aj (ay (ah (aO rfl (dw rfl func13 (Ae H5) ?_)))))
 rintro _ w6 ⟨rfl, H6⟩
 refine aA (aj (ay (ah (aO rfl (dw rfl func14 (wW H6) ?_)))))
 rintro _ w7 ⟨u7, ks7, us7, sv7, rfl, H7⟩
 refine iy (dI (l := [_, _, _, _, _, _, _, _, _, _, _, _, _, _, _, _, _]) H7 zeroValue46 rfl) ?_
 rintro _ w8 ⟨b8, rfl, H8⟩
 refine aI (bJ 0 (l' := [_, _, _, _, _, _, _, _, _, _, _, _, _, _, _, _, _]) (us := [_, _, _, _, _, _, _, _, _, _, _, _, _, _, _, _, _]) H8 sizeOf46 rfl rfl rfl (aC (by first | rfl | exact Rd.one ((H8.f2).aT)) (aC (by first | rfl | assumption) (aC (by first | rfl | assumption) (aC (by first | rfl | assumption) (aC (by first | rfl | assumption) (aC (by first | rfl | assumption) (aC (by first | rfl | assumption) (aC (by first | rfl | assumption) (aC (by first | rfl | assumption) (aC (by first | rfl | assumption) (aC (by first | rfl | assumption) (aC (by first | rfl | exact Rd.one ((H8.f3).aT)) (aC (by first | rfl | assumption) (aC (by first | rfl | exact Rd.one ((H8.f5).aT)) (aC (by first | rfl | assumption) (aC (by first | rfl | assumption) (aC (by first | rfl | assumption) bn))))))))))))))))) rfl rfl) ?_
 rintro _ w9 H9
 refine aA (aj (ay (ah (aZ 0 underlying46 rfl sizeOf42 rfl (aZ 0 underlying42 rfl sizeOf22 rfl (cO underlying22 rfl (H9).get.2 rfl (aU (JK underlying22 underlying9 underlying21 rfl ((H9.f2).aT)) (aU (PL rfl rfl) (jo rfl (fun h4 => ?_) (fun h => by exfalso; (try simp only [aG] at h); exact h QL))))))))))
 (try simp only [aG] at h4)
 refine bD (aZ 14 underlying46 rfl sizeOf3 rfl (bD (cO underlying3 rfl (H9).get.2 rfl (bD (aU (dW rfl rfl) (jO rfl rfl (jo rfl (fun h5 => ?_) (fun h => by exfalso; (try simp only [aG] at h); exact h LZ))))))))
 (try simp only [aG] at h5)
 refine bD (aZ 7 underlying46 rfl sizeOf3 rfl (bD (cO underlying3 rfl (H9).get.2 rfl (bD (aU (dW rfl rfl) (jO rfl rfl (jo rfl (fun h6 => ?_) (fun h => by exfalso; (try simp only [aG] at h); exact h Uw))))))))
 (try simp only [aG] at h6)
 refine bD (aZ 8 underlying46 rfl sizeOf3 rfl (bD (cO underlying3 rfl (H9).get.2 rfl (bD ?_))))
 refine aU (sJ (dW rfl rfl) (by exact decide_eq_true QM)) ?_
 refine jO rfl rfl (aV rfl (aA (aj (aJ (aP (.inl rfl) results9 rfl ?_)))))
 exact ⟨rfl, H9.right.right.right.right.right.right.right.right⟩
end
end Go.Proofs.YtgmpclifphbjkaaGreatDoor
end
section
namespace Go.Proofs.YtgmpclifphbjkaaGreatDoor
open Go.RowKit
end Go.Proofs.YtgmpclifphbjkaaGreatDoor
end
section
namespace Go.Proofs.YtgmpclifphbjkaaGreatDoor
open Go.RowKit
structure tV where
  v : Value
  parts : List kQ
  err : Int
instance : Inhabited tV := ⟨⟨.slice none 0 0, [], 0⟩⟩
def tV.enc (c : tV) : List Value := [c.v, .int .i64 c.err]
theorem tV.pI (c : tV) : c.enc.length = 2 := rfl
def tV.m (c : tV) : Ya := ⟨c.parts.map kQ.m, c.err⟩
def tV.Reads (W : World) (c : tV) : Prop := Rd W 5 c.v c.parts.length (c.parts.flatMap kQ.enc) ∧ (∀ k, k < c.parts.length → (c.parts.getD k default).Reads W) ∧ c.parts.length ≤ 134217728
theorem og {α β : Type} (f : β → α → β) (s : β) (l : List α) (d : α) {k : Nat} (h : k < l.length) : (l.take (k + 1)).foldl f s = f ((l.take k).foldl f s) (l.getD k d) := by
  rw [List.take_succ_eq_append_getElem h, List.foldl_append, List.getD_eq_getElem?_getD, List.getElem?_eq_getElem h]; rfl
def aY.aam (s : aY) (p : kQ) : aY := s.LV p.m
def aY.acB (s : aY) (c : tV) : aY := (c.parts.foldl aY.aam s.bF).iE c.err
def acC (cs : List tV) (k : Nat) : Nat := ((cs.take k).map fun c => c.parts.length).sum
end Go.Proofs.YtgmpclifphbjkaaGreatDoor
end
section
namespace Go.Proofs.YtgmpclifphbjkaaGreatDoor
open Go.RowKit
def aY.Pv (s : aY) (p : kQ) : aY := s.Dl p.m
def aY.L8 (s : aY) (c : tV) : aY := (c.parts.foldl aY.Pv s.bF).iE c.err
def aY.rF (s : aY) (p : kQ) : aY := if p.kd < 20 then s.Dl p.m else s
def rQ (ps : List kQ) : Prop := ∀ p ∈ ps, dF p.text
section
variable {s t : aY} {ps : List kQ} {cs : List tV}
theorem Jz (h : RS s) (ps : List kQ) (g : rQ ps) : Kept s (ps.foldl aY.Pv s) := by
  induction ps generalizing s with
  | nil => exact ⟨h, Fr.refl s⟩
  | cons p ps ih =>
    obtain ⟨a, b⟩ := Pm (p := p.m) h (g p List.mem_cons_self)
    obtain ⟨c, d⟩ := ih a fun q hq => g q (List.mem_cons_of_mem _ hq)
    exact ⟨c, b.trans d⟩
theorem Px (h : RS s) (ps : List kQ) (g : rQ ps) : Kept s (ps.foldl aY.rF s) := by
  induction ps generalizing s with
  | nil => exact ⟨h, Fr.refl s⟩
  | cons p ps ih =>
    have h1 : Kept s (s.rF p) := by
      unfold aY.rF; split
      · exact Pm (p := p.m) h (g p List.mem_cons_self)
      · exact ⟨h, Fr.refl s⟩
    obtain ⟨c, d⟩ := ih h1.1 fun q hq => g q (List.mem_cons_of_mem _ hq)
    exact ⟨c, h1.2.trans d⟩
theorem Ym (h : RS s) (c : tV) (g : rQ c.parts) : RS (s.L8 c) := aak (Jz (BA h) c.parts g).1 _
theorem L9 (h : t.inn = true) (err : Int) : (t.iE err).inn = false := by
  by_cases he : err = 0
  · rw [he]; exact yF t h
  · unfold aY.iE; rw [if_pos h, if_neg he]; rfl
theorem Ux (h : RS s) (c : tV) (g : rQ c.parts) : (s.L8 c).inn = false := L9 (((Jz (BA h) c.parts g).2.inn).trans (Ag s)) _
theorem Py (h : RS s) (hi : s.inn = false) (cs : List tV) (g : ∀ c ∈ cs, rQ c.parts) : RS (cs.foldl aY.L8 s) ∧ (cs.foldl aY.L8 s).inn = false := by
  induction cs generalizing s with
  | nil => exact ⟨h, hi⟩
  | cons c cs ih => exact ih (Ym h c (g c List.mem_cons_self)) (Ux h c (g c List.mem_cons_self)) fun q hq => g q (List.mem_cons_of_mem _ hq)
def VT (s : aY) : UU := ⟨s.c.pt, s.c.mark, s.c.mode, s.c.over, s.given, s.minus, s.arg, s.CW, s.Zl, s.Zm, s.c.place, s.uT, s.c.res, s.iO⟩
theorem refused (hi : s.inn = false) (h : RS s) (g : rQ ps) {err : Int} (he : err ≠ 0) :
    let t := ps.foldl aY.rF s.bF
    let a := t.iE err
    t.zU err = err ∧ a.c.L = s.c.L ∧ a.c.E = s.c.E ∧ a.c.at_ = s.c.at_ ∧ a.saved = s.saved ∧ a.iO = IntKind.i64.wrap (s.iO + 1) ∧ a.given = false ∧ a.CW = 0 ∧
      VT s = { VT a with given := s.given, minus := s.minus, arg := s.arg, last := s.CW, fr := s.Zl, to := s.Zm, iO := s.iO } := by
  intro t a
  obtain ⟨k1, k2⟩ := Px (BA h) ps g
  obtain ⟨b1, b2, b3⟩ := Ut hi
  obtain ⟨c1, c2, c3, c4, c5, c6⟩ := VR (s := s) (t := t) ((k2.inn).trans (Ag s)) (k2.was.trans b1) (k2.hl.trans b2) (k2.iO.trans b3) he
  have hu : a.uT = s.uT := by
    rw [FD c5, FD hi]
    unfold aY.here
    rw [c1]
  have hs : a.saved = s.saved := by
    unfold aY.saved
    rw [c1, c2]
  refine ⟨c6, by rw [c1], by rw [c1], by rw [c1], hs, c3, c4, ?_, ?_⟩
  · unfold aY.CW; rw [if_neg (by rw [c5]; decide), c1]
  · unfold VT
    rw [hu, c1]
end
end Go.Proofs.YtgmpclifphbjkaaGreatDoor
end
section
namespace Go.Proofs.YtgmpclifphbjkaaGreatDoor
open Go.RowKit
open _root_.Go.Proofs.Tryz
def pU (l : List mM) : Int := if l.any (fun x => decide (16384 < x.1.size)) then 3 else if l.any (fun x => decide (x.2 < 0)) then 1 else 0
theorem Uy {l : List mM} {k : Nat} (hk : k < l.length) : l.getD k default ∈ l := by rw [List.getD_eq_getElem?_getD, List.getElem?_eq_getElem hk]; exact List.getElem_mem hk
theorem Uz {l : List mM} {p : mM → Prop} (h : ∀ k, k < l.length → p (l.getD k default)) : ∀ x ∈ l, p x := by
  intro x hx
  obtain ⟨k, hk, rfl⟩ := List.getElem_of_mem hx
  have := h k hk
  rwa [List.getD_eq_getElem?_getD, List.getElem?_eq_getElem hk] at this
theorem Iw {l : List mM} {k : Nat} (hk : k < l.length) (h : (16384 : Int) < (l.getD k default).1.size) : pU l = 3 := by
  unfold pU
  rw [if_pos (List.any_eq_true.2 ⟨_, Uy hk, decide_eq_true (by omega)⟩)]
theorem FK {l : List mM} (h1 : ∀ k, k < l.length → ¬ (16384 : Int) < (l.getD k default).1.size) : pU l = if l.any (fun x => decide (x.2 < 0)) then 1 else 0 := by
  unfold pU
  rw [if_neg]
  intro c
  obtain ⟨x, hx, hd⟩ := List.any_eq_true.1 c
  have := Uz (p := fun x => ¬ (16384 : Int) < x.1.size) h1 x hx
  simp at hd; omega
theorem Mc {l : List mM} (h1 : ∀ k, k < l.length → ¬ (16384 : Int) < (l.getD k default).1.size) {k : Nat} (hk : k < l.length) (h : (l.getD k default).2 < 0) : pU l = 1 := by
  rw [FK h1, if_pos (List.any_eq_true.2 ⟨_, Uy hk, by simpa using h⟩)]
theorem Pz {l : List mM} (h1 : ∀ k, k < l.length → ¬ (16384 : Int) < (l.getD k default).1.size) (h2 : ∀ k, k < l.length → ¬ (l.getD k default).2 < 0) : pU l = 0 := by
  rw [FK h1, if_neg]
  intro c
  obtain ⟨x, hx, hd⟩ := List.any_eq_true.1 c
  exact Uz (p := fun x => ¬ x.2 < 0) h2 x hx (by simpa using hd)
theorem UA {l : List mM} (h : pU l = 0) : ∀ x ∈ l, Vq x := by
  intro x hx
  unfold pU at h
  split at h
  · simp at h
  · rename_i h1
    split at h
    · simp at h
    · rename_i h2
      simp only [List.any_eq_true, not_exists, not_and, decide_eq_true_eq] at h1 h2
      exact ⟨by have := h1 x hx; omega, by have := h2 x hx; omega⟩
theorem DX (l : List mM) (n : Nat) : (l.flatMap iW).drop (n * 2) = (l.drop n).flatMap iW := by
  induction l generalizing n with
  | nil => simp
  | cons x l ih =>
    cases n with
    | zero => simp
    | succ n => rw [show (n + 1) * 2 = n * 2 + 2 from by omega, List.flatMap_cons, List.drop_succ_cons, ← ih n]; simp [iW, List.drop_append]
theorem PD (l : List mM) : (l.flatMap iW).length = l.length * 2 := by induction l with
  | nil => rfl
  | cons x l ih => rw [List.flatMap_cons, List.length_append, ih, sK, List.length_cons]; omega
theorem VU {W : World} {v : Value} {l : List mM} {n : Nat} (h : Rd W 2 v l.length (l.flatMap iW)) (hn : n ≤ l.length) : Rd W 2 (ny 2 n l.length v) (l.drop n).length ((l.drop n).flatMap iW) := by
  have h1 := h.cut hn (Nat.le_refl _)
  rw [List.take_of_length_le (by rw [DX, PD]; simp), DX] at h1
  rwa [List.length_drop]
section
variable {P : Program} {L : List (Nat × Value)} {w0 w : World} {F : HP} {p : Nat} {hl l : List mM} {base most : Int} {v : Value}
theorem JA (H : aB w0 w F) (hv : yM w0 F 2 v l.length (l.flatMap iW)) (hb : l.length ≤ 35184372087808) : fQ prog 174 #[v] w fun v' w' => v' = .int .i64 (pU l) ∧ aB w0 w' F := by
 refine gX func174 ntmps174 ?_
 dsimp only [bg, Nat.reduceAdd]
 refine ay (ah (aV rfl (aA (aj (ay (ay (ah (aO rfl (aU (fB (hv _ (H)) underlying51 rfl) (aO rfl (aA (aj (bf ?_)))))))))))))
 refine fM [(0, _), (7, _), (8, _)] (fun (k : Nat) => [(9, .int .i64 (k : Int))]) (fun (k : Nat) W => (k ≤ l.length ∧ ∀ i, i < k → ¬ (16384 : Int) < (l.getD i default).1.size) ∧ aB w0 W F) (fun (k : Nat) => l.length - k) (0) (Sub.cons rfl (Sub.cons rfl (Sub.cons rfl (Sub.nil _)))) (Sub.cons rfl (Sub.nil _)) ⟨⟨by omega, fun i hi => absurd hi (by omega)⟩, H⟩ ?_
 rintro k w1 ⟨⟨hk, hsh⟩, HL⟩
 dsimp only [List.cons_append, List.nil_append]
 refine ay (ah (aU (dL rfl rfl) (aA (aj (ay (aH rfl (fun h1 => ?_) (fun h1 => ?_)))))))
 ·(try simp only [aG] at h1)
  refine aS (aj (ay (bf (ay ?_))))
  have hkl : k < l.length := by omega
  refine ah ?_
  obtain ⟨bv, ov, cv, ev⟩ := Rd.rG (hv _ (HL)) (by omega)
  cases ev
  refine aU (eF underlying51 sizeOf152 rfl rfl (by omega)) (aU (gY (ys := [_, _]) (hv _ (HL)) (by omega) underlying152 rfl sizeOf152 rfl (iQ sK (by omega) default) rfl) (iy (dI (l := [_, _]) HL zeroValue152 rfl) ?_))
  rintro _ w2 ⟨b2, rfl, H2⟩
  refine aI (bJ 0 (l' := [_, _]) (us := [_, _]) H2 sizeOf152 rfl rfl rfl (aC (by first | rfl | assumption) (aC (by first | rfl | assumption) bn)) rfl rfl) ?_
  rintro _ w3 H3
  refine aA (aj (ay (ah (aZ 0 underlying152 rfl sizeOf9 rfl (cO underlying9 rfl (H3).get.2 rfl (aU (GH underlying9 rfl) (aU (dQ rfl rfl) (aA (aj (aH rfl (fun h2 => ?_) (fun h2 => ?_)))))))))))
  ·(try simp only [aG] at h2)
   have hkb := h2
   refine ay (ah (aV rfl (aA (aj (aJ (aW (aK (aK (aW (aK (aP (.inl rfl) results174 rfl ?_)))))))))))
   exact ⟨by rw [Iw hkl hkb], H3.right⟩
  ·(try simp only [aG] at h2)
   have hks : ¬ (16384 : Int) < (l.getD k default).1.size := by have h9 := h2; omega
   refine aS (aQ (aj (ah (aU (eP rfl rfl (by omega)) (aO rfl (aA ?_))))))
   refine dK (k + 1) ?_ ?_ ?_ ?_
   ·exact (Sub.cons rfl (Sub.nil _))
   ·exact (Sub.cons rfl (Sub.cons rfl (Sub.cons rfl (Sub.nil _))))
   ·(try dsimp only)
    first | done | exact ⟨⟨by omega, fun i hi => (show i < k ∨ i = k from by omega).elim (hsh i) (fun c => c ▸ hks)⟩, H3.right⟩
   ·(try dsimp only); omega
 ·(try simp only [aG] at h1)
  refine fG (aX (aX (bM (aj (ay (ay ?_))))))
  obtain rfl : k = l.length := by omega
  refine ah (aO rfl (aU (fB (hv _ (HL)) underlying51 rfl) (aO rfl (aA (aj (bf ?_))))))
  refine fM [(18, _), (19, _)] (fun (k2 : Nat) => [(20, .int .i64 (k2 : Int))]) (fun (k2 : Nat) W => (k2 ≤ l.length ∧ ∀ i, i < k2 → ¬ (l.getD i default).2 < 0) ∧ aB w0 W F) (fun (k2 : Nat) => l.length - k2) (0) (Sub.cons rfl (Sub.cons rfl (Sub.nil _))) (Sub.cons rfl (Sub.nil _)) ⟨⟨by omega, fun i hi => absurd hi (by omega)⟩, HL⟩ ?_
  rintro k2 w4 ⟨⟨hk2, hpo⟩, HL2⟩
  dsimp only [List.cons_append, List.nil_append]
  refine ay (ah (aU (dL rfl rfl) (aA (aj (ay (aH rfl (fun h3 => ?_) (fun h3 => ?_)))))))
  ·(try simp only [aG] at h3)
   refine aS (aj (ay (bf (ay ?_))))
   have hkl2 : k2 < l.length := by omega
   refine ah ?_
   obtain ⟨bv, ov, cv, ev⟩ := Rd.rG (hv _ (HL2)) (by omega)
   cases ev
   refine aU (eF underlying51 sizeOf152 rfl rfl (by omega)) (aU (gY (ys := [_, _]) (hv _ (HL2)) (by omega) underlying152 rfl sizeOf152 rfl (iQ sK (by omega) default) rfl) (iy (dI (l := [_, _]) HL2 zeroValue152 rfl) ?_))
   rintro _ w5 ⟨b5, rfl, H5⟩
   refine aI (bJ 0 (l' := [_, _]) (us := [_, _]) H5 sizeOf152 rfl rfl rfl (aC (by first | rfl | assumption) (aC (by first | rfl | assumption) bn)) rfl rfl) ?_
   rintro _ w6 H6
   refine aA (aj (ay (ah (aZ 1 underlying152 rfl sizeOf2 rfl (cO underlying2 rfl (H6).get.2 rfl (aU (dL rfl rfl) (aA (aj (aH rfl (fun h4 => ?_) (fun h4 => ?_))))))))))
   ·(try simp only [aG] at h4)
    have hkn := h4
    refine ay (ah (aV rfl (aA (aj (aJ (aW (aK (aK (aW (aK (aP (.inl rfl) results174 rfl ?_)))))))))))
    exact ⟨by rw [Mc hsh hkl2 hkn], H6.right⟩
   ·(try simp only [aG] at h4)
    have hkp : ¬ (l.getD k2 default).2 < 0 := by have h9 := h4; omega
    refine aS (aQ (aj (ah (aU (eP rfl rfl (by omega)) (aO rfl (aA ?_))))))
    refine dK (k2 + 1) ?_ ?_ ?_ ?_
    ·exact (Sub.cons rfl (Sub.nil _))
    ·exact (Sub.cons rfl (Sub.cons rfl (Sub.nil _)))
    ·(try dsimp only)
     first | done | exact ⟨⟨by omega, fun i hi => (show i < k2 ∨ i = k2 from by omega).elim (hpo i) (fun c => c ▸ hkp)⟩, H6.right⟩
    ·(try dsimp only); omega
  ·(try simp only [aG] at h3)
   refine fG (aX (aX (bM (aj (ay ?_)))))
   obtain rfl : k2 = l.length := by omega
   refine ah (aV rfl (aA (aj (aJ (aP (.inl rfl) results174 rfl ?_)))))
   exact ⟨by rw [Pz hsh hpo], HL2⟩
def kR (hl : List mM) (most : Int) : Nat := hl.length - most.toNat
theorem Cj (H : aB w0 w (dA p (.cells #[v, .int .i64 base, .int .i64 most] 97 (0, 0)) • Row 152 2 v hl.length (hl.flatMap iW) • F)) (hm : 0 ≤ most ∧ most ≤ 4096) (hb : 1 ≤ base ∧ base ≤ 2305843009213693952) (hn : hl.length ≤ 70368744177664) :
  fQ prog 175 #[.pointer (some ⟨p, 0, none⟩)] w fun _ w' => ∃ v', aB w0 w' (dA p (.cells #[v', .int .i64 (base + kR hl most), .int .i64 most] 97 (0, 0)) • Row 152 2 v' (hl.drop (kR hl most)).length ((hl.drop (kR hl most)).flatMap iW) • F) := by
 refine gX func175 ntmps175 ?_
 dsimp only [bg, Nat.reduceAdd]
 refine ay ?_
 have QN := H.drew
 have uD := aB.kp (QN.f2.f2)
 refine uH [4, 10] uD rfl (fU 0 rfl uD rfl (iT 1 rfl uD rfl (dP 2 rfl uD 0 underlying97 rfl sizeOf95 rfl (dP 3 rfl uD 0 underlying95 rfl sizeOf51 rfl (gQ 4 rfl uD (fun W hW => iI underlying51 rfl ((Kp.h hW)).get.2 rfl) (iJ 5 rfl uD (fun _ => fB ((QN.f2).aT) underlying51 rfl) (fU 6 rfl uD rfl (iT 7 rfl uD rfl (dP 8 rfl uD 0 underlying97 rfl sizeOf95 rfl (dP 9 rfl uD 2 underlying95 rfl sizeOf3 rfl (gQ 10 rfl uD (fun W hW => iI underlying3 rfl ((Kp.h hW)).get.2 rfl) (iJ 11 rfl uD (fun _ => jB rfl rfl (by omega)) (iJ 12 rfl uD (fun _ => fO rfl) (mg (aj (ay (ah (aO rfl (aU (dQ rfl rfl) (aA (aj (aH rfl (fun h1 => ?_) (fun h1 => ?_)))))))))))))))))))))))
 ·(try simp only [aG] at h1)
  have hk : (kR hl most : Int) = (hl.length : Int) - most := by have h9 := h1; unfold kR; omega
  refine ay (ah (aO rfl (aO rfl (bH rfl (aZ 0 underlying97 rfl sizeOf95 rfl (aZ 0 underlying95 rfl sizeOf51 rfl (cO underlying51 rfl (QN).get.2 rfl (aO rfl (aU (vk ((QN.f2).aT) underlying51 sizeOf152 rfl rfl rfl (by omega)) (dw rfl func110 (Ba (hl := hl.drop (kR hl most)) QN (fun W HW => by rw [show ((hl.length : Int) - most).toNat = kR hl most from by omega, show ((hl.length : Nat) : Int).toNat = hl.length from by omega]; exact VU HW.f2.aT (by unfold kR; omega)) (by rw [List.length_drop]; unfold kR; omega)) ?_))))))))))
  rintro u1 w1 H1
  refine bH rfl (aZ 0 underlying97 rfl sizeOf95 rfl (aZ 0 underlying95 rfl sizeOf51 rfl (aI (aN 0 (l' := [_, _, _]) H1.f2 sizeOf51 rfl rfl (by first | rfl | exact Rd.one ((H1).aT)) rfl rfl) ?_)))
  rintro _ w2 H2
  refine aA (aj (ah (aO rfl (bH rfl (aZ 0 underlying97 rfl sizeOf95 rfl (aZ 1 underlying95 rfl sizeOf2 rfl (cO underlying2 rfl (H2).get.2 rfl (aO rfl (aU (eP rfl rfl (by omega)) (bH rfl (aZ 0 underlying97 rfl sizeOf95 rfl (aZ 1 underlying95 rfl sizeOf2 rfl (aI (aN 1 (l' := [_, _, _]) H2 sizeOf2 rfl rfl (by first | rfl | assumption) rfl rfl) ?_)))))))))))))
  rintro _ w3 H3
  refine aA (dN (.inr rfl) results175 ?_)
  exact ⟨_, by rw [hk]; exact H3.f3.right.f2.f2⟩
 ·(try simp only [aG] at h1)
  have hk : kR hl most = 0 := by have h9 := h1; unfold kR; omega
  refine aS (dN (.inr rfl) results175 ?_)
  exact ⟨_, by rw [hk]; simpa using QN⟩
theorem WS {hl l : List mM} {base most : Int} (h : Wp hl base most) (hb : hl.length + l.length ≤ 5864062014805) (hm : pU l = 0) (hbase : base ≤ 1152921504606846976) : Wp ((hl ++ l).drop (kR (hl ++ l) most)) (base + kR (hl ++ l) most) most := by
  obtain ⟨h1, h2, h3, h4, h5, h6⟩ := h
  have hl1 : (hl ++ l).length = hl.length + l.length := List.length_append
  refine ⟨?_, ?_, ?_, ?_, h5, fun x hx => ?_⟩
  · rw [List.length_drop]; unfold kR; omega
  · omega
  · unfold kR; omega
  · rw [List.length_drop]; unfold kR; omega
  · rcases List.mem_append.1 (List.mem_of_mem_drop hx) with c | c
    · exact h6 x c
    · exact UA hm x c
def JB (hl : List mM) (most : Int) (l : List mM) : List mM := if pU l = 0 then (hl ++ l).drop (kR (hl ++ l) most) else hl
def JC (hl : List mM) (base most : Int) (l : List mM) : Int := if pU l = 0 then base + kR (hl ++ l) most else base
theorem BD (H : aB w0 w (dZ p hl base most • F)) (hv : yM w0 F 2 v l.length (l.flatMap iW)) (hb : hl.length + l.length ≤ 5864062014805) (hbase : base ≤ 1152921504606846976) :
  fQ prog 132 #[.pointer (some ⟨p, 0, none⟩), v] w fun v' w' => v' = .int .i64 (pU l) ∧ aB w0 w' (dZ p (JB hl most l) (JC hl base most l) most • F) := by
 refine gX func132 ntmps132 ?_
 dsimp only [bg, Nat.reduceAdd]
 refine ay (ah (aV rfl (aA (aj (ay (ay (ah (aO rfl (dw rfl func109 (uS H) ?_)))))))))
 rintro _ _ ⟨rfl, rfl⟩
 refine aA (aj (qN (aS (aj (ay (ay (ah (aO rfl (dw rfl func174 (JA H (fun W HW => hv _ (HW.right)) (by omega)) ?_)))))))))
 rintro _ w2 ⟨rfl, H2⟩
 refine aV rfl (aA (aj (ay (ah (aO rfl (aU (bZ rfl rfl) (aA (aj (aH rfl (fun h1 => ?_) (fun h1 => ?_))))))))))
 ·(try simp only [aG] at h1)
  have hm := h1
  refine ay (ah (aO rfl (aV rfl (aA (aj (aJ (aK (aP (.inl rfl) results132 rfl ?_))))))))
  exact ⟨rfl, by unfold JB JC; rw [if_neg hm, if_neg hm]; exact H2⟩
 ·(try simp only [aG] at h1)
  have hm : pU l = 0 := h1
  refine aS (aj (ay ?_))
  obtain ⟨Jh, oD, qX⟩ := (H2).hist
  have hkl := oD.1
  have hon := @A8 l
  refine ah (aO rfl (aO rfl (bH rfl (aZ 0 underlying97 rfl sizeOf95 rfl (aZ 0 underlying95 rfl sizeOf51 rfl (cO underlying51 rfl (qX).get.2 rfl (aO rfl (iy (fK qX.f2 underlying51 (show (prog.info? 152).map (fun i => (i.zero, i.size, i.bytes)) = some (some (.agg #[.string .empty, .int .i64 0]), 2, 24) by kernel_rfl) rfl rfl rfl (hv _ (qX.right.right)) (by assumption) (by omega) (by omega)) ?_))))))))
  rintro l4 w4 H4
  refine bH rfl (aZ 0 underlying97 rfl sizeOf95 rfl (aZ 0 underlying95 rfl sizeOf51 rfl (aI (aN 0 (l' := [_, _, _]) H4.f2 sizeOf51 rfl rfl (by first | rfl | exact Rd.one ((H4).aT)) rfl rfl) ?_)))
  rintro _ w5 H5
  refine aA (aj (ay (ah (aO rfl (dw rfl func175 (Cj (hl := hl ++ l) (by rw [List.flatMap_append, List.length_append]; exact H5.f2.f2) ⟨by have := oD.2.2.2.1; omega, oD.2.2.2.2.1⟩ ⟨oD.2.1, by omega⟩ (by have := oD.1; rw [List.length_append]; omega)) ?_)))))
  rintro _ w6 ⟨v2, H6⟩
  refine aA (aj (ay (ah (aV rfl (aA (aj (aJ (aP (.inl rfl) results132 rfl ?_))))))))
  exact ⟨by rw [hm], by unfold JB JC; rw [if_pos hm, if_pos hm]; exact aB.uj (WS oD hb hm hbase) H6⟩
theorem Gs {n : Int} (H : aB w0 w F) (hn : 0 ≤ n ∧ n ≤ 4096) (hv : yM w0 F 2 v l.length (l.flatMap iW)) (hb : l.length ≤ 5864062014805) (hm : pU l ≠ 0) : fQ prog 63 #[.int .i64 n, v] w fun v' w' =>
  v' = .tuple #[.pointer none, .int .i64 (pU l)] ∧ aB w0 w' F := by
 refine gX func63 ntmps63 ?_
 dsimp only [bg, Nat.reduceAdd]
 refine ay (ah (aV rfl (aV rfl (aA (aj (ay (ah (aO rfl (dw rfl func7 (wK H (by omega)) ?_)))))))))
 rintro _ w1 ⟨p1, rfl, H1⟩
 refine aO rfl (nX rfl rfl (nX rfl rfl (aV rfl (aV rfl (aA (aj (ay (ay (ah (aO rfl (aU (bZ rfl rfl) (aA (aj (aH rfl (fun h => by exfalso; (try simp only [aG] at h); simp at h) (fun h1 => ?_)))))))))))))))
 (try simp only [aG] at h1)
 refine aS (aj (ay (ay (ah (aO rfl (aO rfl (dw rfl func132 (BD H1 hv (by simp; omega) (by decide)) ?_)))))))
 rintro _ w2 ⟨rfl, H2⟩
 refine aV rfl (aA (aj (ay (ah (aO rfl (aU (bZ rfl rfl) (aA (aj (aH rfl (fun h2 => ?_) (fun h => by exfalso; (try simp only [aG] at h); exact hm h))))))))))
 (try simp only [aG] at h2)
 refine ay (ah (aO rfl (aV rfl (aV rfl (aA (aj (aJ (aK (fC (.inl rfl) results63 rfl rfl ?_)))))))))
 exact ⟨rfl, H2.right⟩
theorem FM {n : Int} (H : aB w0 w F) (hn : 0 ≤ n ∧ n ≤ 4096) (hv : yM w0 F 2 v l.length (l.flatMap iW)) (hb : l.length ≤ 5864062014805) (hm : pU l = 0) : fQ prog 63 #[.int .i64 n, v] w fun v' w' =>
  ∃ p, v' = .tuple #[.pointer (some ⟨p, 0, none⟩), .int .i64 0] ∧ aB w0 w' (dZ p (JB [] n l) (JC [] 1 n l) n • F) := by
 refine gX func63 ntmps63 ?_
 dsimp only [bg, Nat.reduceAdd]
 refine ay (ah (aV rfl (aV rfl (aA (aj (ay (ah (aO rfl (dw rfl func7 (wK H (by omega)) ?_)))))))))
 rintro _ w1 ⟨p1, rfl, H1⟩
 refine aO rfl (nX rfl rfl (nX rfl rfl (aV rfl (aV rfl (aA (aj (ay (ay (ah (aO rfl (aU (bZ rfl rfl) (aA (aj (aH rfl (fun h => by exfalso; (try simp only [aG] at h); simp at h) (fun h1 => ?_)))))))))))))))
 (try simp only [aG] at h1)
 refine aS (aj (ay (ay (ah (aO rfl (aO rfl (dw rfl func132 (BD H1 hv (by simp; omega) (by decide)) ?_)))))))
 rintro _ w2 ⟨rfl, H2⟩
 refine aV rfl (aA (aj (ay (ah (aO rfl (aU (bZ rfl rfl) (aA (aj (aH rfl (fun h => by exfalso; (try simp only [aG] at h); exact h hm) (fun h2 => ?_))))))))))
 (try simp only [aG] at h2)
 refine aS (aj (ay (ah (aO rfl (aV rfl (aV rfl (aA (aj (aJ (fC (.inl rfl) results63 rfl rfl ?_))))))))))
 exact ⟨_, rfl, H2⟩
end
end Go.Proofs.YtgmpclifphbjkaaGreatDoor
end
section
namespace Go.Proofs.YtgmpclifphbjkaaGreatDoor
open Go.RowKit
open _root_.Go.Proofs.Tryz
theorem Dw.cut {I : Hp} {v : Value} {sz n : Nat} {xs : List Value} (hr : Dw I sz v n xs) {l h : Nat} (h1 : l ≤ h) (h2 : h ≤ n) : Dw I sz (ny sz l h v) (h - l) ((xs.drop (l * sz)).take ((h - l) * sz)) := by
  obtain ⟨hl, a, c, rfl, hc1, hc2, hc⟩ := hr
  refine ⟨?_, zK a l c sz, c - l, rfl, by omega, by omega, fun hp => ?_⟩
  · rw [List.length_take, List.length_drop, hl, ← Nat.sub_mul]
    exact Nat.min_eq_left (Nat.mul_le_mul_right _ (by omega))
  · obtain ⟨b, o, cs, e, fr, rfl, hI, hcell⟩ := hc (by omega)
    have : ¬ c = l := by omega
    refine ⟨b, o + l * sz, cs, e, fr, by simp [zK, this, pY], hI, fun j hj => ?_⟩
    have e1 : l * sz + (h - l) * sz = h * sz := by rw [← Nat.add_mul]; congr 1; omega
    have e2 : h * sz ≤ n * sz := Nat.mul_le_mul_right _ h2
    have := hcell (l * sz + j) (by omega)
    rw [Nat.add_assoc, this, List.getD_eq_getElem?_getD, List.getD_eq_getElem?_getD, List.getElem?_take, if_pos hj, List.getElem?_drop]
theorem Rd.aan {w : World} {v : Value} {sz n : Nat} {xs : List Value} (hr : Rd w sz v n xs) {i : Nat} (h : i ≤ n) : Rd w sz (ny sz i n v) (n - i) (xs.drop (i * sz)) := by
  have h1 := hr.cut h (Nat.le_refl _)
  rwa [List.take_of_length_le (by rw [List.length_drop, hr.len, ← Nat.sub_mul]; exact Nat.le_refl _)] at h1
def UC (v : Value) (l : List mM) : HP := know (fun I => Dw I 2 v l.length (l.flatMap iW)) fun _ _ hl h => h.mono hl
def kC (p : Nat) (hl : List mM) (base most : Int) : HP := sS fun (v : Value) => fact (Wp hl base most) • dA p (.cells #[v, .int .i64 base, .int .i64 most] 197 (0, 0)) • UC v hl
section
variable {P : Program} {L : List (Nat × Value)} {w0 w : World} {F : HP} {p : Nat} {hl l : List mM} {base most : Int} {v : Value}
theorem aB.wY (H : aB w0 w (UC v l • F)) : Rd w 2 v l.length (l.flatMap iW) := let ⟨I, h, hI⟩ := H.uf; h.rd hI
theorem aB.vY (H : aB w0 w (Row 152 2 v l.length (l.flatMap iW) • F)) : aB w0 w (UC v l • F) := by
  have hl := H.wz
  rcases H.sW with ⟨a, rfl, h1, h2, H1⟩ | ⟨g, o, c, cur, rfl, h2, h3, h4, h5, H1⟩
  · exact H1.DL fun I => ⟨hl, a, 0, by rw [h1], by omega, by decide, fun h => by omega⟩
  · exact H1.freeze.DF (pq (fun I hI => ⟨hl, _, c, rfl, h2, h3, fun _ => ⟨g, o, cur, _, (0, 0), rfl, hI, h5⟩⟩) F)
theorem aB.VW (H : aB w0 w (UC v l • F)) (h : 1 ≤ l.length) : aB w0 w (UC (ny 2 1 l.length v) (l.drop 1) • F) := H.DF (pq (fun I hI => by
  have h1 := hI.cut h (Nat.le_refl _)
  rw [List.take_of_length_le (by rw [DX, PD]; simp), DX] at h1
  rwa [List.length_drop]) F)
theorem aB.UD (H : aB w0 w (kC p hl base most • F)) : ∃ v, Wp hl base most ∧ aB w0 w (dA p (.cells #[v, .int .i64 base, .int .i64 most] 197 (0, 0)) • UC v hl • F) := by
  obtain ⟨v, H⟩ := H.oh
  obtain ⟨h, H⟩ := H.flat.fact
  exact ⟨v, h, H.flat⟩
theorem aB.tX (h : Wp hl base most) (H : aB w0 w (dA p (.cells #[v, .int .i64 base, .int .i64 most] 197 (0, 0)) • UC v hl • F)) : aB w0 w (kC p hl base most • F) :=
  aB.iF v (aB.deep (aB.kJ h H.deep))
theorem UE {l : List mM} {k : Nat} (hk : k < l.length) : (l.flatMap iW).getD (k * 2 + 0) undef = .string (l.getD k default).1 := by
  have h := congrArg (fun x => x.getD 0 undef) (iQ sK hk default)
  simp only [List.getD_eq_getElem?_getD, List.getElem?_take, List.getElem?_drop] at h ⊢
  exact h
theorem Yn {l : List mM} {k : Nat} (hk : k < l.length) : (l.flatMap iW).getD (k * 2 + 1) undef = .int .i64 (l.getD k default).2 := by
  have h := congrArg (fun x => x.getD 1 undef) (iQ sK hk default)
  simp only [List.getD_eq_getElem?_getD, List.getElem?_take, List.getElem?_drop] at h ⊢
  exact h
theorem Gt (H : aB w0 w F) (hv : yM w0 F 2 v l.length (l.flatMap iW)) (hb : l.length ≤ 35184372087808) : fQ prog 176 #[v] w fun v' w' => v' = .int .i64 (pU l) ∧ aB w0 w' F := by
 refine gX func176 ntmps176 ?_
 dsimp only [bg, Nat.reduceAdd]
 refine ay (ah (aV rfl (aA (aj (ay (ay (ah (aV rfl (aA (aj (bf ?_)))))))))))
 refine fM [(0, _)] (fun (k : Nat) => [(3, .int .i64 (k : Int))]) (fun (k : Nat) W => (k ≤ l.length ∧ ∀ i, i < k → ¬ (16384 : Int) < (l.getD i default).1.size) ∧ aB w0 W F) (fun (k : Nat) => l.length - k) (0) (Sub.cons rfl (Sub.nil _)) (Sub.cons rfl (Sub.nil _)) ⟨⟨by omega, fun i hi => absurd hi (by omega)⟩, H⟩ ?_
 rintro k w1 ⟨⟨hk, hsh⟩, HL⟩
 dsimp only [List.cons_append, List.nil_append]
 refine ay (ay (ah (aO rfl (aO rfl (aU (fB (hv _ (HL)) underlying51 rfl) (aU (dL rfl rfl) (aA (aj (aH rfl (fun h1 => ?_) (fun h1 => ?_))))))))))
 ·(try simp only [aG] at h1)
  refine aS (aj (ay (bf (ay ?_))))
  have hkl : k < l.length := by omega
  refine ah (aO rfl (aO rfl ?_))
  obtain ⟨bv, ov, cv, ev⟩ := Rd.rG (hv _ (HL)) (by omega)
  cases ev
  refine aU (eF underlying51 sizeOf152 rfl rfl (by omega)) (aZ 0 underlying152 rfl sizeOf9 rfl (aU (QZ (iC (dM underlying9 rfl) rfl (Rd.atS (hv _ (HL)) (by omega) (by decide))) (UE hkl)) (aU (GH underlying9 rfl) (aU (dQ rfl rfl) (aA (aj (aH rfl (fun h2 => ?_) (fun h2 => ?_))))))))
  ·(try simp only [aG] at h2)
   have hkb := h2
   refine ay (ah (aV rfl (aA (aj (aJ (aW (aK (aK (aW (aK (aP (.inl rfl) results176 rfl ?_)))))))))))
   exact ⟨by rw [Iw hkl hkb], HL⟩
  ·(try simp only [aG] at h2)
   have hks : ¬ (16384 : Int) < (l.getD k default).1.size := by have h9 := h2; omega
   refine aS (aQ (aj (ah (aO rfl (aU (eP rfl rfl (by omega)) (aV rfl (aA ?_)))))))
   refine dK (k + 1) ?_ ?_ ?_ ?_
   ·exact (Sub.cons rfl (Sub.nil _))
   ·exact (Sub.cons rfl (Sub.nil _))
   ·(try dsimp only)
    first | done | exact ⟨⟨by omega, fun i hi => (show i < k ∨ i = k from by omega).elim (hsh i) (fun c => c ▸ hks)⟩, HL⟩
   ·(try dsimp only); omega
 ·(try simp only [aG] at h1)
  refine fG (aX (aX (bM (aj (ay (ay ?_))))))
  obtain rfl : k = l.length := by omega
  refine ah (aV rfl (aA (aj (bf ?_))))
  refine fM [(0, _)] (fun (k2 : Nat) => [(4, .int .i64 (k2 : Int))]) (fun (k2 : Nat) W => (k2 ≤ l.length ∧ ∀ i, i < k2 → ¬ (l.getD i default).2 < 0) ∧ aB w0 W F) (fun (k2 : Nat) => l.length - k2) (0) (Sub.cons rfl (Sub.nil _)) (Sub.cons rfl (Sub.nil _)) ⟨⟨by omega, fun i hi => absurd hi (by omega)⟩, HL⟩ ?_
  rintro k2 w2 ⟨⟨hk2, hpo⟩, HL2⟩
  dsimp only [List.cons_append, List.nil_append]
  refine ay (ay (ah (aO rfl (aO rfl (aU (fB (hv _ (HL2)) underlying51 rfl) (aU (dL rfl rfl) (aA (aj (aH rfl (fun h3 => ?_) (fun h3 => ?_))))))))))
  ·(try simp only [aG] at h3)
   refine aS (aj (ay (bf (ay ?_))))
   have hkl2 : k2 < l.length := by omega
   refine ah (aO rfl (aO rfl ?_))
   obtain ⟨bv, ov, cv, ev⟩ := Rd.rG (hv _ (HL2)) (by omega)
   cases ev
   refine aU (eF underlying51 sizeOf152 rfl rfl (by omega)) (aZ 1 underlying152 rfl sizeOf2 rfl (aU (QZ (iC (dM underlying2 rfl) rfl (Rd.atS (hv _ (HL2)) (by omega) (by decide))) (Yn hkl2)) (aU (dL rfl rfl) (aA (aj (aH rfl (fun h4 => ?_) (fun h4 => ?_)))))))
   ·(try simp only [aG] at h4)
    have hkn := h4
    refine ay (ah (aV rfl (aA (aj (aJ (aW (aK (aK (aW (aK (aP (.inl rfl) results176 rfl ?_)))))))))))
    exact ⟨by rw [Mc hsh hkl2 hkn], HL2⟩
   ·(try simp only [aG] at h4)
    have hkp : ¬ (l.getD k2 default).2 < 0 := by have h9 := h4; omega
    refine aS (aQ (aj (ah (aO rfl (aU (eP rfl rfl (by omega)) (aV rfl (aA ?_)))))))
    refine dK (k2 + 1) ?_ ?_ ?_ ?_
    ·exact (Sub.cons rfl (Sub.nil _))
    ·exact (Sub.cons rfl (Sub.nil _))
    ·(try dsimp only)
     first | done | exact ⟨⟨by omega, fun i hi => (show i < k2 ∨ i = k2 from by omega).elim (hpo i) (fun c => c ▸ hkp)⟩, HL2⟩
    ·(try dsimp only); omega
  ·(try simp only [aG] at h3)
   refine fG (aX (aX (bM (aj (ay ?_)))))
   obtain rfl : k2 = l.length := by omega
   refine ah (aV rfl (aA (aj (aJ (aP (.inl rfl) results176 rfl ?_)))))
   exact ⟨by rw [Pz hsh hpo], HL2⟩
theorem Gu (H : aB w0 w (dA p (.cells #[v, .int .i64 base, .int .i64 most] 197 (0, 0)) • UC v hl • F)) (hm : 0 ≤ most ∧ most ≤ 4096) (hb : 1 ≤ base ∧ base ≤ 2305843009213693952) (hn : hl.length ≤ 70368744177664) :
  fQ prog 177 #[.pointer (some ⟨p, 0, none⟩)] w fun _ w' => ∃ v', aB w0 w' (dA p (.cells #[v', .int .i64 (base + kR hl most), .int .i64 most] 197 (0, 0)) • UC v' (hl.drop (kR hl most)) • F) := by
 refine gX func177 ntmps177 ?_
 dsimp only [bg, Nat.reduceAdd]
 refine bf ?_
 refine fM [(0, _)] (fun (⟨k, u⟩ : Nat × Value) => []) (fun (⟨k, u⟩ : Nat × Value) W => k ≤ kR hl most ∧ aB w0 W (dA p (.cells #[u, .int .i64 (base + k), .int .i64 most] 197 (0, 0)) • UC u (hl.drop k) • F)) (fun (⟨k, u⟩ : Nat × Value) => kR hl most - k) ((0, v)) (Sub.cons rfl (Sub.nil _)) (Sub.nil _) ⟨by omega, by simpa using H⟩ ?_
 rintro ⟨k, u⟩ w1 ⟨hk, HL⟩
 dsimp only [List.cons_append, List.nil_append]
 refine ay (ay ?_)
 have Oj := HL.drew
 have yJ := aB.kp (Oj.f2.f2)
 refine uH [3, 8] yJ rfl (fU 0 rfl yJ rfl (iT 1 rfl yJ rfl (dP 2 rfl yJ 0 underlying197 rfl sizeOf51 rfl (gQ 3 rfl yJ (fun W hW => iI underlying51 rfl ((Kp.h hW)).get.2 rfl) (iJ 4 rfl yJ (fun _ => fB ((Oj.f2).wY) underlying51 rfl) (fU 5 rfl yJ rfl (iT 6 rfl yJ rfl (dP 7 rfl yJ 2 underlying197 rfl sizeOf3 rfl (gQ 8 rfl yJ (fun W hW => iI underlying3 rfl ((Kp.h hW)).get.2 rfl) (iJ 9 rfl yJ (fun _ => dQ rfl rfl) (mg (aj (aH rfl (fun h1 => ?_) (fun h1 => ?_))))))))))))))
 ·(try simp only [aG] at h1)
  have hlt : k < kR hl most := by have h9 := h1; rw [List.length_drop] at h9; unfold kR; omega
  have hdl : (hl.drop k).length = hl.length - k := List.length_drop
  have hd1 : 1 ≤ (hl.drop k).length := by rw [hdl]; unfold kR at hlt; omega
  refine aS (aj (bf (ay (ah (aO rfl (aO rfl (bH rfl (aZ 0 underlying197 rfl sizeOf51 rfl (cO underlying51 rfl (Oj).get.2 rfl (aU (vk ((Oj.f2).wY) underlying51 sizeOf152 rfl rfl rfl (by omega)) (bH rfl (aZ 0 underlying197 rfl sizeOf51 rfl (aI (aN 0 (l' := [_, _, _]) Oj sizeOf51 rfl rfl (by first | rfl | exact Rd.one (Rd.aan ((Oj.f2).wY) (by omega))) rfl rfl) ?_)))))))))))))
  rintro _ w2 H2
  refine aA (aj (ah (aO rfl (bH rfl (aZ 1 underlying197 rfl sizeOf2 rfl (cO underlying2 rfl (H2).get.2 rfl (aU (eP rfl rfl (by omega)) (bH rfl (aZ 1 underlying197 rfl sizeOf2 rfl (aI (aN 1 (l' := [_, _, _]) H2 sizeOf2 rfl rfl (by first | rfl | assumption) rfl rfl) ?_))))))))))
  rintro _ w3 H3
  have HN := (H3.f2).VW hd1 |>.swap
  rw [List.drop_drop] at HN
  refine aA (aQ ?_)
  refine dK ((k + 1, ny 2 1 (hl.drop k).length u)) ?_ ?_ ?_ ?_
  ·exact (Sub.nil _)
  ·exact (Sub.cons rfl (Sub.nil _))
  ·(try dsimp only)
   first | done | exact ⟨by omega, by rw [show (base + ((k + 1 : Nat) : Int)) = base + k + 1 from by omega]; exact HN⟩
  ·(try dsimp only); omega
 ·(try simp only [aG] at h1)
  have hge : k = kR hl most := by have h9 := h1; rw [List.length_drop] at h9; unfold kR at hk ⊢; omega
  refine fG (aX (aX (bM (dN (.inr rfl) results177 ?_))))
  exact ⟨_, by rw [← hge]; exact Oj⟩
theorem zD (H : aB w0 w (kC p hl base most • F)) (hv : yM w0 F 2 v l.length (l.flatMap iW)) (hb : hl.length + l.length ≤ 5864062014805) (hbase : base ≤ 1152921504606846976) :
  fQ prog 134 #[.pointer (some ⟨p, 0, none⟩), v] w fun v' w' => v' = .int .i64 (pU l) ∧ aB w0 w' (kC p (JB hl most l) (JC hl base most l) most • F) := by
 refine gX func134 ntmps134 ?_
 dsimp only [bg, Nat.reduceAdd]
 refine ay (ah (aV rfl (aA (aj (ay (ay (ah (aO rfl (dw rfl func176 (Gt H (fun W HW => hv _ (HW.right)) (by omega)) ?_)))))))))
 rintro _ w1 ⟨rfl, H1⟩
 refine aV rfl (aA (aj (ay (ah (aO rfl (aU (bZ rfl rfl) (aA (aj (aH rfl (fun h1 => ?_) (fun h1 => ?_))))))))))
 ·(try simp only [aG] at h1)
  have hm := h1
  refine ay (ah (aO rfl (aV rfl (aA (aj (aJ (aK (aP (.inl rfl) results134 rfl ?_))))))))
  exact ⟨rfl, by unfold JB JC; rw [if_neg hm, if_neg hm]; exact H1⟩
 ·(try simp only [aG] at h1)
  have hm : pU l = 0 := h1
  refine aS (aj (ay ?_))
  obtain ⟨Jh, oD, qX⟩ := (H1).UD
  have hkl := oD.1
  have hon := @A8 l
  have abJ := @A8 hl
  refine ah (aO rfl (aO rfl (bH rfl (aZ 0 underlying197 rfl sizeOf51 rfl (cO underlying51 rfl (qX).get.2 rfl (iy (fK (qX.fZ none) underlying51 (show (prog.info? 152).map (fun i => (i.zero, i.size, i.bytes)) = some (some (.agg #[.string .empty, .int .i64 0]), 2, 24) by kernel_rfl) rfl rfl rfl ((qX.f2).wY) (by assumption) (by omega) (by omega)) ?_))))))
  rintro l3 w3 H3
  refine aO rfl (iy (fK H3 underlying51 (show (prog.info? 152).map (fun i => (i.zero, i.size, i.bytes)) = some (some (.agg #[.string .empty, .int .i64 0]), 2, 24) by kernel_rfl) rfl rfl rfl (hv _ (H3.right.right.right)) (by assumption) (by omega) (by omega)) ?_)
  rintro l4 w4 H4
  refine bH rfl (aZ 0 underlying197 rfl sizeOf51 rfl (aI (aN 0 (l' := [_, _, _]) H4.f2 sizeOf51 rfl rfl (by first | rfl | exact Rd.one ((H4).aT)) rfl rfl) ?_))
  rintro _ w5 H5
  refine aA (aj (ay (ah (aO rfl (dw rfl func177 (Gu (hl := hl ++ l) (by have HQ := H5.f3.right.f2; rw [List.nil_append, Nat.zero_add, ← List.flatMap_append, ← List.length_append] at HQ; exact HQ.vY.swap) ⟨by have := oD.2.2.2.1; omega, oD.2.2.2.2.1⟩ ⟨oD.2.1, by omega⟩ (by have := oD.1; rw [List.length_append]; omega)) ?_)))))
  rintro _ w6 ⟨v2, H6⟩
  refine aA (aj (ay (ah (aV rfl (aA (aj (aJ (aP (.inl rfl) results134 rfl ?_))))))))
  exact ⟨by rw [hm], by unfold JB JC; rw [if_pos hm, if_pos hm]; exact aB.tX (WS oD hb hm hbase) H6⟩
theorem zF {n : Int} (H : aB w0 w F) (hn : 0 ≤ n ∧ n ≤ 4096) : fQ prog 133 #[.int .i64 n] w fun v w' => ∃ p, v = .tuple #[.pointer (some ⟨p, 0, none⟩), .int .i64 0] ∧ aB w0 w' (kC p [] 1 n • F) := by
 refine gX func133 ntmps133 ?_
 dsimp only [bg, Nat.reduceAdd]
 refine ay (ah (aV rfl (aV rfl (aA (aj (ay (ay (ah (aO rfl (aU (dL rfl rfl) (jo rfl (fun h1 => ?_) (fun h1 => ?_))))))))))))
 ·(try simp only [aG] at h1)
  try (exfalso; first | contradiction | omega)
  all_goals
   refine bI (bI (jO rfl rfl (aA (aj (yL (ay (ah (aV rfl (aV rfl (aA (aj (aJ (aK (fC (.inl rfl) results133 rfl rfl ?_))))))))))))))
   exact ⟨_, rfl, aB.tX (v := .slice none 0 0) (hl := []) ⟨by simp, by decide, by decide, by simp; omega, by omega, by simp⟩ ((H.fZ none).vY (l := [])).swap⟩
 ·(try simp only [aG] at h1)
  try (exfalso; first | contradiction | omega)
  all_goals
   refine bD (aO rfl (bD (aU (dQ rfl rfl) (jr rfl rfl (aA (aj (aH rfl (fun h2 => ?_) (fun h2 => ?_))))))))
   ·(try simp only [aG] at h2)
    try (exfalso; first | contradiction | omega)
    all_goals
     refine ay (ah (aV rfl (aV rfl (aA (aj (aJ (aK (fC (.inl rfl) results133 rfl rfl ?_))))))))
     exact ⟨_, rfl, aB.tX (v := .slice none 0 0) (hl := []) ⟨by simp, by decide, by decide, by simp; omega, by omega, by simp⟩ ((H.fZ none).vY (l := [])).swap⟩
   ·(try simp only [aG] at h2)
    try (exfalso; first | contradiction | omega)
    all_goals
     refine aS (aj (ay (ah (aO rfl ?_))))
     refine aU (dV (zl := [.slice none 0 0, .int .i64 0, .int .i64 0]) (pl := [(0, 1), (1, 1), (2, 1)]) [_, _, _] underlying197 zeroValue197 rfl (fun w => by kernel_rfl) rfl (.zero (zs := [.slice none 0 0]) rfl (.one (by first | rfl | assumption) (.one (by first | rfl | assumption) .nil))) rfl) ?_
     refine iy (iq (l := [_, _, _]) H rfl rfl) ?_
     rintro _ w1 ⟨b1, rfl, H1⟩
     refine aV rfl (aV rfl (aA (aj (aJ (fC (.inl rfl) results133 rfl rfl ?_)))))
     exact ⟨_, rfl, aB.tX (v := .slice none 0 0) (hl := []) ⟨by simp, by decide, by decide, by simp; omega, by omega, by simp⟩ ((H1.fZ none).vY (l := [])).swap⟩
theorem FN {n : Int} (H : aB w0 w F) (hn : 0 ≤ n ∧ n ≤ 4096) (hv : yM w0 F 2 v l.length (l.flatMap iW)) (hb : l.length ≤ 5864062014805) (hm : pU l ≠ 0) : fQ prog 64 #[.int .i64 n, v] w fun v' w' =>
  v' = .tuple #[.pointer none, .int .i64 (pU l)] ∧ aB w0 w' F := by
 refine gX func64 ntmps64 ?_
 dsimp only [bg, Nat.reduceAdd]
 refine ay (ah (aV rfl (aV rfl (aA (aj (ay (ah (aO rfl (dw rfl func133 (zF H (by omega)) ?_)))))))))
 rintro _ w1 ⟨p1, rfl, H1⟩
 refine aO rfl (nX rfl rfl (nX rfl rfl (aV rfl (aV rfl (aA (aj (ay (ay (ah (aO rfl (aU (bZ rfl rfl) (aA (aj (aH rfl (fun h => by exfalso; (try simp only [aG] at h); simp at h) (fun h1 => ?_)))))))))))))))
 (try simp only [aG] at h1)
 refine aS (aj (ay (ay (ah (aO rfl (aO rfl (dw rfl func134 (zD H1 hv (by simp; omega) (by decide)) ?_)))))))
 rintro _ w2 ⟨rfl, H2⟩
 refine aV rfl (aA (aj (ay (ah (aO rfl (aU (bZ rfl rfl) (aA (aj (aH rfl (fun h2 => ?_) (fun h => by exfalso; (try simp only [aG] at h); exact hm h))))))))))
 (try simp only [aG] at h2)
 refine ay (ah (aO rfl (aV rfl (aV rfl (aA (aj (aJ (aK (fC (.inl rfl) results64 rfl rfl ?_)))))))))
 exact ⟨rfl, H2.right⟩
theorem Dz {n : Int} (H : aB w0 w F) (hn : 0 ≤ n ∧ n ≤ 4096) (hv : yM w0 F 2 v l.length (l.flatMap iW)) (hb : l.length ≤ 5864062014805) (hm : pU l = 0) : fQ prog 64 #[.int .i64 n, v] w fun v' w' =>
  ∃ p, v' = .tuple #[.pointer (some ⟨p, 0, none⟩), .int .i64 0] ∧ aB w0 w' (kC p (JB [] n l) (JC [] 1 n l) n • F) := by
 refine gX func64 ntmps64 ?_
 dsimp only [bg, Nat.reduceAdd]
 refine ay (ah (aV rfl (aV rfl (aA (aj (ay (ah (aO rfl (dw rfl func133 (zF H (by omega)) ?_)))))))))
 rintro _ w1 ⟨p1, rfl, H1⟩
 refine aO rfl (nX rfl rfl (nX rfl rfl (aV rfl (aV rfl (aA (aj (ay (ay (ah (aO rfl (aU (bZ rfl rfl) (aA (aj (aH rfl (fun h => by exfalso; (try simp only [aG] at h); simp at h) (fun h1 => ?_)))))))))))))))
 (try simp only [aG] at h1)
 refine aS (aj (ay (ay (ah (aO rfl (aO rfl (dw rfl func134 (zD H1 hv (by simp; omega) (by decide)) ?_)))))))
 rintro _ w2 ⟨rfl, H2⟩
 refine aV rfl (aA (aj (ay (ah (aO rfl (aU (bZ rfl rfl) (aA (aj (aH rfl (fun h => by exfalso; (try simp only [aG] at h); exact h hm) (fun h2 => ?_))))))))))
 (try simp only [aG] at h2)
 refine aS (aj (ay (ah (aO rfl (aV rfl (aV rfl (aA (aj (aJ (fC (.inl rfl) results64 rfl rfl ?_))))))))))
 exact ⟨_, rfl, H2⟩
theorem DC (H : aB w0 w (kC p hl base most • F)) : fQ prog 107 #[.pointer (some ⟨p, 0, none⟩)] w fun v w' => ∃ q, v = .pointer (some ⟨q, 0, none⟩) ∧ aB w0 w' (kC q hl base most • kC p hl base most • F) := by
 refine gX func107 ntmps107 ?_
 dsimp only [bg, Nat.reduceAdd]
 refine ay (ah (aV rfl (aA (aj (ay ?_)))))
 obtain ⟨Jh, oD, qX⟩ := (H).UD
 have hkl := oD.1
 have abJ := @A8 hl
 have Nv := qX.drew
 have kS := aB.kp (Nv.f2.f2)
 refine uH [3, 8, 12] kS rfl (fU 0 rfl kS rfl (iT 1 rfl kS rfl (dP 2 rfl kS 0 underlying197 rfl sizeOf51 rfl (gQ 3 rfl kS (fun W hW => iI underlying51 rfl ((Kp.h hW)).get.2 rfl) (fU 5 rfl kS rfl (iT 6 rfl kS rfl (dP 7 rfl kS 1 underlying197 rfl sizeOf2 rfl (gQ 8 rfl kS (fun W hW => iI underlying2 rfl ((Kp.h hW)).get.2 rfl) (fU 9 rfl kS rfl (iT 10 rfl kS rfl (dP 11 rfl kS 2 underlying197 rfl sizeOf3 rfl (gQ 12 rfl kS (fun W hW => iI underlying3 rfl ((Kp.h hW)).get.2 rfl) (jH 4 rfl (fK (Nv.fZ none) underlying51 (show (prog.info? 152).map (fun i => (i.zero, i.size, i.bytes)) = some (some (.agg #[.string .empty, .int .i64 0]), 2, 24) by kernel_rfl) rfl rfl rfl ((Nv.f2).wY) (by assumption) (by omega) (by omega)) ?_)))))))))))))
 rintro l2 w2 H2
 have Ky := aB.kp (H2.f3.f3.f3)
 refine bW Ky (fun W hW => (Kp.h hW).right.f2.f2) ?_
 refine iJ 13 rfl Ky (fun _ => dV (zl := [.slice none 0 0, .int .i64 0, .int .i64 0]) (pl := [(0, 1), (1, 1), (2, 1)]) [_, _, _] underlying197 zeroValue197 rfl (fun w => by kernel_rfl) rfl (.one (Rd.one ((H2).aT)) (.one (by first | rfl | assumption) (.one (by first | rfl | assumption) .nil))) rfl) ?_
 refine jH 14 rfl (iq (l := [_, _, _]) H2 rfl rfl) ?_
 rintro _ w3 ⟨b3, rfl, H3⟩
 have su := aB.kp (H3.f4.f4.f4.f4)
 refine fA su (by kernel_rfl) ?_
 refine iJ 15 rfl su (fun _ => fO rfl) (mg (aj (aJ (aP (.inl rfl) results107 rfl ?_))))
 have Zb := H3.f4.f4
 have Zc := aB.tX oD Zb
 have HQ := Zc.f2.f3
 rw [List.nil_append, Nat.zero_add] at HQ
 exact ⟨_, rfl, aB.tX oD HQ.vY.swap⟩
end
end Go.Proofs.YtgmpclifphbjkaaGreatDoor
end
