import Derived.Test.YtgofgnlkpeghcaaGreatDoorZ4
import Derived.Test.YtgofgnlkpeghcaaGreatDoorZ9
import Derived.Test.YtgofgnlkpeghcaaGreatDoorZ23
import Derived.Test.YtgofgnlkpeghcaaGreatDoorZ22
import Derived.Test.YtgofgnlkpeghcaaGreatDoorZ21
import Derived.Test.YtgofgnlkpeghcaaGreatDoorZ20
import Derived.Test.YtgofgnlkpeghcaaGreatDoorCards
import Derived.Test.YtgofgnlkpeghcaaGreatDoorZ5
import Derived.Test.YtgofgnlkpeghcaaGreatDoorZ6
import Derived.SevenTiedAt
set_option linter.unusedSimpArgs false
set_option linter.unusedVariables false
/- Find tells what the document's Find tells, and the lines of an editor are the lines of the document's: IsearchFinds in its first form, as the card states it, for whatever the program's variables hold as its text lays them. No condition beside the form's own.
Texts of mine, joined, their names in short: ETyM IsBegun RIsMade LawIsFinds HasIsFinds. -/
section
namespace Go.Proofs.YtgofgnlkpeghcaaGreatDoor
open Go.RowKit
structure Out (s : dw) (L : List Int) (pt : Int) (G : List (List kC)) (run : Bool) : Prop where
  inn : s.inn = false
  L : s.c.L = L
  pt : s.c.pt = pt
  G : s.c.un s.c.place = G
  run : s.c.run = run
  over : s.c.over = false
structure Inn (s : dw) (L : List Int) (pt : Int) (G : List (List kC)) (run : Bool) : Prop where
  inn : s.inn = true
  L : s.c.L = L
  pt : s.c.pt = pt
  G : s.c.un s.c.place = G
  run : s.c.run = run
  over : s.c.over = false
  put : s.put = []
  cls : s.cls = 0
  whole : s.whole = true
section
variable {s : dw} {L : List Int} {pt : Int} {G : List (List kC)} {run : Bool} {r : Int}
theorem Out.begin (h : Out s L pt G run) : Inn s.lg L pt G run ∧ s.yx = 0 := by
  unfold dw.lg dw.yx
  rw [if_neg (by rw [h.inn]; decide), if_neg (by rw [h.inn]; decide)]
  exact ⟨⟨rfl, h.L, h.pt, h.G, h.run, h.over, rfl, rfl, rfl⟩, rfl⟩
def ab8 (G : List (List kC)) (run : Bool) (x : kC) : List (List kC) := if run then (match G.getLast? with | some g => G.dropLast ++ [g ++ [x]] | none => [[x]]) else G ++ [[x]]
theorem Inn.adL (h : Inn s L pt G run) (h1 : 0 ≤ pt ∧ pt ≤ L.length) (h2 : L.length < 1024) (h3 : iD G [] < 16384) :
    s.aaR [r] = 0 ∧ s.Gv [r] = { (s.nC (L.take pt.toNat ++ [r] ++ L.drop pt.toNat) (pt + 1) (wR L s.c.mark pt pt [r])) with put := [(pt, [], [r])], cls := 3 } := by
  have hto : s.JY [r] = pt := by unfold dw.JY; rw [h.over]; exact h.pt
  have hE : qx L pt pt [r] = 0 := by unfold qx; rw [if_neg (by omega), if_neg (by simp; omega)]
  have hE' : s.uf s.c.pt (s.JY [r]) [r] = 0 := by unfold dw.uf; rw [if_pos h.inn, hto, h.pt, h.L]; exact hE
  have hP : wQ L pt pt pt [r] = pt + 1 := by unfold wQ dV; rw [if_pos hE, if_neg (by omega), if_pos (by omega)]; rfl
  have hD : rC L pt pt [r] = [] := by unfold rC; rw [if_pos hE]; simp
  have hI : rD L pt pt [r] = [r] := by unfold rD; rw [if_pos hE]
  have hA : vY L pt pt [r] = pt := by unfold vY; rw [if_pos hE]
  have hL : wP L pt pt [r] = L.take pt.toNat ++ [r] ++ L.drop pt.toNat := by unfold wP; rw [if_pos hE]
  have hS : s.wU s.c.pt (s.JY [r]) [r] = { (s.nC (L.take pt.toNat ++ [r] ++ L.drop pt.toNat) (pt + 1) (wR L s.c.mark pt pt [r])) with put := [(pt, [], [r])] } := by
    unfold dw.wU
    rw [if_pos h.inn, hto, h.pt, h.L, hP, hD, hI, hA, hL]
    unfold dw.BM
    rw [if_neg (by simp), if_neg (by
      show ¬ 16384 ≤ iD (s.c.un s.c.place) s.put
      rw [h.G, h.put]; omega)]
    show _ = _
    unfold dw.nC
    simp only [h.put, List.nil_append]
  refine ⟨hE', ?_⟩
  unfold dw.Gv
  rw [if_pos h.inn]
  dsimp only
  rw [if_pos ⟨hE', h.cls⟩, hS]
theorem ab9 (u : dw) (h : u.inn = true) : (u.uy 0).c.L = u.c.L := by by_cases ha : u.argues = true <;> by_cases hp : u.put = [] <;> by_cases hc : u.cls = 2 <;> simp [dw.uy, dw.oJ, dw.lG, dw.fM, dw.zU, dw.qR, dw.lF, dw.here, kL, ha, hp, hc, h]
theorem Yy (u : dw) (h : u.inn = true) : (u.uy 0).c.pt = u.c.pt := by by_cases ha : u.argues = true <;> by_cases hp : u.put = [] <;> by_cases hc : u.cls = 2 <;> simp [dw.uy, dw.oJ, dw.lG, dw.fM, dw.zU, dw.qR, dw.lF, dw.here, kL, ha, hp, hc, h]
theorem Rf (u : dw) (h : u.inn = true) : (u.uy 0).c.over = u.c.over := by by_cases ha : u.argues = true <;> by_cases hp : u.put = [] <;> by_cases hc : u.cls = 2 <;> simp [dw.uy, dw.oJ, dw.lG, dw.fM, dw.zU, dw.qR, dw.lF, dw.here, kL, ha, hp, hc, h]
theorem VL (u : dw) (h : u.inn = true) : (u.uy 0).inn = false := by by_cases ha : u.argues = true <;> by_cases hp : u.put = [] <;> by_cases hc : u.cls = 2 <;> simp [dw.uy, dw.oJ, dw.lG, dw.fM, dw.zU, dw.qR, dw.lF, dw.here, kL, ha, hp, hc, h]
theorem VN (u : dw) (h : u.inn = true) : (u.uy 0).c.run = (u.typed && (!u.put.isEmpty || u.c.run)) := by by_cases ha : u.argues = true <;> by_cases hp : u.put = [] <;> by_cases hc : u.cls = 2 <;> simp [dw.uy, dw.oJ, dw.lG, dw.fM, dw.zU, dw.qR, dw.lF, dw.here, kL, ha, hp, hc, h]
theorem Yz (u : dw) (h : u.inn = true) : (u.uy 0).c.un (u.uy 0).c.place = u.lF (u.typed && u.c.run) := by by_cases ha : u.argues = true <;> by_cases hp : u.put = [] <;> by_cases hc : u.cls = 2 <;> simp [dw.uy, dw.oJ, dw.lG, dw.fM, dw.zU, dw.qR, dw.lF, dw.here, kL, ha, hp, hc, h]
theorem Inn.typed (h : Inn s L pt G run) (h1 : 0 ≤ pt ∧ pt ≤ L.length) (h2 : L.length < 1024) (h3 : iD G [] < 16384) :
    Out ((s.Gv [r]).uy 0) (L.take pt.toNat ++ [r] ++ L.drop pt.toNat) (pt + 1) (ab8 G run (pt, [], [r])) true ∧ (s.Gv [r]).EK 0 = 0 := by
  obtain ⟨_, e⟩ := h.adL (r := r) h1 h2 h3
  have hu : (s.Gv [r]).inn = true := by rw [e]; exact h.inn
  have hT : (s.Gv [r]).typed = true := by rw [e]; show (((3 : Int) == 3) && s.whole) = true; rw [h.whole]; rfl
  have hp : (s.Gv [r]).put = [(pt, [], [r])] := by rw [e]
  have hr : (s.Gv [r]).c.run = run := by rw [e]; exact h.run
  have hh : (s.Gv [r]).here = G := by rw [e]; exact h.G
  refine ⟨⟨VL _ hu, (ab9 _ hu).trans (by rw [e]; rfl), (Yy _ hu).trans (by rw [e]; rfl), ?_, ?_, (Rf _ hu).trans (by rw [e]; exact h.over)⟩, by unfold dw.EK; rw [if_pos hu]⟩
  · rw [Yz _ hu, hT, hr, Bool.true_and]
    unfold dw.lF ab8
    rw [if_neg (by rw [hp]; simp), hp, hh] <;> rfl
  · rw [VN _ hu, hT, hp]; rfl
def aca (s : dw) (r : Int) : dw := (s.lg.Gv [r]).uy (s.lg.aaR [r])
theorem Out.aca (h : Out s L pt G run) (h1 : 0 ≤ pt ∧ pt ≤ L.length) (h2 : L.length < 1024) (h3 : iD G [] < 16384) :
    Out (aca s r) (L.take pt.toNat ++ [r] ++ L.drop pt.toNat) (pt + 1) (ab8 G run (pt, [], [r])) true := by
  unfold Go.Proofs.YtgofgnlkpeghcaaGreatDoor.aca
  rw [(h.begin.1.adL (r := r) h1 h2 h3).1]
  exact (h.begin.1.typed h1 h2 h3).1
theorem ZF (hi : s.inn = true) (hL : s.c.L = L) (hpt : s.c.pt = pt) (hG : s.here = G) (ho : s.c.over = false) (hp : s.put = []) (hc : s.cls = 0) : Out (s.uy 0) L pt G false := by
  have hT : s.typed = false := by unfold dw.typed; rw [hc]; rfl
  refine ⟨VL _ hi, (ab9 _ hi).trans hL, (Yy _ hi).trans hpt, ?_, ?_, (Rf _ hi).trans ho⟩
  · rw [Yz _ hi]; unfold dw.lF; rw [if_pos hp]; exact hG
  · rw [VN _ hi, hT]; rfl
theorem Inn.end_ (h : Inn s L pt G run) : Out (s.uy 0) L pt G false := ZF h.inn h.L h.pt h.G h.over h.put h.cls
theorem Out.move (h : Out s L pt G run) (x : Int) (hx : 0 ≤ x ∧ x ≤ L.length) : Out ((s.lg.yA x).uy 0) L x G false := by
  have hb := h.begin.1
  refine Inn.end_ (s := s.lg.yA x) (run := run) ?_
  unfold dw.yA
  rw [if_pos hb.inn]
  refine ⟨hb.inn, hb.L, ?_, hb.G, hb.run, hb.over, hb.put, hb.cls, hb.whole⟩
  show YW s.lg.c.L.length s.lg.c.pt x = x
  unfold YW
  rw [if_pos (by rw [hb.L]; omega)]
end
end Go.Proofs.YtgofgnlkpeghcaaGreatDoor
end
section
namespace Go.Proofs.YtgofgnlkpeghcaaGreatDoor
open Go.RowKit
open _root_.Go.Proofs.Tryz
def ZG : List oH := [(⟨#[109, 97, 107, 101]⟩, 0), (⟨#[108, 115]⟩, 0)]
def Gl : dw := Lm ZG [] 2 [] 0
theorem ZH : Gl.saved = [] := by
  have h0 : zF ZG Gl.c.tx 2 0 = false := by unfold zF dR; rw [show Gl.c.tx ((0 : Nat) : Int) = none from rfl]; simp [vC]
  have h1 : zF ZG Gl.c.tx 2 1 = false := by unfold zF dR; rw [show Gl.c.tx ((1 : Nat) : Int) = none from rfl]; simp [vC]
  show pW ZG Gl.c.tx 2 = []
  unfold pW o9
  rw [if_neg (by decide), List.append_nil, show List.range ZG.length = [0, 1] from rfl, List.filter_cons_of_neg (by rw [h0]; decide), List.filter_cons_of_neg (by rw [h1]; decide)]
  rfl
theorem ZI : Gl.lines = [[109, 97, 107, 101], [108, 115], []] := by unfold dw.lines; rw [ZH]; kernel_rfl
def XB : SS := .start Gl.lines [] true Gl.c.place Gl.c.pt
theorem XC : XB = .start [[109, 97, 107, 101], [108, 115], []] [] true 2 0 := by unfold XB; rw [ZI]; rfl
theorem acb : XB.yu [109] = 0 := by rw [XC]; rfl
theorem Kz : (XB.Hf [109]).now.place = 0 := by rw [XC]; rfl
theorem acd : (XB.Hf [109]).now.at_ = 0 := by rw [XC]; rfl
theorem VO : Gl.Nk 0 0 = 0 := by rfl
theorem VP : (Gl.JB 0 0).c.L = [109, 97, 107, 101] := by rfl
theorem ace : (utf8 (Gl.JB 0 0).c.L).toList = (ByteArray.mk #[109, 97, 107, 101]).toList := by rw [VP]; exact congrArg ByteArray.toList (by rfl)
section
variable {w0 w : World} {F : HP}
theorem KA (H : V w0 w F) (hT : Cj w0) : iM prog 6 #[] w fun v w' => v = .bool true ∧ V w0 w' F := by
  have hR9 : vP Gl.lg.c.L := fun n hn => by cases hn
  refine adV func6 ntmps6 ?_
  refine kQ O (jw ?_)
  refine aW (fA (zl := [.string .empty, .int .i64 0]) (pl := [(0, 1), (1, 1)]) [_, _] gX mg O (fun w => by kernel_rfl) O (.on (.zero (zs := [.int .i64 0]) O .nil)) O) ?_
  refine aW (fA (zl := [.string .empty, .int .i64 0]) (pl := [(0, 1), (1, 1)]) [_, _] gX mg O (fun w => by kernel_rfl) O (.on (.zero (zs := [.int .i64 0]) O .nil)) O) ?_
  refine iY (YJ H bM jl mg O O O O O (by decide) (by decide)) ?_
  rintro l1 w1 H1
  refine aW (fA (zl := [.slice none 0 0, .slice none 0 0, .int .i64 0, .slice none 0 0, .int .i64 0]) (pl := [(0, 1), (1, 1), (2, 1), (3, 1), (4, 1)]) [_, _, _, _, _] fO zeroValue26 O (fun w => by kernel_rfl) O (.one (Rd.one ((H1).aN)) (.zero (zs := [.slice none 0 0]) O (.on (.zero (zs := [.slice none 0 0]) O (.zero (zs := [.int .i64 0]) O .nil))))) O) ?_
  refine fE O func7 (Q9 (l := ZG) (ln := []) (ty := []) H1 (fun W HW => HW.aN) (fun W _ => jP.nil W _ none 0 (by decide)) (fun W _ => jP.nil W _ none 0 (by decide)) (by decide) (by rfl) (by decide) hT (fun n hn => by cases hn)) ?_
  rintro _ w2 ⟨e2, rfl, H2⟩
  have Hd3 := H2.f2.right
  refine sS O (bY O (aW (iJ lZ O O) (jd (Ip O (fun h1 => ?_)))))
  (try simp only [aF] at h1)
  refine iy (bY O (fE O func14 (Xz (s := Gl) Hd3 (fun W _ => jP.nil W _ none 0 (by decide)) (l := []) (by decide) hT) ?_))
  rintro _ w4 ⟨p4, rfl, H4⟩
  refine bT O (sD O O (sD O O (iC O (iP O (bY O (aW (Ns underlying42 O O) (xsE O (fun h2 => ?_))))))))
  (try simp only [aF] at h2)
  refine bW (bT O (bW (aW (kP O O) (nZ O O (xsE O (fun h3 => ?_))))))
  (try simp only [aF] at h3)
  refine bW (bT O (bW (iY (iU (k := .i32) (l := [109]) H4 ay iE zeroValue21 O O O (by decide)) ?_)))
  rintro l5 w5 H5
  refine bW (fE O func15 (XA (S := XB) H5.f2 (fun W HW => (HW).aN) (l := [109]) (by decide) (by decide)) ?_)
  rintro _ w6 ⟨rfl, H6⟩
  refine bW (aW (kP O O) (nZ O O (mX O (fun h4 => ?_) (fun h => by exfalso; (try simp only [aF] at h); exact h acb))))
  (try simp only [aF] at h4)
  refine bW (bT O (bW (fE O func16 (TI H6) ?_)))
  rintro _ w7 ⟨u7, rfl, H7⟩
  refine bW (aW (CX 3 gZ O O (dn aB O) O O) (bW (aW (kP O O) (nZ O O (mX O (fun h5 => ?_) (fun h => by exfalso; (try simp only [aF] at h); exact h Kz))))))
  (try simp only [aF] at h5)
  refine bW (bT O (bW (bT O (bW (fE O func17 (Qg (s := Gl) (S := XB.Hf [109]) H7.f2.f4 hT hR9) ?_)))))
  rintro _ w8 ⟨rfl, H8⟩
  refine bW (aW (kP O O) (nZ O O (mX O (fun h6 => ?_) (fun h => by exfalso; (try simp only [aF] at h); rw [Kz, acd] at h; exact h VO))))
  (try simp only [aF] at h6)
  refine bW (bT O (bW (fE O func18 (KP H8) ?_)))
  rintro _ w9 ⟨u9, rfl, H9⟩
  refine bW (aW (CX 0 lC O O (dn ay O) O O) (bW (aW (TW ay dU dM O ((H9).aN)) (bW ?_))))
  refine aW (YD (YE O O) (by rw [Kz, acd]; exact beq_iff_eq.2 ace)) ?_
  refine nZ O O (ig O (fD results6 O ?_))
  exact ⟨O, H9.right.right.right.right.right⟩
end
theorem XD (s : dw) (b : Bool) : (s.fM b).put = [] := by
  unfold dw.fM
  split
  · assumption
  · rfl
theorem ZJ {t : dw} (h : t.inn = true) (err : Int) : (t.uy err).put = [] := by
  unfold dw.uy
  rw [if_pos h]
  split
  · unfold dw.oJ
    dsimp only
    exact XD _ _
  · rfl
theorem ZK (s : dw) : s.lg.inn = true := by unfold dw.lg; split <;> first | assumption | rfl
theorem acf {s : dw} {x : Int} (h : s.inn = true) : (s.yA x).inn = true := by unfold dw.yA; rw [if_pos h]; exact h
theorem acg (l : List oH) (ln : List Int) (place : Int) (ty : List Int) (pt : Int) : (Lm l ln place ty pt).put = [] := ZJ (acf (ZK _)) _
section
variable {w0 w : World} {F : HP} {l : List oH} {hv lv tv : Value} {ln ty : List Int} {place pt : Int}
theorem XE (H : V w0 w F) (q1 : EL w0 F 2 hv l.length (l.flatMap lD)) (q2 : jm w0 F .i32 lv ln) (q3 : jm w0 F .i32 tv ty) (hb : l.length ≤ 5864062014805) (hm : wZ l = 0) (hln : ln.length ≤ 1024) (hty : ty.length ≤ 35184372087808) (hT : Cj w0) (hRL : vP ln) :
    iM prog 8 #[.agg #[hv, lv, .int .i64 place, tv, .int .i64 pt]] w fun v w' => ∃ y, v = .pointer (some ⟨y, 0, none⟩) ∧ V w0 w' (ku y (Lm l ln place ty pt) • F) := by
  have hR2 : vP (Io l ln).lg.c.L := by rw [Yx hln]; exact hRL
  refine iQ func8 ntmps8 ?_
  refine jw (iY (jo (l := [_, _, _, _, _]) H O O) ?_)
  rintro _ w1 ⟨b1, rfl, H1⟩
  refine iP O (jw (bn 0 fO O gW O (fB bM O (H1).get.2 O (fE O func27 (ED H1 (by decide) (fun W HW => q1 _ (HW.right)) hb hm) ?_))))
  rintro _ w2 ⟨p2, rfl, H2⟩
  refine bT O (sD O O (sD O O (iC O (sS O (bY O (aW (gy O O) (jd (Ip O (fun h1 => ?_)))))))))
  (try simp only [aF] at h1)
  refine iy (bY O (fE O func28 (Lh H2) ?_))
  rintro _ w3 ⟨y3, rfl, H3⟩
  refine bT O (sD O O (sD O O (iC O (sS O (bY O (aW (gy O O) (TJ O (fun h2 => ?_))))))))
  (try simp only [aF] at h2)
  refine bW (bT O (bW (bT O (bW (bn 1 fO O bF O (bW (fB ay O (H3.f3).get.2 O (bW (fE O func29 (GR H3.f2.f2 (fun W HW => q2 _ (HW.right))) ?_)))))))))
  rintro _ w4 ⟨rfl, H4⟩
  refine bW (aW (gy O O) (kX O O (jv O (fun h => by exfalso; (try simp only [aF] at h); have h9 := Et l ln; rw [if_neg (by omega)] at h9; exact h h9) (fun h3 => ?_))))
  (try simp only [aF] at h3)
  refine iy (bY O (fE O func30 (Dq (s := Io l ln) H4) ?_))
  rintro _ w5 ⟨rfl, H5⟩
  refine ql O (bT O (bn 2 fO O aj O (fB aB O (H5.f3).get.2 O (fE O func32 (Tn H5 (by assumption)) ?_))))
  rintro _ w6 ⟨rfl, H6⟩
  refine fE O func31 (FK H6) ?_
  rintro _ w7 ⟨rfl, H7⟩
  refine ql O (fE O func30 (Dq H7) ?_)
  rintro _ w8 ⟨rfl, H8⟩
  refine ql O (bT O (bn 3 fO O bF O (fB ay O (H8.f3).get.2 O (fE O func33 (O7 H8 (fun W HW => q3 _ (HW.right.right)) (by (try simp only [List.length_nil]); omega)) ?_))))
  rintro _ w9 ⟨rfl, H9⟩
  refine fE O func31 (FK H9) ?_
  rintro _ w10 ⟨rfl, sF⟩
  refine ql O (fE O func30 (Dq sF) ?_)
  rintro _ Iq ⟨rfl, sG⟩
  refine ql O (bT O (bn 4 fO O aj O (fB aB O (sG.f3).get.2 O (fE O func34 (S9 sG) ?_))))
  rintro _ w12 ⟨rfl, tN⟩
  refine fE O func31 (FK tN) ?_
  rintro _ Qz ⟨rfl, Ak⟩
  refine ql O (ig O (fD results8 O ?_))
  exact ⟨_, O, Ak.f2.right.f2.right⟩
theorem XF (H : V w0 w F) (q1 : EL w0 F 2 hv l.length (l.flatMap lD)) (hb : l.length ≤ 5864062014805) (hm : wZ l ≠ 0) :
    iM prog 8 #[.agg #[hv, lv, .int .i64 place, tv, .int .i64 pt]] w fun v w' => v = .pointer none ∧ V w0 w' F := by
  refine iQ func8 ntmps8 ?_
  refine jw (iY (jo (l := [_, _, _, _, _]) H O O) ?_)
  rintro _ w1 ⟨b1, rfl, H1⟩
  refine iP O (jw (bn 0 fO O gW O (fB bM O (H1).get.2 O (fE O func27 (OW H1 (by decide) (fun W HW => q1 _ (HW.right)) hb hm) ?_))))
  rintro _ w2 ⟨rfl, H2⟩
  refine bT O (sD O O (sD O O (iC O (sS O (bY O (aW (gy O O) (jv O (fun h1 => ?_) (fun h => by exfalso; (try simp only [aF] at h); exact hm h))))))))
  (try simp only [aF] at h1)
  refine mP O (aC (fD results8 O ?_))
  exact ⟨O, H2.right⟩
theorem XG (H : V w0 w F) (q1 : EL w0 F 2 hv l.length (l.flatMap lD)) (q2 : jm w0 F .i32 lv ln) (hb : l.length ≤ 5864062014805) (hm : wZ l = 0) (hln : 1024 < ln.length) :
    iM prog 8 #[.agg #[hv, lv, .int .i64 place, tv, .int .i64 pt]] w fun v w' => v = .pointer none ∧ V w0 w' F := by
  refine iQ func8 ntmps8 ?_
  refine jw (iY (jo (l := [_, _, _, _, _]) H O O) ?_)
  rintro _ w1 ⟨b1, rfl, H1⟩
  refine iP O (jw (bn 0 fO O gW O (fB bM O (H1).get.2 O (fE O func27 (ED H1 (by decide) (fun W HW => q1 _ (HW.right)) hb hm) ?_))))
  rintro _ w2 ⟨p2, rfl, H2⟩
  refine bT O (sD O O (sD O O (iC O (sS O (bY O (aW (gy O O) (jd (Ip O (fun h1 => ?_)))))))))
  (try simp only [aF] at h1)
  refine iy (bY O (fE O func28 (Lh H2) ?_))
  rintro _ w3 ⟨y3, rfl, H3⟩
  refine bT O (sD O O (sD O O (iC O (sS O (bY O (aW (gy O O) (TJ O (fun h2 => ?_))))))))
  (try simp only [aF] at h2)
  refine bW (bT O (bW (bT O (bW (bn 1 fO O bF O (bW (fB ay O (H3.f3).get.2 O (bW (fE O func29 (GR H3.f2.f2 (fun W HW => q2 _ (HW.right))) ?_)))))))))
  rintro _ w4 ⟨rfl, H4⟩
  refine bW (aW (gy O O) (kX O O (jv O (fun h3 => ?_) (fun h => by exfalso; (try simp only [aF] at h); have h9 := Et l ln; rw [if_pos (by omega)] at h9; exact absurd (h9.symm.trans h) (by decide)))))
  (try simp only [aF] at h3)
  refine mP O (aC (fD results8 O ?_))
  exact ⟨O, H4.right.right.right⟩
end
section
variable {w0 w : World} {F : HP} {v1 v2 : Value} {us vs : List Value} {ls : List (List Int)}
theorem Qh (H : V w0 w F) (hv1 : EL w0 F 1 v1 ls.length us) (he1 : ∀ k, k < ls.length → jm w0 F .i32 (us.getD k undef) (ls.getD k [])) (hv2 : EL w0 F 1 v2 ls.length vs) (he2 : ∀ k, k < ls.length → jm w0 F .i32 (vs.getD k undef) (ls.getD k [])) (hb : ls.length ≤ 9223372036854775807) :
  iM prog 9 #[v1, v2] w fun v w' => v = .bool true ∧ V w0 w' F := by
 refine qI func9 ntmps9 ?_
 refine kQ O (aO (bY O (aW (fV (hv1 _ (H)) bH O) (bT O (aW (fV (hv2 _ (H)) bH O) (aW (gy O O) (jd (Ip O (fun h1 => ?_)))))))))
 (try simp only [aF] at h1)
 refine iy (aO (bY O (aW (fV (hv1 _ (H)) bH O) (bT O (jd (bg ?_))))))
 refine gq [(0, _), (1, _), (12, _)] (fun (k : Nat) => [(13, .int .i64 (k : Int))]) (fun (k : Nat) W => k ≤ ls.length ∧ V w0 W F) (fun (k : Nat) => ls.length - k) (0) Du oO ⟨by omega, H⟩ ?_
 rintro k w1 ⟨hk, HL⟩
 dsimp only [List.cons_append, List.nil_append]
 refine jw (aW (fG O O) (rV (dA O (fun h2 => ?_) (fun h2 => ?_))))
 ·(try simp only [aF] at h2)
  refine iy (aO (bg (bY O (sS O ?_))))
  have hkl : k < ls.length := by omega
  have Md := HL.drew
  have vK := V.kp (Md)
  refine uU [3, 7] vK O (gQ 0 O vK O (gQ 1 O vK O ?_))
  obtain ⟨bv1, ov1, cv1, ev1⟩ := Rd.nR (hv1 _ (Md)) (by omega)
  cases ev1
  refine iL 2 O vK (fun _ => dD bH bF O O (by omega)) ?_
  refine iO 3 O vK (fun W hW => eG (dn ay O) O (by first | exact Rd.sO (hv1 _ ((Kp.h hW))) (by omega) | exact Rd.EF (hv1 _ ((Kp.h hW))) (by omega) | exact Rd.Ey (hv1 _ ((Kp.h hW))) (by omega))) ?_
  refine VZ (fun aiQ ae5 => ?_)
  refine gQ 4 O vK O (gQ 5 O vK O ?_)
  obtain ⟨bv2, ov2, cv2, ev2⟩ := Rd.nR (hv2 _ (Md)) (by omega)
  cases ev2
  refine iL 6 O vK (fun _ => dD bH bF O O (by omega)) ?_
  refine iO 7 O vK (fun W hW => eG (dn ay O) O (by first | exact Rd.sO (hv2 _ ((Kp.h hW))) (by omega) | exact Rd.EF (hv2 _ ((Kp.h hW))) (by omega) | exact Rd.Ey (hv2 _ ((Kp.h hW))) (by omega))) ?_
  refine VZ (fun aiR ae6 => ?_)
  refine lU 8 O (wY O func35 (Py _ _ _ _ ((by rw [ae5]; exact he1 _ (by omega) _ (Md))) ((by rw [ae6]; exact he2 _ (by omega) _ (Md))))) ?_
  rintro _ w4 ⟨rfl, hD4⟩
  have HD4 := Md.Gp hD4
  have uZ := V.kp (HD4)
  refine fH uZ (by kernel_rfl) ?_
  refine iL 9 O uZ (fun _ => mG O) (qj (aZ (Ip O (fun h3 => ?_))))
  (try simp only [aF] at h3)
  refine dS (aP (aZ (aA (aW (fP O O (by omega)) (bT O (bZ ?_))))))
  refine dN (k + 1) ?_ ?_ ?_ ?_
  ·exact oO
  ·exact Du
  ·(try dsimp only)
   first | done | exact ⟨by omega, HD4⟩
  ·(try dsimp only); omega
 ·(try simp only [aF] at h2)
  refine eH (aT (aT (bU (aZ (mP O (fD results9 O ?_))))))
  exact ⟨O, HL⟩
end
theorem Qi {w : World} {v rv hv lv tv : Value} {us : List Value} {ls : List (List Int)} {p : List Int} {place at_ : Int} {back : Bool} {l : List oH} {ln ty : List Int} {pl pt : Int} (hT : Cj w) (g1 : Rd w 1 v ls.length us) (g2 : ∀ k, k < ls.length → jP w .i32 (us.getD k undef) (ls.getD k [])) (g3 : jP w .i32 rv p)
  (hb8 : ls.length ≤ 4611686018427387904) (TN : ∀ k, k < ls.length → (ls.getD k []).length ≤ 4611686018427387903)
  (q1 : Rd w 2 hv l.length (l.flatMap lD)) (q2 : jP w .i32 lv ln) (q3 : jP w .i32 tv ty) (hb : l.length ≤ 5864062014805) (hty : ty.length ≤ 35184372087808) (hRL : vP ln) :
  iM prog 3 #[v, .int .i64 place, .int .i64 at_, rv, .bool back, .agg #[hv, lv, .int .i64 pl, tv, .int .i64 pt]] w fun v w' => v = .bool true ∧ Below w.heap.size w w' := by
 obtain ⟨F, H⟩ : ∃ F, V w w F := ⟨_, V.start w⟩
 have fv : EL w F 1 v ls.length us := EL.BH g1 F
 have he : ∀ k, k < ls.length → jm w F .i32 (us.getD k undef) (ls.getD k []) := fun k hk => jm.BH (g2 k hk) F
 have fp : jm w F .i32 rv p := jm.BH g3 F
 have f1 : EL w F 2 hv l.length (l.flatMap lD) := EL.BH q1 F
 have f2 : jm w F .i32 lv ln := jm.BH q2 F
 have f3 : jm w F .i32 tv ty := jm.BH q3 F
 obtain ⟨r, hr⟩ : ∃ r, lq ls place at_ p back = r := ⟨_, rfl⟩
 by_cases hm : wZ l = 0
 ·by_cases hln : ln.length ≤ 1024
  ·have hpi : (Lm l ln pl ty pt).inn = false → (Lm l ln pl ty pt).put = [] := fun _ => acg _ _ _ _ _
   refine YG func3 ntmps3 ?_
   dsimp only [Ad, Nat.reduceAdd]
   refine jw (iY (jo (l := [_, _, _, _, _]) H O O) ?_)
   rintro _ w1 ⟨b1, rfl, H1⟩
   refine iP O (bY O (jy O O (jy O O (fE O func4 (CU H1 (fun W HW => fv W HW.right) (fun k hk W HW => he k hk W HW.right) (fun W HW => fp W HW.right) hb8 (fun k hk => Nat.le_succ_of_le (TN k hk))) ?_))))
   rintro _ w2 ⟨rfl, H2⟩
   rw [hr]
   refine bT O (sD O O (sD O O (sD O O (iC O (iC O (iP O (bY O (jy O O (jy O O (fE O func5 (Il H2 (fun W HW => fv W HW.right) (fun k hk W HW => he k hk W HW.right) (fun W HW => fp W HW.right) hb8 TN) ?_))))))))))
   rintro _ w3 ⟨rfl, H3⟩
   rw [hr]
   refine bT O (sD O O (sD O O (sD O O (iC O (iC O (sS O (jw (fE O func6 (KA H3 hT) ?_))))))))
   rintro _ w4 ⟨rfl, H4⟩
   refine aW (mG O) (TJ O (fun h1 => ?_))
   (try simp only [aF] at h1)
   refine bW (bT O (bW (bT O (bW (aW (gy O O) (kX O O (TJ O (fun h2 => ?_))))))))
   (try simp only [aF] at h2)
   refine bW (bT O (bW (bT O (bW (aW (gy O O) (kX O O (TJ O (fun h3 => ?_))))))))
   (try simp only [aF] at h3)
   refine bW (bT O (bW (bT O (bW (aW (y7 cZ O O) (kX O O (jd (Ip O (fun h4 => ?_)))))))))
   (try simp only [aF] at h4)
   refine iy (aO ?_)
   have Jf := H4.drew
   have mM := V.kp (Jf)
   refine uU [0, 2] mM O (iO 0 O mM (fun W hW => dI fO O sizeOf26 O O ((Kp.h hW)).get.2) (iO 2 O mM (fun W hW => dI fO O sizeOf26 O O ((Kp.h hW)).get.2) (lU 1 O (wY O func7 (Q9 Jf (fun W HW => f1 W HW.right) (fun W HW => f2 W HW.right) (fun W HW => f3 W HW.right) hb hm hln hT hRL)) ?_)))
   rintro _ w5 ⟨xe, rfl, H5⟩
   have vw := V.kp (H5.f2.f2)
   refine dZ vw (fun W hW => (Kp.h hW).right) ?_
   refine lU 3 O (wY O func8 (XE H5.f2.f2 (fun W HW => f1 W HW.right.right) (fun W HW => f2 W HW.right.right) (fun W HW => f3 W HW.right.right) hb hm hln hty hT hRL)) ?_
   rintro _ w6 ⟨ye, rfl, H6⟩
   have wJ := V.kp (H6.f3.f3.f3)
   refine fH wJ (by kernel_rfl) ?_
   refine iL 4 O wJ (fun _ => fU O) (iL 5 O wJ (fun _ => fU O) (qj (aZ (aO (bY O (aW (iJ lZ O O) (bT O (aW (iJ underlying32 O O) (aW (y7 cZ O O) (jd (Ip O (fun h5 => ?_))))))))))))
   (try simp only [aF] at h5)
   refine iy (bY O (aW (iJ lZ O O) (TJ O (fun h6 => ?_))))
   (try simp only [aF] at h6)
   refine bW (bT O (bW (fE O func10 (Jm H6.f2 (by assumption)) ?_)))
   rintro u7 w7 ⟨us7, H7⟩
   refine bW (bT O (bW (fE O func11 (VD H7.f4 (by assumption)) ?_)))
   rintro u8 w8 ⟨us8, H8⟩
   have hll : (Lm l ln pl ty pt).lines.length ≤ 9223372036854775807 := by obtain ⟨_, _, _, _, x1, x2, _⟩ := (H8).aN; omega
   refine bW (fE O func9 (Qh (ls := (Lm l ln pl ty pt).lines) H8.f3.right.f5.right.f5.right.f2.f2.f4.f4 (fun W HW => HW.aN) (fun k hk W HW => (HW.f2).FU hk) (fun W HW => (HW.f3).aN) (fun k hk W HW => (HW.f4).FU hk) hll) ?_)
   rintro _ w9 ⟨rfl, H9⟩
   refine kX O O (ig O (fD results3 O ?_))
   exact ⟨by simp, H9.base⟩
  ·skip
   refine YG func3 ntmps3 ?_
   dsimp only [Ad, Nat.reduceAdd]
   refine jw (iY (jo (l := [_, _, _, _, _]) H O O) ?_)
   rintro _ w1 ⟨b1, rfl, H1⟩
   refine iP O (bY O (jy O O (jy O O (fE O func4 (CU H1 (fun W HW => fv W HW.right) (fun k hk W HW => he k hk W HW.right) (fun W HW => fp W HW.right) hb8 (fun k hk => Nat.le_succ_of_le (TN k hk))) ?_))))
   rintro _ w2 ⟨rfl, H2⟩
   rw [hr]
   refine bT O (sD O O (sD O O (sD O O (iC O (iC O (iP O (bY O (jy O O (jy O O (fE O func5 (Il H2 (fun W HW => fv W HW.right) (fun k hk W HW => he k hk W HW.right) (fun W HW => fp W HW.right) hb8 TN) ?_))))))))))
   rintro _ w3 ⟨rfl, H3⟩
   rw [hr]
   refine bT O (sD O O (sD O O (sD O O (iC O (iC O (sS O (jw (fE O func6 (KA H3 hT) ?_))))))))
   rintro _ w4 ⟨rfl, H4⟩
   refine aW (mG O) (TJ O (fun h1 => ?_))
   (try simp only [aF] at h1)
   refine bW (bT O (bW (bT O (bW (aW (gy O O) (kX O O (TJ O (fun h2 => ?_))))))))
   (try simp only [aF] at h2)
   refine bW (bT O (bW (bT O (bW (aW (gy O O) (kX O O (TJ O (fun h3 => ?_))))))))
   (try simp only [aF] at h3)
   refine bW (bT O (bW (bT O (bW (aW (y7 cZ O O) (kX O O (jd (Ip O (fun h4 => ?_)))))))))
   (try simp only [aF] at h4)
   refine iy (aO ?_)
   have Jf := H4.drew
   have mM := V.kp (Jf)
   refine uU [0, 2] mM O (iO 0 O mM (fun W hW => dI fO O sizeOf26 O O ((Kp.h hW)).get.2) (iO 2 O mM (fun W hW => dI fO O sizeOf26 O O ((Kp.h hW)).get.2) (lU 1 O (wY O func7 (ZE Jf (fun W HW => f1 W HW.right) (fun W HW => f2 W HW.right) hb hm (by omega))) ?_)))
   rintro _ w5 ⟨rfl, H5⟩
   have vw := V.kp (H5)
   refine dZ vw (fun W hW => (Kp.h hW)) ?_
   refine lU 3 O (wY O func8 (XG H5 (fun W HW => f1 W HW.right) (fun W HW => f2 W HW.right) hb hm (by omega))) ?_
   rintro _ w6 ⟨rfl, H6⟩
   have wJ := V.kp (H6)
   refine fH wJ (by kernel_rfl) ?_
   refine iL 4 O wJ (fun _ => fU O) (iL 5 O wJ (fun _ => fU O) (qj (aZ (aO (bY O (aW (iJ lZ O O) (bT O (aW (iJ underlying32 O O) (aW (y7 cZ O O) (jd (Ip O (fun h5 => ?_))))))))))))
   (try simp only [aF] at h5)
   refine iy (bY O (aW (iJ lZ O O) (xsE O (fun h6 => ?_))))
   (try simp only [aF] at h6)
   refine dF (dF (dF (dF (dF (nZ O O (ig O (fD results3 O ?_)))))))
   exact ⟨O, H6.base⟩
 ·skip
  refine YG func3 ntmps3 ?_
  dsimp only [Ad, Nat.reduceAdd]
  refine jw (iY (jo (l := [_, _, _, _, _]) H O O) ?_)
  rintro _ w1 ⟨b1, rfl, H1⟩
  refine iP O (bY O (jy O O (jy O O (fE O func4 (CU H1 (fun W HW => fv W HW.right) (fun k hk W HW => he k hk W HW.right) (fun W HW => fp W HW.right) hb8 (fun k hk => Nat.le_succ_of_le (TN k hk))) ?_))))
  rintro _ w2 ⟨rfl, H2⟩
  rw [hr]
  refine bT O (sD O O (sD O O (sD O O (iC O (iC O (iP O (bY O (jy O O (jy O O (fE O func5 (Il H2 (fun W HW => fv W HW.right) (fun k hk W HW => he k hk W HW.right) (fun W HW => fp W HW.right) hb8 TN) ?_))))))))))
  rintro _ w3 ⟨rfl, H3⟩
  rw [hr]
  refine bT O (sD O O (sD O O (sD O O (iC O (iC O (sS O (jw (fE O func6 (KA H3 hT) ?_))))))))
  rintro _ w4 ⟨rfl, H4⟩
  refine aW (mG O) (TJ O (fun h1 => ?_))
  (try simp only [aF] at h1)
  refine bW (bT O (bW (bT O (bW (aW (gy O O) (kX O O (TJ O (fun h2 => ?_))))))))
  (try simp only [aF] at h2)
  refine bW (bT O (bW (bT O (bW (aW (gy O O) (kX O O (TJ O (fun h3 => ?_))))))))
  (try simp only [aF] at h3)
  refine bW (bT O (bW (bT O (bW (aW (y7 cZ O O) (kX O O (jd (Ip O (fun h4 => ?_)))))))))
  (try simp only [aF] at h4)
  refine iy (aO ?_)
  have Jf := H4.drew
  have mM := V.kp (Jf)
  refine uU [0, 2] mM O (iO 0 O mM (fun W hW => dI fO O sizeOf26 O O ((Kp.h hW)).get.2) (iO 2 O mM (fun W hW => dI fO O sizeOf26 O O ((Kp.h hW)).get.2) (lU 1 O (wY O func7 (ZC Jf (fun W HW => f1 W HW.right) hb hm)) ?_)))
  rintro _ w5 ⟨rfl, H5⟩
  have vw := V.kp (H5)
  refine dZ vw (fun W hW => (Kp.h hW)) ?_
  refine lU 3 O (wY O func8 (XF H5 (fun W HW => f1 W HW.right) hb hm)) ?_
  rintro _ w6 ⟨rfl, H6⟩
  have wJ := V.kp (H6)
  refine fH wJ (by kernel_rfl) ?_
  refine iL 4 O wJ (fun _ => fU O) (iL 5 O wJ (fun _ => fU O) (qj (aZ (aO (bY O (aW (iJ lZ O O) (bT O (aW (iJ underlying32 O O) (aW (y7 cZ O O) (jd (Ip O (fun h5 => ?_))))))))))))
  (try simp only [aF] at h5)
  refine iy (bY O (aW (iJ lZ O O) (xsE O (fun h6 => ?_))))
  (try simp only [aF] at h6)
  refine dF (dF (dF (dF (dF (nZ O O (ig O (fD results3 O ?_)))))))
  exact ⟨O, H6.base⟩
end Go.Proofs.YtgofgnlkpeghcaaGreatDoor
end
section
set_option maxRecDepth 100000
namespace Go.Proofs.YtgofgnlkpeghcaaGreatDoor
open Go.ChangeShapes Go.WideShapes Go.ChangeAt Go.RowKit
theorem ZL {H : Type} {enc : TypeId × Value → H} {W : World} {B : Nat} {cs : List Value} (h : Dx B enc Tryz.prog W 26 cs) : ∃ v0 n0 x0 v1 x1 x2 v3 x3 x4, cs = [v0, v1, .int .i64 x2, v3, .int .i64 x4] ∧ (Rd W 2 v0 n0 x0 ∧ n0 * Tryz.prog.bytesOf 41 ≤ B ∧ ∀ k, k < n0 → Dx B enc Tryz.prog W 41 ((x0.drop (k * 2)).take 2)) ∧ (jP W .i32 v1 x1 ∧ x1.length * 4 ≤ B ∧ ∀ n ∈ x1, (Lit.int .i32 n).wf = true) ∧ (Lit.int .i64 x2).wf = true ∧ (jP W .i32 v3 x3 ∧ x3.length * 4 ≤ B ∧ ∀ n ∈ x3, (Lit.int .i32 n).wf = true) ∧ (Lit.int .i64 x4).wf = true := by
  obtain ⟨hl, hf⟩ := h.struct Tryz.underlying26
  rw [show Tryz.prog.cellsOf 26 = 5 from by kernel_rfl] at hl
  match cs, hl with
  | [c0, c1, c2, c3, c4], _ =>
    have h0 : Dx B enc Tryz.prog W 24 (([c0, c1, c2, c3, c4].drop 0).take (Tryz.prog.cellsOf 24)) := hf 0 _ rfl
    rw [show Tryz.prog.cellsOf 24 = 1 from by kernel_rfl] at h0
    obtain ⟨v0, n0, x0, e0, g0, b0, s0⟩ := h0.slice Tryz.underlying24 (by rw [show Tryz.prog.cellsOf 41 = 2 from by kernel_rfl]; decide)
    rw [show Tryz.prog.cellsOf 41 = 2 from by kernel_rfl] at g0 s0
    have h1 : Dx B enc Tryz.prog W 23 (([c0, c1, c2, c3, c4].drop 1).take (Tryz.prog.cellsOf 23)) := hf 1 _ rfl
    rw [show Tryz.prog.cellsOf 23 = 1 from by kernel_rfl] at h1
    obtain ⟨v1, x1, e1, g1, b1, w1⟩ := h1.ints Tryz.underlying23 Tryz.underlying21 (by kernel_rfl)
    rw [show Tryz.prog.bytesOf 21 = 4 from by kernel_rfl] at b1
    have h2 : Dx B enc Tryz.prog W 3 (([c0, c1, c2, c3, c4].drop 2).take (Tryz.prog.cellsOf 3)) := hf 2 _ rfl
    rw [show Tryz.prog.cellsOf 3 = 1 from by kernel_rfl] at h2
    obtain ⟨x2, e2, w2⟩ := h2.int Tryz.underlying3
    have h3 : Dx B enc Tryz.prog W 23 (([c0, c1, c2, c3, c4].drop 3).take (Tryz.prog.cellsOf 23)) := hf 3 _ rfl
    rw [show Tryz.prog.cellsOf 23 = 1 from by kernel_rfl] at h3
    obtain ⟨v3, x3, e3, g3, b3, w3⟩ := h3.ints Tryz.underlying23 Tryz.underlying21 (by kernel_rfl)
    rw [show Tryz.prog.bytesOf 21 = 4 from by kernel_rfl] at b3
    have h4 : Dx B enc Tryz.prog W 3 (([c0, c1, c2, c3, c4].drop 4).take (Tryz.prog.cellsOf 3)) := hf 4 _ rfl
    rw [show Tryz.prog.cellsOf 3 = 1 from by kernel_rfl] at h4
    obtain ⟨x4, e4, w4⟩ := h4.int Tryz.underlying3
    simp only [List.drop, List.take, List.cons.injEq, and_true] at e0 e1 e2 e3 e4
    exact ⟨v0, n0, x0, v1, x1, x2, v3, x3, x4, by simp_all, ⟨g0, b0, s0⟩, ⟨g1, b1, w1⟩, w2, ⟨g3, b3, w3⟩, w4⟩
set_option maxRecDepth 100000 in
theorem Gm (os : Os) (started : os.Started) (H : Type) (enc : TypeId × Value → H) :
    ReturnsInHanded {} Tryz.checked os 3 .any (fun w args => (Rows.isearchFindsSpec.pre enc Tryz.prog Tryz.f3 Rows.isearchFindsRow.domain false w args ∧ laidMetH Tryz.prog NG w) ∧ sizedMet enc Tryz.prog Tryz.f3 (OpenSpec.ofChange Rows.isearchFindsSpec) false w args) (Rows.isearchFindsSpec.post enc Tryz.prog Tryz.f3 false true false false) := by
  refine Px (C := Tryz.checked) (tb := 4) _ own laid started (by kernel_rfl) Tryz.func3 (congrArg Array.toList Tryz.params3) rfl Tryz.underlying4 rfl (by kernel_rfl) (fun ds hd => ?_)
    (ChangeSpec.witness_shaped (enc := enc) (C := Tryz.checked) (os := os) (X := fun w _ => laidMetH Tryz.prog NG w) false (World.laidAll Tryz.prog os NG) #[.slice none 0 0, .int .i64 0, .int .i64 0, .slice none 0 0, .bool false, .agg #[.slice none 0 0, .slice none 0 0, .int .i64 0, .slice none 0 0, .int .i64 0]] 8 (World.laidAll_os _ _ _) (World.shaped_of_ZipB (by kernel_rfl) (by kernel_rfl)) (by kernel_rfl) (by kernel_rfl) (by kernel_rfl) (aad os _)) ?_
  · obtain ⟨a0, a1, a2, a3, a4, a5, rfl⟩ := acB hd
    rfl
  intro W args hL hin
  have hT := acx hL
  obtain ⟨v1, v2, v3, v4, v5, v6, rfl, ⟨⟨_, o1⟩, i1⟩, ⟨⟨_, o2⟩, i2⟩, ⟨⟨_, o3⟩, i3⟩, ⟨⟨_, o4⟩, i4⟩, ⟨⟨_, o5⟩, i5⟩, ⟨⟨_, o6⟩, i6⟩⟩ := hin.six
  obtain ⟨a1, n1, c1, rfl⟩ := okWide_slice Tryz.underlying22 o1
  obtain ⟨p1, rfl⟩ := okWide_int Tryz.underlying3 o2
  obtain ⟨p2, rfl⟩ := okWide_int Tryz.underlying3 o3
  obtain ⟨a4, n4, c4, rfl⟩ := okWide_slice Tryz.underlying23 o4
  obtain ⟨bk, rfl⟩ := okWide_bool Tryz.underlying4 o5
  obtain ⟨cs, rfl, -⟩ := okWide_struct Tryz.underlying26 o6
  obtain ⟨_, vs, ls, e1, g2, hb2, g3⟩ := i1.row Tryz.underlying22 Tryz.underlying23 Tryz.underlying21 (by kernel_rfl) (by kernel_rfl)
  obtain rfl := List.singleton_inj.1 e1
  obtain ⟨v, x, e, g, b, wf⟩ := i4.ints Tryz.underlying23 Tryz.underlying21 (by kernel_rfl)
  obtain rfl := List.singleton_inj.1 e
  rw [show Tryz.prog.bytesOf 23 = 24 from by kernel_rfl] at hb2
  have TN : ∀ k, k < ls.length → (ls.getD k []).length ≤ 4611686018427387903 := fun k hk => by
    have h9 := (g3 k hk).2.1
    rw [show Tryz.prog.bytesOf 21 = 4 from by kernel_rfl] at h9
    unfold reachBytes at h9; omega
  have hb8 : ls.length ≤ 4611686018427387904 := by unfold reachBytes at hb2; omega
  obtain ⟨hv, n0, x0, lv, ln, place, tv, ty, pt, e6, ⟨g0, b0, s0⟩, ⟨g1, b1, w1⟩, -, ⟨g9, b9, w9⟩, -⟩ := ZL i6
  obtain rfl : cs = #[hv, lv, .int .i64 place, tv, .int .i64 pt] := Array.ext' e6
  obtain ⟨l, l1, l2⟩ := Wp g0.len s0
  subst l1 l2
  rw [show Tryz.prog.bytesOf 41 = 24 from by kernel_rfl] at b0
  unfold reachBytes at b0 b9
  exact Qi (aao hL) g2 (fun k hk => (g3 k hk).1) g hb8 TN g0 g1 g9 (by omega) (by omega) (agM w1)
theorem Gn : Rows.IsearchFindsSaid :=
  OpenClaim.holds_of_wide 3 Tryz.f3 rfl rfl rfl rfl rfl rfl rfl ⟨rfl, rfl, rfl, rfl, rfl⟩ rfl rfl rfl rfl rfl (by kernel_rfl) Tryz.func3 (by kernel_rfl)
    (of_decide_eq_true (by kernel_rfl)) (by unfold Func.isWrapper; first | (rw [if_pos (by decide +kernel)]; kernel_rfl) | (rw [if_neg (by decide +kernel)]; exact ⟨rfl, rfl⟩))
    (fun os started H enc _ => Gm os started H enc)
theorem isearchFinds_card : Rows.IsearchFindsCardSaid :=
  Claim7.holds_tied_plain_at .later [] [.data, .pinned] true (true, "320395bab6c391f4ea61388c0923012062a10b7ada4c35611a05248e34696531") false
    Gn (fun _ h => by cases h) (by kernel_rfl) (fun _ h => by cases h) isearchFinds_row_tie rfl ⟨rfl, rfl⟩ (by kernel_rfl) rfl
    (fun f fn hf hfn => by
      obtain rfl : f = 3 := Option.some.inj ((show Tryz.prog.funcNamed "lanyard/lanyardlaw20.IsearchFinds" = some 3 by kernel_rfl).symm.trans hf) |>.symm
      obtain rfl : fn = Tryz.f3 := (Option.some.inj (Tryz.func3.symm.trans hfn)).symm
      exact ⟨by kernel_rfl, fun j t ht => by
        rw [Tryz.params3] at ht
        have hm : t ∈ [22, 3, 3, 23, 4, 26] := by simpa using Array.mem_of_getElem? ht
        have hall : ([22, 3, 3, 23, 4, 26].all fun u => !Tryz.prog.wantsStandIn u) = true := by kernel_rfl
        exact (show Tryz.prog.wantsStandIn t = false by simpa using List.all_eq_true.1 hall t hm)⟩)
    (by kernel_rfl)
end Go.Proofs.YtgofgnlkpeghcaaGreatDoor
end
