import PyProof.Rows.All
import Wide.All
import OpenK.AllK
import Wide.FinOn
import HandS.ForMost
import HandS.IsInst
import HandS.SortInts
import HandS.Conv
import HandS.More
import HandS.ClsMeth
import HandS.Exc
import HandS.DictTup
import HandS.Strs
import HandS.SetFor
import HandS.SortRule
import HandS.MakeKw
import HandS.TryOnly
import HandS.Style
import KE.KDictList
import HandS.Small
import HandS.WordsExc
import HandS.ExcValue
import HandS.ExcIs
import PySem.Challenge.RW_lastreader_k21_whole_sleeper
set_option Elab.async false
set_option linter.all false
set_option maxRecDepth 100000
set_option maxHeartbeats 4000000
/-! The symbolic heap: what stands in H, unit by unit. -/
namespace Sy
open PySem L2
abbrev U := List (Addr × HO)
structure Has (H : Hp) (L : List U) : Prop where
  nd : (L.flatten.map (·.1)).Nodup
  at' : ∀ p ∈ L.flatten, H p.1 = some p.2
theorem Has.all {H : Hp} {L : List U} (h : Has H L) : ∀ p ∈ L.flatten, H p.1 = some p.2 := h.at'
theorem Has.set_at {H : Hp} {A : List U} {a : Addr} {o o2 : HO} {us : U} {L : List U} (h : Has H (A ++ ((a, o) :: us) :: L)) : Has (upd H a o2) (A ++ ((a, o2) :: us) :: L) := by
  have e1 : (A ++ ((a, o) :: us) :: L).flatten = A.flatten ++ (a, o) :: (us ++ L.flatten) := by simp
  have e2 : (A ++ ((a, o2) :: us) :: L).flatten = A.flatten ++ (a, o2) :: (us ++ L.flatten) := by simp
  have hn := h.nd
  have ha := h.at'
  rw [e1] at hn ha
  refine ⟨?_, ?_⟩
  · rw [e2]
    simpa using hn
  · rw [e2]
    rw [List.map_append, List.map_cons, List.nodup_append] at hn
    obtain ⟨n1, n2, n3⟩ := hn
    obtain ⟨n4, n5⟩ := List.nodup_cons.mp n2
    intro p hp
    rcases List.mem_append.mp hp with q | q
    · have ne : p.1 ≠ a := n3 p.1 (List.mem_map.mpr ⟨p, q, rfl⟩) a (List.mem_cons.mpr (.inl rfl))
      rw [upd_ne ne]
      exact ha p (List.mem_append.mpr (.inl q))
    · rcases List.mem_cons.mp q with e | q
      · subst e
        exact upd_same
      · have ne : p.1 ≠ a := fun z => n4 (List.mem_map.mpr ⟨p, q, z⟩)
        rw [upd_ne ne]
        exact ha p (List.mem_append.mpr (.inr (List.mem_cons.mpr (.inr q))))
theorem Has.nw {H : Hp} {L : List U} (h : Has H L) {p : Addr} {o : HO} (hp : H p = none) : Has (upd H p o) ([(p, o)] :: L) := by
  have np : ∀ q ∈ L.flatten, q.1 ≠ p := fun q hq => ne_of_none (h.at' q hq) hp
  refine ⟨?_, ?_⟩
  · show ((p :: L.flatten.map (·.1))).Nodup
    exact List.nodup_cons.mpr ⟨fun m => by obtain ⟨q, hq, e⟩ := List.mem_map.mp m; exact np q hq e, h.nd⟩
  · intro q hq
    have hq : q ∈ (p, o) :: L.flatten := hq
    rcases List.mem_cons.mp hq with e | hq
    · subst e
      exact upd_same
    · rw [upd_ne (np q hq)]
      exact h.at' q hq
theorem Has.nil {H : Hp} : Has H [] := ⟨List.nodup_nil, fun _ h => by cases h⟩
def Sub (T L : List U) : Prop := ∃ G, L.Perm (T ++ G)
theorem Sub.rf {L : List U} : Sub L L := ⟨[], by rw [List.append_nil]⟩
theorem Sub.skip {T L : List U} {u : U} (h : Sub T L) : Sub T (u :: L) := by
  obtain ⟨G, p⟩ := h
  exact ⟨u :: G, ((List.Perm.cons u p).trans List.perm_middle.symm)⟩
theorem Sub.pull {A : List U} {u : U} {T L : List U} (h : Sub T (A ++ L)) : Sub (u :: T) (A ++ u :: L) := by
  obtain ⟨G, p⟩ := h
  exact ⟨G, List.perm_middle.trans (List.Perm.cons u p)⟩
theorem Sub.trans {A B C : List U} (h : Sub A B) (k : Sub B C) : Sub A C := by
  obtain ⟨G, p⟩ := h
  obtain ⟨F, q⟩ := k
  refine ⟨G ++ F, q.trans ?_⟩
  rw [← List.append_assoc]
  exact p.append_right F
theorem flatten_perm {L M : List U} (p : L.Perm M) : L.flatten.Perm M.flatten := by
  induction p with
  | nil => exact List.Perm.refl _
  | cons x _ ih =>
    show (x ++ _).Perm (x ++ _)
    exact ih.append_left x
  | swap x y l =>
    show (y ++ (x ++ l.flatten)).Perm (x ++ (y ++ l.flatten))
    rw [← List.append_assoc, ← List.append_assoc]
    exact List.perm_append_comm.append_right _
  | trans _ _ a b => exact a.trans b
theorem Has.perm {H : Hp} {L M : List U} (h : Has H L) (p : L.Perm M) : Has H M :=
  ⟨((flatten_perm p).map (·.1)).nodup_iff.mp h.nd, fun q hq => h.at' q ((flatten_perm p).mem_iff.mpr hq)⟩
theorem Has.left {H : Hp} {L M : List U} (h : Has H (L ++ M)) : Has H L := by
  obtain ⟨n, a⟩ := h
  rw [List.flatten_append] at n a
  rw [List.map_append] at n
  exact ⟨(List.nodup_append.mp n).1, fun p hp => a p (List.mem_append.mpr (.inl hp))⟩
theorem Has.sub {H : Hp} {T L : List U} (h : Has H L) (s : Sub T L) : Has H T := by
  obtain ⟨G, p⟩ := s
  exact (h.perm p).left
/-- a unit is opened, closed -/
theorem Has.op {H : Hp} {A B : U} {L : List U} : Has H ((A ++ B) :: L) ↔ Has H (A :: B :: L) := by
  constructor
  · rintro ⟨n, a⟩
    exact ⟨by simpa using n, fun p hp => a p (by simpa [or_assoc] using hp)⟩
  · rintro ⟨n, a⟩
    exact ⟨by simpa using n, fun p hp => a p (by simpa [or_assoc] using hp)⟩
theorem Has.cut {H : Hp} {p : Addr × HO} {B : U} {L : List U} (h : Has H ((p :: B) :: L)) : Has H ([p] :: B :: L) := Has.op.mp h
theorem Has.glue {H : Hp} {p : Addr × HO} {B : U} {L : List U} (h : Has H ([p] :: B :: L)) : Has H ((p :: B) :: L) := Has.op.mpr h
theorem Has.nilU {H : Hp} {L : List U} : Has H ([] :: L) ↔ Has H L := ⟨fun ⟨n, a⟩ => ⟨n, a⟩, fun ⟨n, a⟩ => ⟨n, a⟩⟩
theorem Has.cut2 {H : Hp} {p q : Addr × HO} {B : U} {L : List U} (h : Has H ((p :: q :: B) :: L)) : Has H ([p] :: [q] :: B :: L) := Has.perm (Has.cut (Has.perm h.cut (List.Perm.swap _ _ _))) ((List.Perm.cons _ (List.Perm.swap _ _ _)).trans ((List.Perm.swap _ _ _)))
theorem Has.glue2 {H : Hp} {p q : Addr × HO} {B : U} {L : List U} (h : Has H ([p] :: [q] :: B :: L)) : Has H ((p :: q :: B) :: L) := Has.glue (Has.perm (Has.glue (Has.perm h ((List.Perm.swap _ _ _).trans (List.Perm.cons _ (List.Perm.swap _ _ _))))) (List.Perm.swap _ _ _))
theorem Has.g0 {H : Hp} {a : Addr} {o : HO} {us : U} {L : List U} (h : Has H (((a, o) :: us) :: L)) : H a = some o := h.2 (a, o) (by simp)
theorem Has.g1 {H : Hp} {u0 : U} {a : Addr} {o : HO} {us : U} {L : List U} (h : Has H (u0 :: ((a, o) :: us) :: L)) : H a = some o := h.2 (a, o) (by simp)
theorem Has.g2 {H : Hp} {u0 u1 : U} {a : Addr} {o : HO} {us : U} {L : List U} (h : Has H (u0 :: u1 :: ((a, o) :: us) :: L)) : H a = some o := h.2 (a, o) (by simp)
theorem Has.g3 {H : Hp} {u0 u1 u2 : U} {a : Addr} {o : HO} {us : U} {L : List U} (h : Has H (u0 :: u1 :: u2 :: ((a, o) :: us) :: L)) : H a = some o := h.2 (a, o) (by simp)
theorem Has.g4 {H : Hp} {u0 u1 u2 u3 : U} {a : Addr} {o : HO} {us : U} {L : List U} (h : Has H (u0 :: u1 :: u2 :: u3 :: ((a, o) :: us) :: L)) : H a = some o := h.2 (a, o) (by simp)
theorem Has.g5 {H : Hp} {u0 u1 u2 u3 u4 : U} {a : Addr} {o : HO} {us : U} {L : List U} (h : Has H (u0 :: u1 :: u2 :: u3 :: u4 :: ((a, o) :: us) :: L)) : H a = some o := h.2 (a, o) (by simp)
theorem Has.g6 {H : Hp} {u0 u1 u2 u3 u4 u5 : U} {a : Addr} {o : HO} {us : U} {L : List U} (h : Has H (u0 :: u1 :: u2 :: u3 :: u4 :: u5 :: ((a, o) :: us) :: L)) : H a = some o := h.2 (a, o) (by simp)
theorem Has.g7 {H : Hp} {u0 u1 u2 u3 u4 u5 u6 : U} {a : Addr} {o : HO} {us : U} {L : List U} (h : Has H (u0 :: u1 :: u2 :: u3 :: u4 :: u5 :: u6 :: ((a, o) :: us) :: L)) : H a = some o := h.2 (a, o) (by simp)
theorem Has.g8 {H : Hp} {u0 u1 u2 u3 u4 u5 u6 u7 : U} {a : Addr} {o : HO} {us : U} {L : List U} (h : Has H (u0 :: u1 :: u2 :: u3 :: u4 :: u5 :: u6 :: u7 :: ((a, o) :: us) :: L)) : H a = some o := h.2 (a, o) (by simp)
theorem Has.g9 {H : Hp} {u0 u1 u2 u3 u4 u5 u6 u7 u8 : U} {a : Addr} {o : HO} {us : U} {L : List U} (h : Has H (u0 :: u1 :: u2 :: u3 :: u4 :: u5 :: u6 :: u7 :: u8 :: ((a, o) :: us) :: L)) : H a = some o := h.2 (a, o) (by simp)
theorem Has.g10 {H : Hp} {u0 u1 u2 u3 u4 u5 u6 u7 u8 u9 : U} {a : Addr} {o : HO} {us : U} {L : List U} (h : Has H (u0 :: u1 :: u2 :: u3 :: u4 :: u5 :: u6 :: u7 :: u8 :: u9 :: ((a, o) :: us) :: L)) : H a = some o := h.2 (a, o) (by simp)
theorem Has.g11 {H : Hp} {u0 u1 u2 u3 u4 u5 u6 u7 u8 u9 u10 : U} {a : Addr} {o : HO} {us : U} {L : List U} (h : Has H (u0 :: u1 :: u2 :: u3 :: u4 :: u5 :: u6 :: u7 :: u8 :: u9 :: u10 :: ((a, o) :: us) :: L)) : H a = some o := h.2 (a, o) (by simp)
theorem Has.g12 {H : Hp} {u0 u1 u2 u3 u4 u5 u6 u7 u8 u9 u10 u11 : U} {a : Addr} {o : HO} {us : U} {L : List U} (h : Has H (u0 :: u1 :: u2 :: u3 :: u4 :: u5 :: u6 :: u7 :: u8 :: u9 :: u10 :: u11 :: ((a, o) :: us) :: L)) : H a = some o := h.2 (a, o) (by simp)
theorem Has.g13 {H : Hp} {u0 u1 u2 u3 u4 u5 u6 u7 u8 u9 u10 u11 u12 : U} {a : Addr} {o : HO} {us : U} {L : List U} (h : Has H (u0 :: u1 :: u2 :: u3 :: u4 :: u5 :: u6 :: u7 :: u8 :: u9 :: u10 :: u11 :: u12 :: ((a, o) :: us) :: L)) : H a = some o := h.2 (a, o) (by simp)
theorem Has.g14 {H : Hp} {u0 u1 u2 u3 u4 u5 u6 u7 u8 u9 u10 u11 u12 u13 : U} {a : Addr} {o : HO} {us : U} {L : List U} (h : Has H (u0 :: u1 :: u2 :: u3 :: u4 :: u5 :: u6 :: u7 :: u8 :: u9 :: u10 :: u11 :: u12 :: u13 :: ((a, o) :: us) :: L)) : H a = some o := h.2 (a, o) (by simp)
theorem Has.g15 {H : Hp} {u0 u1 u2 u3 u4 u5 u6 u7 u8 u9 u10 u11 u12 u13 u14 : U} {a : Addr} {o : HO} {us : U} {L : List U} (h : Has H (u0 :: u1 :: u2 :: u3 :: u4 :: u5 :: u6 :: u7 :: u8 :: u9 :: u10 :: u11 :: u12 :: u13 :: u14 :: ((a, o) :: us) :: L)) : H a = some o := h.2 (a, o) (by simp)
theorem Has.s0 {H : Hp} {a : Addr} {o o2 : HO} {us : U} {L : List U} (h : Has H (((a, o) :: us) :: L)) : Has (upd H a o2) (((a, o2) :: us) :: L) := Has.set_at (A := []) h
theorem Has.s1 {H : Hp} {u0 : U} {a : Addr} {o o2 : HO} {us : U} {L : List U} (h : Has H (u0 :: ((a, o) :: us) :: L)) : Has (upd H a o2) (u0 :: ((a, o2) :: us) :: L) := Has.set_at (A := [u0]) h
theorem Has.s2 {H : Hp} {u0 u1 : U} {a : Addr} {o o2 : HO} {us : U} {L : List U} (h : Has H (u0 :: u1 :: ((a, o) :: us) :: L)) : Has (upd H a o2) (u0 :: u1 :: ((a, o2) :: us) :: L) := Has.set_at (A := [u0, u1]) h
theorem Has.s3 {H : Hp} {u0 u1 u2 : U} {a : Addr} {o o2 : HO} {us : U} {L : List U} (h : Has H (u0 :: u1 :: u2 :: ((a, o) :: us) :: L)) : Has (upd H a o2) (u0 :: u1 :: u2 :: ((a, o2) :: us) :: L) := Has.set_at (A := [u0, u1, u2]) h
theorem Has.s4 {H : Hp} {u0 u1 u2 u3 : U} {a : Addr} {o o2 : HO} {us : U} {L : List U} (h : Has H (u0 :: u1 :: u2 :: u3 :: ((a, o) :: us) :: L)) : Has (upd H a o2) (u0 :: u1 :: u2 :: u3 :: ((a, o2) :: us) :: L) := Has.set_at (A := [u0, u1, u2, u3]) h
theorem Has.s5 {H : Hp} {u0 u1 u2 u3 u4 : U} {a : Addr} {o o2 : HO} {us : U} {L : List U} (h : Has H (u0 :: u1 :: u2 :: u3 :: u4 :: ((a, o) :: us) :: L)) : Has (upd H a o2) (u0 :: u1 :: u2 :: u3 :: u4 :: ((a, o2) :: us) :: L) := Has.set_at (A := [u0, u1, u2, u3, u4]) h
theorem Has.s6 {H : Hp} {u0 u1 u2 u3 u4 u5 : U} {a : Addr} {o o2 : HO} {us : U} {L : List U} (h : Has H (u0 :: u1 :: u2 :: u3 :: u4 :: u5 :: ((a, o) :: us) :: L)) : Has (upd H a o2) (u0 :: u1 :: u2 :: u3 :: u4 :: u5 :: ((a, o2) :: us) :: L) := Has.set_at (A := [u0, u1, u2, u3, u4, u5]) h
theorem Has.s7 {H : Hp} {u0 u1 u2 u3 u4 u5 u6 : U} {a : Addr} {o o2 : HO} {us : U} {L : List U} (h : Has H (u0 :: u1 :: u2 :: u3 :: u4 :: u5 :: u6 :: ((a, o) :: us) :: L)) : Has (upd H a o2) (u0 :: u1 :: u2 :: u3 :: u4 :: u5 :: u6 :: ((a, o2) :: us) :: L) := Has.set_at (A := [u0, u1, u2, u3, u4, u5, u6]) h
theorem Has.s8 {H : Hp} {u0 u1 u2 u3 u4 u5 u6 u7 : U} {a : Addr} {o o2 : HO} {us : U} {L : List U} (h : Has H (u0 :: u1 :: u2 :: u3 :: u4 :: u5 :: u6 :: u7 :: ((a, o) :: us) :: L)) : Has (upd H a o2) (u0 :: u1 :: u2 :: u3 :: u4 :: u5 :: u6 :: u7 :: ((a, o2) :: us) :: L) := Has.set_at (A := [u0, u1, u2, u3, u4, u5, u6, u7]) h
theorem Has.s9 {H : Hp} {u0 u1 u2 u3 u4 u5 u6 u7 u8 : U} {a : Addr} {o o2 : HO} {us : U} {L : List U} (h : Has H (u0 :: u1 :: u2 :: u3 :: u4 :: u5 :: u6 :: u7 :: u8 :: ((a, o) :: us) :: L)) : Has (upd H a o2) (u0 :: u1 :: u2 :: u3 :: u4 :: u5 :: u6 :: u7 :: u8 :: ((a, o2) :: us) :: L) := Has.set_at (A := [u0, u1, u2, u3, u4, u5, u6, u7, u8]) h
theorem Has.s10 {H : Hp} {u0 u1 u2 u3 u4 u5 u6 u7 u8 u9 : U} {a : Addr} {o o2 : HO} {us : U} {L : List U} (h : Has H (u0 :: u1 :: u2 :: u3 :: u4 :: u5 :: u6 :: u7 :: u8 :: u9 :: ((a, o) :: us) :: L)) : Has (upd H a o2) (u0 :: u1 :: u2 :: u3 :: u4 :: u5 :: u6 :: u7 :: u8 :: u9 :: ((a, o2) :: us) :: L) := Has.set_at (A := [u0, u1, u2, u3, u4, u5, u6, u7, u8, u9]) h
theorem Has.s11 {H : Hp} {u0 u1 u2 u3 u4 u5 u6 u7 u8 u9 u10 : U} {a : Addr} {o o2 : HO} {us : U} {L : List U} (h : Has H (u0 :: u1 :: u2 :: u3 :: u4 :: u5 :: u6 :: u7 :: u8 :: u9 :: u10 :: ((a, o) :: us) :: L)) : Has (upd H a o2) (u0 :: u1 :: u2 :: u3 :: u4 :: u5 :: u6 :: u7 :: u8 :: u9 :: u10 :: ((a, o2) :: us) :: L) := Has.set_at (A := [u0, u1, u2, u3, u4, u5, u6, u7, u8, u9, u10]) h
theorem Has.s12 {H : Hp} {u0 u1 u2 u3 u4 u5 u6 u7 u8 u9 u10 u11 : U} {a : Addr} {o o2 : HO} {us : U} {L : List U} (h : Has H (u0 :: u1 :: u2 :: u3 :: u4 :: u5 :: u6 :: u7 :: u8 :: u9 :: u10 :: u11 :: ((a, o) :: us) :: L)) : Has (upd H a o2) (u0 :: u1 :: u2 :: u3 :: u4 :: u5 :: u6 :: u7 :: u8 :: u9 :: u10 :: u11 :: ((a, o2) :: us) :: L) := Has.set_at (A := [u0, u1, u2, u3, u4, u5, u6, u7, u8, u9, u10, u11]) h
theorem Has.s13 {H : Hp} {u0 u1 u2 u3 u4 u5 u6 u7 u8 u9 u10 u11 u12 : U} {a : Addr} {o o2 : HO} {us : U} {L : List U} (h : Has H (u0 :: u1 :: u2 :: u3 :: u4 :: u5 :: u6 :: u7 :: u8 :: u9 :: u10 :: u11 :: u12 :: ((a, o) :: us) :: L)) : Has (upd H a o2) (u0 :: u1 :: u2 :: u3 :: u4 :: u5 :: u6 :: u7 :: u8 :: u9 :: u10 :: u11 :: u12 :: ((a, o2) :: us) :: L) := Has.set_at (A := [u0, u1, u2, u3, u4, u5, u6, u7, u8, u9, u10, u11, u12]) h
theorem Has.s14 {H : Hp} {u0 u1 u2 u3 u4 u5 u6 u7 u8 u9 u10 u11 u12 u13 : U} {a : Addr} {o o2 : HO} {us : U} {L : List U} (h : Has H (u0 :: u1 :: u2 :: u3 :: u4 :: u5 :: u6 :: u7 :: u8 :: u9 :: u10 :: u11 :: u12 :: u13 :: ((a, o) :: us) :: L)) : Has (upd H a o2) (u0 :: u1 :: u2 :: u3 :: u4 :: u5 :: u6 :: u7 :: u8 :: u9 :: u10 :: u11 :: u12 :: u13 :: ((a, o2) :: us) :: L) := Has.set_at (A := [u0, u1, u2, u3, u4, u5, u6, u7, u8, u9, u10, u11, u12, u13]) h
theorem Has.s15 {H : Hp} {u0 u1 u2 u3 u4 u5 u6 u7 u8 u9 u10 u11 u12 u13 u14 : U} {a : Addr} {o o2 : HO} {us : U} {L : List U} (h : Has H (u0 :: u1 :: u2 :: u3 :: u4 :: u5 :: u6 :: u7 :: u8 :: u9 :: u10 :: u11 :: u12 :: u13 :: u14 :: ((a, o) :: us) :: L)) : Has (upd H a o2) (u0 :: u1 :: u2 :: u3 :: u4 :: u5 :: u6 :: u7 :: u8 :: u9 :: u10 :: u11 :: u12 :: u13 :: u14 :: ((a, o2) :: us) :: L) := Has.set_at (A := [u0, u1, u2, u3, u4, u5, u6, u7, u8, u9, u10, u11, u12, u13, u14]) h
theorem Sub.p0 {u : U} {T L : List U} (h : Sub T L) : Sub (u :: T) (u :: L) := Sub.pull (A := []) h
theorem Sub.p1 {u0 u : U} {T L : List U} (h : Sub T (u0 :: L)) : Sub (u :: T) (u0 :: u :: L) := Sub.pull (A := [u0]) h
theorem Sub.p2 {u0 u1 u : U} {T L : List U} (h : Sub T (u0 :: u1 :: L)) : Sub (u :: T) (u0 :: u1 :: u :: L) := Sub.pull (A := [u0, u1]) h
theorem Sub.p3 {u0 u1 u2 u : U} {T L : List U} (h : Sub T (u0 :: u1 :: u2 :: L)) : Sub (u :: T) (u0 :: u1 :: u2 :: u :: L) := Sub.pull (A := [u0, u1, u2]) h
theorem Sub.p4 {u0 u1 u2 u3 u : U} {T L : List U} (h : Sub T (u0 :: u1 :: u2 :: u3 :: L)) : Sub (u :: T) (u0 :: u1 :: u2 :: u3 :: u :: L) := Sub.pull (A := [u0, u1, u2, u3]) h
theorem Sub.p5 {u0 u1 u2 u3 u4 u : U} {T L : List U} (h : Sub T (u0 :: u1 :: u2 :: u3 :: u4 :: L)) : Sub (u :: T) (u0 :: u1 :: u2 :: u3 :: u4 :: u :: L) := Sub.pull (A := [u0, u1, u2, u3, u4]) h
theorem Sub.p6 {u0 u1 u2 u3 u4 u5 u : U} {T L : List U} (h : Sub T (u0 :: u1 :: u2 :: u3 :: u4 :: u5 :: L)) : Sub (u :: T) (u0 :: u1 :: u2 :: u3 :: u4 :: u5 :: u :: L) := Sub.pull (A := [u0, u1, u2, u3, u4, u5]) h
theorem Sub.p7 {u0 u1 u2 u3 u4 u5 u6 u : U} {T L : List U} (h : Sub T (u0 :: u1 :: u2 :: u3 :: u4 :: u5 :: u6 :: L)) : Sub (u :: T) (u0 :: u1 :: u2 :: u3 :: u4 :: u5 :: u6 :: u :: L) := Sub.pull (A := [u0, u1, u2, u3, u4, u5, u6]) h
theorem Sub.p8 {u0 u1 u2 u3 u4 u5 u6 u7 u : U} {T L : List U} (h : Sub T (u0 :: u1 :: u2 :: u3 :: u4 :: u5 :: u6 :: u7 :: L)) : Sub (u :: T) (u0 :: u1 :: u2 :: u3 :: u4 :: u5 :: u6 :: u7 :: u :: L) := Sub.pull (A := [u0, u1, u2, u3, u4, u5, u6, u7]) h
theorem Sub.p9 {u0 u1 u2 u3 u4 u5 u6 u7 u8 u : U} {T L : List U} (h : Sub T (u0 :: u1 :: u2 :: u3 :: u4 :: u5 :: u6 :: u7 :: u8 :: L)) : Sub (u :: T) (u0 :: u1 :: u2 :: u3 :: u4 :: u5 :: u6 :: u7 :: u8 :: u :: L) := Sub.pull (A := [u0, u1, u2, u3, u4, u5, u6, u7, u8]) h
theorem Sub.p10 {u0 u1 u2 u3 u4 u5 u6 u7 u8 u9 u : U} {T L : List U} (h : Sub T (u0 :: u1 :: u2 :: u3 :: u4 :: u5 :: u6 :: u7 :: u8 :: u9 :: L)) : Sub (u :: T) (u0 :: u1 :: u2 :: u3 :: u4 :: u5 :: u6 :: u7 :: u8 :: u9 :: u :: L) := Sub.pull (A := [u0, u1, u2, u3, u4, u5, u6, u7, u8, u9]) h
theorem Sub.p11 {u0 u1 u2 u3 u4 u5 u6 u7 u8 u9 u10 u : U} {T L : List U} (h : Sub T (u0 :: u1 :: u2 :: u3 :: u4 :: u5 :: u6 :: u7 :: u8 :: u9 :: u10 :: L)) : Sub (u :: T) (u0 :: u1 :: u2 :: u3 :: u4 :: u5 :: u6 :: u7 :: u8 :: u9 :: u10 :: u :: L) := Sub.pull (A := [u0, u1, u2, u3, u4, u5, u6, u7, u8, u9, u10]) h
theorem Sub.p12 {u0 u1 u2 u3 u4 u5 u6 u7 u8 u9 u10 u11 u : U} {T L : List U} (h : Sub T (u0 :: u1 :: u2 :: u3 :: u4 :: u5 :: u6 :: u7 :: u8 :: u9 :: u10 :: u11 :: L)) : Sub (u :: T) (u0 :: u1 :: u2 :: u3 :: u4 :: u5 :: u6 :: u7 :: u8 :: u9 :: u10 :: u11 :: u :: L) := Sub.pull (A := [u0, u1, u2, u3, u4, u5, u6, u7, u8, u9, u10, u11]) h
theorem Sub.p13 {u0 u1 u2 u3 u4 u5 u6 u7 u8 u9 u10 u11 u12 u : U} {T L : List U} (h : Sub T (u0 :: u1 :: u2 :: u3 :: u4 :: u5 :: u6 :: u7 :: u8 :: u9 :: u10 :: u11 :: u12 :: L)) : Sub (u :: T) (u0 :: u1 :: u2 :: u3 :: u4 :: u5 :: u6 :: u7 :: u8 :: u9 :: u10 :: u11 :: u12 :: u :: L) := Sub.pull (A := [u0, u1, u2, u3, u4, u5, u6, u7, u8, u9, u10, u11, u12]) h
theorem Sub.p14 {u0 u1 u2 u3 u4 u5 u6 u7 u8 u9 u10 u11 u12 u13 u : U} {T L : List U} (h : Sub T (u0 :: u1 :: u2 :: u3 :: u4 :: u5 :: u6 :: u7 :: u8 :: u9 :: u10 :: u11 :: u12 :: u13 :: L)) : Sub (u :: T) (u0 :: u1 :: u2 :: u3 :: u4 :: u5 :: u6 :: u7 :: u8 :: u9 :: u10 :: u11 :: u12 :: u13 :: u :: L) := Sub.pull (A := [u0, u1, u2, u3, u4, u5, u6, u7, u8, u9, u10, u11, u12, u13]) h
theorem Sub.p15 {u0 u1 u2 u3 u4 u5 u6 u7 u8 u9 u10 u11 u12 u13 u14 u : U} {T L : List U} (h : Sub T (u0 :: u1 :: u2 :: u3 :: u4 :: u5 :: u6 :: u7 :: u8 :: u9 :: u10 :: u11 :: u12 :: u13 :: u14 :: L)) : Sub (u :: T) (u0 :: u1 :: u2 :: u3 :: u4 :: u5 :: u6 :: u7 :: u8 :: u9 :: u10 :: u11 :: u12 :: u13 :: u14 :: u :: L) := Sub.pull (A := [u0, u1, u2, u3, u4, u5, u6, u7, u8, u9, u10, u11, u12, u13, u14]) h
/-! Steps: a reading, rule by rule, over the symbolic heap. -/
theorem Has.cut3 {H : Hp} {p q r : Addr × HO} {B : U} {L : List U} (h : Has H ((p :: q :: r :: B) :: L)) : Has H ([p] :: [q] :: [r] :: B :: L) := (Has.cut (h.cut2.sub (Sub.p2 Sub.rf))).sub (Sub.p2 (Sub.p2 (Sub.p0 (Sub.p0 Sub.rf))))
theorem Has.glue3 {H : Hp} {p q r : Addr × HO} {B : U} {L : List U} (h : Has H ([p] :: [q] :: [r] :: B :: L)) : Has H ((p :: q :: r :: B) :: L) := Has.glue2 ((Has.glue (h.sub (Sub.p2 (Sub.p2 Sub.rf)))).sub (Sub.p1 (Sub.p1 (Sub.p0 Sub.rf))))
section
variable {K : PySem.W.Frag} {σ : St} {H H1 : Hp} {L : List U} {Q : VK} {QT : Bool → Hp → Prop} {QA : List V → Hp → Prop} {QS : St → Hp → Prop} {ta tb tc te tv td ty tx : TE} {t u c : TT} {tr : TA} {v w x y z : V} {xs ys : List V} {i j n m : Int} {a b p : Addr} {f : Str} {C dx : Addr} {fs : List (Str × V)} {nx bk ct : St → Hp → Prop} {rt : VK} {s1 s2 : TS} {A B : Prop} {k : Nat} {D : Ends}
/-! ### names, constants, operators -/
theorem x_var {k : Nat} (h : σ[k]? = some (some v)) (q : Q v H) : tVar k σ H Q := ⟨v, h, q⟩
theorem x_c (q : Q v H) : tC v σ H Q := q
theorem x_op {r : R2} (q : ta σ H fun x H1 => tb σ H1 fun y H2 => r x y H2 Q) : tOp r ta tb σ H Q := q
theorem x_un {r : V → Hp → VK → Prop} (q : ta σ H fun x H1 => r x H1 Q) : tUn r ta σ H Q := q
def rAddI : R2 := rI0 fun i j => .int (i + j)
def rSubI : R2 := rI0 fun i j => .int (i - j)
def rMulI : R2 := rI CMul fun i j => .int (i * j)
def rDivI : R2 := rI CDiv fun i j => .int (i / j)
def rModI : R2 := rI (fun _ j => 0 < j) fun i j => .int (i % j)
def rPowI : R2 := rI CPow fun i j => .int (i ^ j.toNat)
def rLtI : R2 := rI0 fun i j => .bl (decide (i < j))
def rLeI : R2 := rI0 fun i j => .bl (decide (i ≤ j))
def rGtI : R2 := rI0 fun i j => .bl (decide (j < i))
def rGeI : R2 := rI0 fun i j => .bl (decide (j ≤ i))
def rIsNo : R2 := fun x y H Q => y = .non ∧ Q (.bl (decide (x = .non))) H
def rNotNo : R2 := fun x y H Q => y = .non ∧ Q (.bl (!decide (x = .non))) H
theorem op_addI {X : Cx} : OpR X (binaryOp .Add) rAddI := op_add
theorem op_subI {X : Cx} : OpR X (binaryOp .Sub) rSubI := op_sub
theorem op_mulI {X : Cx} : OpR X (binaryOp .Mult) rMulI := op_mul
theorem op_divI {X : Cx} : OpR X (binaryOp .FloorDiv) rDivI := op_fdiv
theorem op_modI {X : Cx} : OpR X (binaryOp .Mod) rModI := op_mod
theorem op_powI {X : Cx} : OpR X (binaryOp .Pow) rPowI := op_pow
theorem op_ltI {X : Cx} : OpR X (compareOp .Lt) rLtI := op_lt
theorem op_leI {X : Cx} : OpR X (compareOp .LtE) rLeI := op_le
theorem op_gtI {X : Cx} : OpR X (compareOp .Gt) rGtI := op_gt
theorem op_geI {X : Cx} : OpR X (compareOp .GtE) rGeI := op_ge
theorem op_isNo {X : Cx} : OpR X (compareOp .Is) rIsNo := op_isN
theorem op_notNo {X : Cx} : OpR X (compareOp .IsNot) rNotNo := op_notN
theorem k_addI (q : Q (.int (i + j)) H) : rAddI (.int i) (.int j) H Q := ⟨i, j, rfl, rfl, q⟩
theorem k_subI (q : Q (.int (i - j)) H) : rSubI (.int i) (.int j) H Q := ⟨i, j, rfl, rfl, q⟩
theorem k_mulI (h : CMul i j) (q : Q (.int (i * j)) H) : rMulI (.int i) (.int j) H Q := ⟨i, j, rfl, rfl, h, q⟩
theorem k_divI (h : CDiv i j) (q : Q (.int (i / j)) H) : rDivI (.int i) (.int j) H Q := ⟨i, j, rfl, rfl, h, q⟩
theorem k_modI (h : 0 < j) (q : Q (.int (i % j)) H) : rModI (.int i) (.int j) H Q := ⟨i, j, rfl, rfl, h, q⟩
theorem k_powI (h : CPow i j) (q : Q (.int (i ^ j.toNat)) H) : rPowI (.int i) (.int j) H Q := ⟨i, j, rfl, rfl, h, q⟩
theorem k_ltI (q : Q (.bl (decide (i < j))) H) : rLtI (.int i) (.int j) H Q := ⟨i, j, rfl, rfl, q⟩
theorem k_leI (q : Q (.bl (decide (i ≤ j))) H) : rLeI (.int i) (.int j) H Q := ⟨i, j, rfl, rfl, q⟩
theorem k_gtI (q : Q (.bl (decide (j < i))) H) : rGtI (.int i) (.int j) H Q := ⟨i, j, rfl, rfl, q⟩
theorem k_geI (q : Q (.bl (decide (j ≤ i))) H) : rGeI (.int i) (.int j) H Q := ⟨i, j, rfl, rfl, q⟩
theorem k_isNo (q : Q (.bl (decide (x = .non))) H) : rIsNo x .non H Q := ⟨rfl, q⟩
theorem k_isNo0 (q : Q (.bl true) H) : rIsNo .non .non H Q := ⟨rfl, q⟩
theorem k_isNoI (q : Q (.bl false) H) : rIsNo (.int i) .non H Q := ⟨rfl, q⟩
theorem k_isNoR (q : Q (.bl false) H) : rIsNo (.ref a) .non H Q := ⟨rfl, q⟩
theorem k_notNo0 (q : Q (.bl false) H) : rNotNo .non .non H Q := ⟨rfl, q⟩
theorem k_notNoI (q : Q (.bl true) H) : rNotNo (.int i) .non H Q := ⟨rfl, q⟩
theorem k_notNoR (q : Q (.bl true) H) : rNotNo (.ref a) .non H Q := ⟨rfl, q⟩
theorem k_notNo (q : Q (.bl (!decide (x = .non))) H) : rNotNo x .non H Q := ⟨rfl, q⟩
theorem dI_eq : decide (V.int i = V.int j) = decide (i = j) := by
  by_cases h : i = j
  · subst h; simp
  · rw [decide_eq_false h, decide_eq_false fun q => h (V.int.inj q)]
theorem dB_eq {i j : Bool} : decide (V.bl i = V.bl j) = decide (i = j) := by
  by_cases h : i = j
  · subst h; simp
  · rw [decide_eq_false h, decide_eq_false fun q => h (V.bl.inj q)]
theorem dS_eq {i j : Str} : decide (V.str i = V.str j) = decide (i = j) := by
  by_cases h : i = j
  · subst h; simp
  · rw [decide_eq_false h, decide_eq_false fun q => h (V.str.inj q)]
theorem k_eqI (q : Q (.bl (decide (i = j))) H) : rEq (.int i) (.int j) H Q := ⟨rfl, by rw [dI_eq]; exact q⟩
theorem k_neI (q : Q (.bl (!decide (i = j))) H) : rNe (.int i) (.int j) H Q := ⟨rfl, by rw [dI_eq]; exact q⟩
theorem k_eqB {i j : Bool} (q : Q (.bl (decide (i = j))) H) : rEq (.bl i) (.bl j) H Q := ⟨rfl, by rw [dB_eq]; exact q⟩
theorem k_neB {i j : Bool} (q : Q (.bl (!decide (i = j))) H) : rNe (.bl i) (.bl j) H Q := ⟨rfl, by rw [dB_eq]; exact q⟩
theorem k_eqS {i j : Str} (q : Q (.bl (decide (i = j))) H) : rEq (.str i) (.str j) H Q := ⟨rfl, by rw [dS_eq]; exact q⟩
theorem k_neS {i j : Str} (q : Q (.bl (!decide (i = j))) H) : rNe (.str i) (.str j) H Q := ⟨rfl, by rw [dS_eq]; exact q⟩
theorem k_eqIN (q : Q (.bl false) H) : rEq (.int i) .non H Q := ⟨rfl, q⟩
theorem k_eqNI (q : Q (.bl false) H) : rEq .non (.int i) H Q := ⟨rfl, q⟩
theorem k_eqNN (q : Q (.bl true) H) : rEq .non .non H Q := ⟨rfl, q⟩
theorem k_neIN (q : Q (.bl true) H) : rNe (.int i) .non H Q := ⟨rfl, q⟩
theorem k_neNI (q : Q (.bl true) H) : rNe .non (.int i) H Q := ⟨rfl, q⟩
theorem k_neNN (q : Q (.bl false) H) : rNe .non .non H Q := ⟨rfl, q⟩
/-! ### tests -/
def kB (x : V) (H : Hp) (Q : Bool → Hp → Prop) : Prop := ∃ k, x = .bl k ∧ Q k H
theorem x_test (q : te σ H fun x H' => kB x H' QT) : tTest te σ H QT := q
theorem x_tB (q : te σ H fun x H' => kB x H' QT) : tB te σ H QT := q
theorem k_b {b : Bool} (q : QT b H) : kB (.bl b) H QT := ⟨b, rfl, q⟩
theorem x_and (q : t σ H fun c H1 => if c = true then u σ H1 QT else QT false H1) : tAnd t u σ H QT := q
theorem x_or (q : t σ H fun c H1 => if c = true then QT true H1 else u σ H1 QT) : tOr t u σ H QT := q
theorem x_not (q : t σ H fun c H1 => QT (!c) H1) : tNot t σ H QT := q
def kAndV (tb : TE) (σ : St) (x : V) (H1 : Hp) (Q : VK) : Prop := ∃ c, x = .bl c ∧ if c = true then tb σ H1 Q else Q (.bl false) H1
def kOrV (tb : TE) (σ : St) (x : V) (H1 : Hp) (Q : VK) : Prop := ∃ c, x = .bl c ∧ if c = true then Q (.bl true) H1 else tb σ H1 Q
def kNotV (x : V) (H1 : Hp) (Q : VK) : Prop := ∃ c, x = .bl c ∧ Q (.bl (!c)) H1
theorem x_andV (q : ta σ H fun x H1 => kAndV tb σ x H1 Q) : tAndV ta tb σ H Q := q
theorem x_orV (q : ta σ H fun x H1 => kOrV tb σ x H1 Q) : tOrV ta tb σ H Q := q
theorem x_notV (q : ta σ H fun x H1 => kNotV x H1 Q) : tNotV ta σ H Q := q
theorem k_andV {c : Bool} (q : if c = true then tb σ H Q else Q (.bl false) H) : kAndV tb σ (.bl c) H Q := ⟨c, rfl, q⟩
theorem k_orV {c : Bool} (q : if c = true then Q (.bl true) H else tb σ H Q) : kOrV tb σ (.bl c) H Q := ⟨c, rfl, q⟩
theorem k_notV {c : Bool} (q : Q (.bl (!c)) H) : kNotV (.bl c) H Q := ⟨c, rfl, q⟩
theorem k_notVt (q : Q (.bl false) H) : kNotV (.bl true) H Q := ⟨true, rfl, q⟩
theorem k_notVf (q : Q (.bl true) H) : kNotV (.bl false) H Q := ⟨false, rfl, q⟩
theorem x_ifE (q : t σ H fun c H1 => if c = true then ta σ H1 Q else tb σ H1 Q) : tIf t ta tb σ H Q := q
def kChain (r' : R2) (tc : TE) (σ : St) (y z : V) (H3 : Hp) (Q : VK) : Prop := ∃ k, z = .bl k ∧ (if k = true then tc σ H3 fun w' H4 => r' y w' H4 Q else Q (.bl false) H3)
theorem x_chain {r r' : R2} (q : ta σ H fun x H1 => tb σ H1 fun y H2 => r x y H2 fun z H3 => kChain r' tc σ y z H3 Q) : tChain r r' ta tb tc σ H Q := q
theorem k_chain {r' : R2} {c : Bool} (q : if c = true then tc σ H fun w' H4 => r' y w' H4 Q else Q (.bl false) H) : kChain r' tc σ y (.bl c) H Q := ⟨c, rfl, q⟩
theorem ifT (q : A) : if true = true then A else B := by rw [if_pos rfl]; exact q
theorem ifF (q : B) : if false = true then A else B := by rw [if_neg Bool.false_ne_true]; exact q
theorem ifNT (q : B) : if (!true) = true then A else B := ifF q
theorem ifNF (q : A) : if (!false) = true then A else B := ifT q
theorem ifY {c : Bool} (h : c = true) (q : A) : if c = true then A else B := by rw [if_pos h]; exact q
theorem ifN {c : Bool} (h : c = false) (q : B) : if c = true then A else B := by rw [h, if_neg Bool.false_ne_true]; exact q
theorem ifB {c : Bool} (h : c = true → A) (g : c = false → B) : if c = true then A else B := by
  cases c with
  | true => rw [if_pos rfl]; exact h rfl
  | false => rw [if_neg Bool.false_ne_true]; exact g rfl
theorem ifD {c : Prop} [Decidable c] (h : c → A) (g : ¬ c → B) : if decide c = true then A else B := ifB (fun q => h (of_decide_eq_true q)) fun q => g (of_decide_eq_false q)
theorem ifE {c : Prop} [Decidable c] (h : ¬ c → A) (g : c → B) : if (!decide c) = true then A else B := ifB (fun q => h (by simpa using q)) fun q => g (by simpa using q)
/-! ### statements -/
theorem x_seq (q : s1 ⟨s2 ⟨nx, rt, bk, ct⟩, rt, bk, ct⟩ σ H) : tSeq s1 s2 ⟨nx, rt, bk, ct⟩ σ H := q
theorem x_next (q : nx σ H) : tNext ⟨nx, rt, bk, ct⟩ σ H := q
theorem x_brk (q : bk σ H) : tBreak ⟨nx, rt, bk, ct⟩ σ H := q
theorem x_ct (q : ct σ H) : tCont ⟨nx, rt, bk, ct⟩ σ H := q
theorem x_drop (q : te σ H fun _ H1 => nx σ H1) : tDrop te ⟨nx, rt, bk, ct⟩ σ H := q
theorem x_ret (q : te σ H rt) : tRet te ⟨nx, rt, bk, ct⟩ σ H := q
theorem x_retN (q : rt .non H) : tRetN ⟨nx, rt, bk, ct⟩ σ H := q
theorem x_if (q : c σ H fun b H1 => if b = true then s1 ⟨nx, rt, bk, ct⟩ σ H1 else s2 ⟨nx, rt, bk, ct⟩ σ H1) : tIfS c s1 s2 ⟨nx, rt, bk, ct⟩ σ H := q
theorem x_asg {g : TG} (q : te σ H fun x H1 => g x σ H1 nx) : tAsg te g ⟨nx, rt, bk, ct⟩ σ H := q
theorem x_gname {k : Nat} (q : QS (σ.set k (some v)) H) : gName k v σ H QS := q
theorem x_gtup {k : Nat} {g : TGs} (hp : H a = some (.tup xs)) (hl : xs.length = k) (q : g xs σ H QS) : gTup K k g (.ref a) σ H QS := ⟨a, xs, rfl, SqT.of hp, hl, q⟩
theorem x_gcons {g : TG} {gs : TGs} (q : g v σ H fun σ' H' => gs xs σ' H' QS) : gCons g gs (v :: xs) σ H QS := ⟨v, xs, rfl, q⟩
theorem x_gnil (q : QS σ H) : gNil [] σ H QS := ⟨rfl, q⟩
theorem x_gsub {s : TSet} (q : ta σ H fun o H1 => tb σ H1 fun i H2 => s o i v H2 fun H3 => QS σ H3) : gSub ta tb s v σ H QS := q
theorem k_setL {Q : Hp → Prop} {k : Nat} {M : List U} (hp : H p = some (.lst xs)) (hk : ixN xs.length i = some k) (hh : Has (upd H p (.lst (xs.set k v))) M) (q : ∀ H', Has H' M → Q H') : rSetL (.ref p) (.int i) v H Q := ⟨p, xs, i, k, rfl, rfl, hp, hk, q _ hh⟩
def kPar (i j : Nat) (nx : St → Hp → Prop) (σ : St) (vs : List V) (H1 : Hp) : Prop := ∃ v w, vs = [v, w] ∧ nx ((σ.set i (some v)).set j (some w)) H1
theorem x_par {i j : Nat} (q : tr σ H fun vs H1 => kPar i j nx σ vs H1) : tPar i j tr ⟨nx, rt, bk, ct⟩ σ H := q
theorem k_par {i j : Nat} (q : nx ((σ.set i (some v)).set j (some w)) H) : kPar i j nx σ [v, w] H := ⟨v, w, rfl, q⟩
/-! ### fields -/
def kFld (K : PySem.W.Frag) (f : Str) (x : V) (H1 : Hp) (Q : VK) : Prop := ∃ a C dx fs v, x = .ref a ∧ H1 a = some (.ins C dx fs) ∧ Cls K C ∧ NoAttr K C f ∧ fs.lookup f = some v ∧ Q v H1
theorem x_fld (q : ta σ H fun x H1 => kFld K f x H1 Q) : tFld K ta f σ H Q := q
theorem k_fld (hp : H a = some (.ins C dx fs)) (hc : Cls K C) (hn : NoAttr K C f) (hl : fs.lookup f = some v) (q : Q v H) : kFld K f (.ref a) H Q := ⟨a, C, dx, fs, v, rfl, hp, hc, hn, hl, q⟩
def kSFld (K : PySem.W.Frag) (f : Str) (nx : St → Hp → Prop) (σ : St) (y x : V) (H2 : Hp) : Prop := ∃ a C dx fs, x = .ref a ∧ H2 a = some (.ins C dx fs) ∧ Cls K C ∧ NoAttr K C f ∧ fs.length < 1000 ∧ nx σ (upd H2 a (.ins C dx (putF f y fs)))
theorem x_sfld (q : tv σ H fun y H1 => ta σ H1 fun x H2 => kSFld K f nx σ y x H2) : sFld K ta tv f ⟨nx, rt, bk, ct⟩ σ H := q
theorem k_sfld {M : List U} {gs : List (Str × V)} (hp : H a = some (.ins C dx fs)) (hc : Cls K C) (hn : NoAttr K C f) (hl : fs.length < 1000) (he : putF f y fs = gs) (hh : Has (upd H a (.ins C dx gs)) M) (q : ∀ H', Has H' M → nx σ H') : kSFld K f nx σ y (.ref a) H :=
  ⟨a, C, dx, fs, rfl, hp, hc, hn, hl, by rw [he]; exact q _ hh⟩
/-! ### lists, tuples -/
theorem x_nil (q : QA [] H) : tNil σ H QA := q
theorem x_cons (q : ta σ H fun x H1 => tr σ H1 fun xs H2 => QA (x :: xs) H2) : tCons ta tr σ H QA := q
def kLst (xs : List V) (H1 : Hp) (Q : VK) : Prop := xs.length ≤ sizeLine ∧ ∀ p, H1 p = none → Q (.ref p) (upd H1 p (.lst xs))
def kTupN (xs : List V) (H1 : Hp) (Q : VK) : Prop := xs.length ≤ sizeLine ∧ ∀ p, H1 p = none → Q (.ref p) (upd H1 p (.tup xs))
theorem x_lst (q : tr σ H fun xs H1 => kLst xs H1 Q) : tLst tr σ H Q := q
theorem x_tup (q : tr σ H fun xs H1 => kTupN xs H1 Q) : tTup tr σ H Q := q
theorem k_lst (hh : Has H L) (hl : xs.length ≤ sizeLine) (q : ∀ p H', Has H' ([(p, .lst xs)] :: L) → Q (.ref p) H') : kLst xs H Q := ⟨hl, fun p hp => q p _ (hh.nw hp)⟩
theorem k_tupN (hh : Has H L) (hl : xs.length ≤ sizeLine) (q : ∀ p H', Has H' ([(p, .tup xs)] :: L) → Q (.ref p) H') : kTupN xs H Q := ⟨hl, fun p hp => q p _ (hh.nw hp)⟩
theorem k_ixL (hp : H p = some (.lst xs)) (hi : atI xs i = some v) (q : Q v H) : rIxL K (.ref p) (.int i) H Q := ⟨p, xs, i, v, rfl, rfl, SqL.of hp, hi, q⟩
theorem k_ixT (hp : H p = some (.tup xs)) (hi : atI xs i = some v) (q : Q v H) : rIxT K (.ref p) (.int i) H Q := ⟨p, xs, i, v, rfl, rfl, SqT.of hp, hi, q⟩
theorem at_n {α : Type} {zs : List α} {d : Int} {v : α} (h0 : 0 ≤ d) (h : zs[d.toNat]? = some v) : atI zs d = some v := by
  obtain ⟨j, rfl⟩ := Int.eq_ofNat_of_zero_le h0
  exact atI_nat h
def kTy (K : PySem.W.Frag) (T : String) (x : V) (H1 : Hp) (A : Prop) : Prop := tyV K T x H1 ∧ A
theorem x_bm {T : String} {r : V → List V → Hp → VK → Prop} (q : ta σ H fun x H1 => kTy K T x H1 (tr σ H1 fun xs H2 => r x xs H2 Q)) : tBM K T r ta tr σ H Q := q
theorem x_bm0 {T : String} {r : V → List V → Hp → VK → Prop} (q : ta σ H fun x H1 => kTy K T x H1 (r x [] H1 Q)) : tBM0 K T r ta σ H Q := q
theorem k_tyL (hp : H a = some (.lst xs)) (q : A) : kTy K "list" (.ref a) H A := ⟨.inl ⟨rfl, _, SqL.of hp⟩, q⟩
theorem k_app {M : List U} (hp : H a = some (.lst xs)) (hl : xs.length < sizeLine) (hh : Has (upd H a (.lst (xs ++ [v]))) M) (q : ∀ H', Has H' M → Q .non H') : rAppend (.ref a) [v] H Q := ⟨a, xs, v, rfl, rfl, hp, hl, q _ hh⟩
theorem k_pop {M : List U} (hp : H a = some (.lst xs)) (hl : xs[xs.length - 1]? = some y) (hh : Has (upd H a (.lst xs.dropLast)) M) (q : ∀ H', Has H' M → Q y H') : rPop (.ref a) [] H Q := ⟨a, xs, y, rfl, rfl, hp, hl, q _ hh⟩
theorem k_cat (hh : Has H L) (hp : H a = some (.lst xs)) (hq : H b = some (.lst ys)) (hl : xs.length + ys.length ≤ sizeLine) (q : ∀ p H', Has H' ([(p, .lst (xs ++ ys))] :: L) → Q (.ref p) H') : rCat (.ref a) (.ref b) H Q :=
  ⟨a, b, xs, ys, rfl, rfl, hp, hq, hl, fun p hp => q p _ (hh.nw hp)⟩
theorem k_rep (hh : Has H L) (hp : H a = some (.lst [v])) (h0 : 0 ≤ i) (h1 : i ≤ 100000) (q : ∀ p H', Has H' ([(p, .lst (List.replicate i.toNat v))] :: L) → Q (.ref p) H') : rRep (.ref a) (.int i) H Q := by
  have e : (List.replicate i.toNat [v]).flatten = List.replicate i.toNat v := by
    generalize i.toNat = n
    induction n with
    | zero => rfl
    | succ n ih => rw [List.replicate_succ, List.flatten_cons, ih]; rfl
  refine ⟨a, i, [v], rfl, rfl, hp, by omega, by omega, ?_, fun p hp => ?_⟩
  · rw [sizeLine_eq]; show 1 * i.toNat ≤ _; omega
  · rw [e]; exact q p _ (hh.nw hp)
def kRg (Qr : Int → Int → Hp → Prop) (x : V) (H1 : Hp) : Prop := ∃ n, x = .int n ∧ Qr 0 n H1
def kLstRg (a b : Int) (H1 : Hp) (Q : VK) : Prop := RgOk a b ∧ ∀ q, H1 q = none → Q (.ref q) (upd H1 q (.lst (rgV a b)))
theorem x_rg1 {Qr : Int → Int → Hp → Prop} (q : ta σ H fun x H1 => kRg Qr x H1) : tRg1 ta σ H Qr := q
theorem k_rg1 {Qr : Int → Int → Hp → Prop} (q : Qr 0 i H) : kRg Qr (.int i) H := ⟨i, rfl, q⟩
theorem x_lstRg {te : St → Hp → (Int → Int → Hp → Prop) → Prop} (q : te σ H fun a b H1 => kLstRg a b H1 Q) : tLstRg te σ H Q := q
def rgI (n : Int) : List Int := (List.range n.toNat).map fun (i : Nat) => (i : Int)
theorem rgV_I (n : Int) : rgV 0 n = (rgI n).map V.int := by
  unfold rgV rgI
  rw [List.map_map, Int.sub_zero]
  refine List.map_congr_left fun i _ => ?_
  show V.int (0 + (i : Int)) = V.int i
  rw [Int.zero_add]
theorem rgI_len (n : Int) : (rgI n).length = n.toNat := by unfold rgI; rw [List.length_map, List.length_range]
theorem k_lstRg (hh : Has H L) (h0 : 0 ≤ n) (h1 : n ≤ 100000) (q : ∀ p H', Has H' ([(p, .lst ((rgI n).map V.int))] :: L) → Q (.ref p) H') : kLstRg 0 n H Q :=
  ⟨RgOk.of_le (by omega) (by omega) (by omega) h0, fun p hp => by rw [rgV_I]; exact q p _ (hh.nw hp)⟩
/-! ### calls of built-ins -/
theorem x_cb {r : List V → Hp → VK → Prop} (q : tr σ H fun vs H1 => r vs H1 Q) : tCB r tr σ H Q := q
def rLenQ (K : PySem.W.Frag) : List V → Hp → VK → Prop := fun xs H Q => ∃ p ys, xs = [.ref p] ∧ (SqL K H p ys ∨ SqT K H p ys) ∧ Q (.int ys.length) H
theorem call_lenQ {X : Cx} : CallR X (.builtin "len") (rLenQ X.K) := call_len_seq
theorem k_lenL (hp : H p = some (.lst xs)) (q : Q (.int xs.length) H) : rLenQ K [.ref p] H Q := ⟨p, xs, rfl, .inl (SqL.of hp), q⟩
theorem k_lenT (hp : H p = some (.tup xs)) (q : Q (.int xs.length) H) : rLenQ K [.ref p] H Q := ⟨p, xs, rfl, .inr (SqT.of hp), q⟩
def rLenK : List V → Hp → VK → Prop := fun xs H Q => ∃ a kvs, xs = [V.ref a] ∧ H a = some (.dK kvs) ∧ Q (.int kvs.length) H
theorem call_lenK {X : Cx} : CallR X (.builtin "len") rLenK := call_lenD
theorem k_lenK {kvs : List (Key × V)} (hp : H p = some (.dK kvs)) (q : Q (.int kvs.length) H) : rLenK [.ref p] H Q := ⟨p, kvs, rfl, hp, q⟩
theorem k_isi {ta' tb' : String} {r : Bool} (hx : TyOf K H x (.type ta')) (hk : kitB ta' tb' = some r) (q : Q (.bl r) H) : rIsi K [x, .ty tb'] H Q := ⟨x, .ty tb', .type ta', .type tb', r, rfl, .ty tb', .base hx, kit_ty hk, q⟩
theorem kb_ii : kitB "int" "int" = some true := by decide +kernel
theorem kb_ib : kitB "int" "bool" = some false := by decide +kernel
theorem kb_bi : kitB "bool" "int" = some true := by decide +kernel
theorem kb_bb : kitB "bool" "bool" = some true := by decide +kernel
theorem kb_ll : kitB "list" "list" = some true := by decide +kernel
theorem kb_tt : kitB "tuple" "tuple" = some true := by decide +kernel
theorem k_isiII (q : Q (.bl true) H) : rIsi K [.int i, .ty "int"] H Q := k_isi (.int i) kb_ii q
theorem k_isiIB (q : Q (.bl false) H) : rIsi K [.int i, .ty "bool"] H Q := k_isi (.int i) kb_ib q
theorem k_isiBI {b : Bool} (q : Q (.bl true) H) : rIsi K [.bl b, .ty "int"] H Q := k_isi (.bl b) kb_bi q
theorem k_isiBB {b : Bool} (q : Q (.bl true) H) : rIsi K [.bl b, .ty "bool"] H Q := k_isi (.bl b) kb_bb q
theorem k_isiLL (hp : H p = some (.lst xs)) (q : Q (.bl true) H) : rIsi K [.ref p, .ty "list"] H Q := k_isi (.lst hp) kb_ll q
theorem k_isiTT (hp : H p = some (.tup xs)) (q : Q (.bl true) H) : rIsi K [.ref p, .ty "tuple"] H Q := k_isi (.tup hp) kb_tt q
theorem k_all {bs : List Bool} (hp : H p = some (.lst (bs.map V.bl))) (q : Q (.bl (bs.all id)) H) : rAll K [.ref p] H Q := ⟨p, bs, rfl, SqL.of hp, q⟩
theorem k_sum {ns : List Int} (hp : H p = some (.lst (ns.map V.int))) (q : Q (.int ns.sum) H) : rSum K [.ref p] H Q := ⟨p, ns, rfl, SqL.of hp, q⟩
def rSortD : List V → Hp → VK → Prop := fun xs H Q => ∃ (a : Addr) (kvs : List (Key × V)) (ks : List Int), xs = [.ref a] ∧ Rd H a (.dK kvs) ∧ kvs.map (·.1) = ks.map Sum.inl ∧ ks.length < 64 ∧
    ∀ (ys : List Int) (p : Addr), ys.Perm ks → ys.Pairwise (· ≤ ·) → H p = none → Q (.ref p) (upd H p (.lst (ys.map V.int)))
theorem call_sortD {X : Cx} (hc : X.calm = true) : CallR X (.builtin "sorted") rSortD := call_sortedDI hc
def rListOf (K : PySem.W.Frag) : List V → Hp → VK → Prop := fun xs H Q => ∃ p ys, xs = [.ref p] ∧ (SqL K H p ys ∨ SqT K H p ys) ∧ ∀ l, H l = none → Q (.ref l) (upd H l (.lst ys))
theorem call_listOf {X : Cx} : CallR X (.type "list") (rListOf X.K) := call_list_of
theorem k_listOf (hh : Has H L) (hp : H p = some (.lst xs)) (q : ∀ p H', Has H' ([(p, .lst xs)] :: L) → Q (.ref p) H') : rListOf K [.ref p] H Q := ⟨p, xs, rfl, .inl (SqL.of hp), fun l hl => q l _ (hh.nw hl)⟩
theorem k_listOfS (hh : Has H L) (hp : SqL K H p xs) (q : ∀ p H', Has H' ([(p, .lst xs)] :: L) → Q (.ref p) H') : rListOf K [.ref p] H Q := ⟨p, xs, rfl, .inl hp, fun l hl => q l _ (hh.nw hl)⟩
def rDictP (K : PySem.W.Frag) : List V → Hp → VK → Prop := fun xs H Q => ∃ (a : Addr) (ps : List Addr) (kvs : List (Key × V)), xs = [.ref a] ∧ SqL K H a (ps.map V.ref) ∧ Paired (fun p kv => SqT K H p [kV kv.1, kv.2]) ps kvs ∧
    ∀ p, H p = none → Q (.ref p) (upd H p (.dK (mergeK [] kvs)))
theorem call_dictPr {X : Cx} (hc : X.calm = true) : CallR X (.type "dict") (rDictP X.K) := call_dictP hc
theorem k_sortI {ns : List Int} (hh : Has H L) (hp : H p = some (.lst (ns.map V.int))) (q : ∀ (ys : List Int) p H', ys.Perm ns → ys.Pairwise (· ≤ ·) → Has H' ([(p, .lst (ys.map V.int))] :: L) → Q (.ref p) H') : rSortedI K [.ref p] H Q :=
  ⟨p, ns, rfl, SqL.of hp, fun ys l h1 h2 hl => q ys l _ h1 h2 (hh.nw hl)⟩
/-! ### own calls -/
theorem x_call {sp : Sp} {dvs : List V} {E : XK} (q : tr σ H fun vs H1 => sp (vs ++ dvs) H1 Q E) : tCall sp dvs E tr σ H Q := q
theorem x_call0 {sp : Sp} {E : XK} (q : tr σ H fun vs H1 => sp vs H1 Q E) : tCall sp [] E tr σ H Q := by
  have e : (fun vs H1 => sp (vs ++ []) H1 Q E) = fun vs H1 => sp vs H1 Q E := by funext vs H1; rw [List.append_nil]
  show tr σ H fun vs H1 => sp (vs ++ []) H1 Q E
  rw [e]
  exact q
def kMeth (C : Addr) (m : Str) (sp : Sp) (dvs : List V) (E : XK) (t : TA) (σ : St) (x : V) (H1 : Hp) (Q : VK) : Prop := ∃ a dx fs, x = .ref a ∧ H1 a = some (.ins C dx fs) ∧ fs.lookup m = none ∧ t σ H1 fun vs H2 => sp (x :: (vs ++ dvs)) H2 Q E
theorem x_meth {m : Str} {sp : Sp} {dvs : List V} {E : XK} (q : ta σ H fun x H1 => kMeth C m sp dvs E tr σ x H1 Q) : tMeth C m sp dvs E ta tr σ H Q := q
theorem k_meth {m : Str} {sp : Sp} {dvs : List V} {E : XK} (hp : H a = some (.ins C dx fs)) (hl : fs.lookup m = none) (q : tr σ H fun vs H2 => sp (.ref a :: (vs ++ dvs)) H2 Q E) : kMeth C m sp dvs E tr σ (.ref a) H Q := ⟨a, dx, fs, rfl, hp, hl, q⟩
theorem k_meth0 {m : Str} {sp : Sp} {E : XK} (hp : H a = some (.ins C dx fs)) (hl : fs.lookup m = none) (q : tr σ H fun vs H2 => sp (.ref a :: vs) H2 Q E) : kMeth C m sp [] E tr σ (.ref a) H Q := by
  have e : (fun vs H2 => sp (.ref a :: (vs ++ [])) H2 Q E) = fun vs H2 => sp (.ref a :: vs) H2 Q E := by funext vs H1; rw [List.append_nil]
  refine ⟨a, dx, fs, rfl, hp, hl, ?_⟩
  rw [e]
  exact q
def kMake (C : Addr) (sp : Sp) (dvs : List V) (E : XK) (vs : List V) (H1 : Hp) (Q : VK) : Prop := ∀ x dx, H1 x = none → H1 dx = none → dx ≠ x → sp (.ref x :: (vs ++ dvs)) (upd (upd H1 dx (.own x)) x (.ins C dx [])) (fun v H2 => v = .non ∧ Q (.ref x) H2) E
theorem x_make {sp : Sp} {dvs : List V} {E : XK} (q : tr σ H fun vs H1 => kMake C sp dvs E vs H1 Q) : tMake C sp dvs E tr σ H Q := q
theorem k_make {sp : Sp} {dvs vs : List V} {E : XK} (hh : Has H L) (q : ∀ x dx H', Has H' ([(x, .ins C dx [])] :: L) → sp (.ref x :: (vs ++ dvs)) H' (fun v H2 => v = .non ∧ Q (.ref x) H2) E) : kMake C sp dvs E vs H Q :=
  fun x dx hx hd ne => q x dx _ ((hh.nw hd (o := .own x)).nw (p := x) (o := .ins C dx []) (by rw [upd_ne (Ne.symm ne)]; exact hx) |>.sub (Sub.p0 (Sub.skip Sub.rf)))
theorem k_make0 {sp : Sp} {vs : List V} {E : XK} (hh : Has H L) (q : ∀ x dx H', Has H' ([(x, .ins C dx [])] :: L) → sp (.ref x :: vs) H' (fun v H2 => v = .non ∧ Q (.ref x) H2) E) : kMake C sp [] E vs H Q :=
  k_make hh (by rw [List.append_nil]; exact q)
/-! ### dicts with int keys, with keys that are pairs of ints -/
section
variable {κ κ' : Type} [DecidableEq κ] [DecidableEq κ']
def mk (g : κ → κ') (m : List (κ × V)) : List (κ' × V) := m.map fun p => (g p.1, p.2)
theorem mk_len (g : κ → κ') (m : List (κ × V)) : (mk g m).length = m.length := List.length_map ..
theorem mk_keys (g : κ → κ') (m : List (κ × V)) : (mk g m).map (·.1) = (m.map (·.1)).map g := by
  unfold mk
  rw [List.map_map, List.map_map]
  rfl
theorem mk_val {g : κ → κ'} (hg : ∀ a b, g a = g b → a = b) (m : List (κ × V)) (k : κ) : valV (mk g m) (g k) = valV m k := by
  induction m with
  | nil => rfl
  | cons p r ih =>
    show valV ((g p.1, p.2) :: mk g r) (g k) = _
    by_cases h : p.1 = k
    · rw [valV_pos (p := (g p.1, p.2)) (congrArg g h), valV_pos h]
    · rw [valV_neg (p := (g p.1, p.2)) (fun q => h (hg _ _ q)), valV_neg h, ih]
theorem mk_drop {g : κ → κ'} (hg : ∀ a b, g a = g b → a = b) (m : List (κ × V)) (k : κ) : dropK (mk g m) (g k) = mk g (dropK m k) := by
  induction m with
  | nil => rfl
  | cons p r ih =>
    show dropK ((g p.1, p.2) :: mk g r) (g k) = _
    by_cases h : p.1 = k
    · rw [dropK_pos (p := (g p.1, p.2)) (congrArg g h), dropK_pos h, ih]
    · rw [dropK_neg (p := (g p.1, p.2)) (fun q => h (hg _ _ q)), dropK_neg h, ih]
      rfl
theorem mk_any {g : κ → κ'} (hg : ∀ a b, g a = g b → a = b) (m : List (κ × V)) (k : κ) : ((mk g m).any fun kv => decide (kv.1 = g k)) = m.any fun kv => decide (kv.1 = k) := by
  rw [valV_any, valV_any, mk_val hg]
theorem mk_put {g : κ → κ'} (hg : ∀ a b, g a = g b → a = b) (m : List (κ × V)) (k : κ) (v : V) : putK (mk g m) (g k) v = mk g (putK m k v) := by
  unfold putK
  rw [mk_any hg]
  split
  · unfold mk
    rw [List.map_map, List.map_map]
    refine List.map_congr_left fun p _ => ?_
    show (if g p.1 = g k then (g p.1, v) else (g p.1, p.2)) = _
    by_cases h : p.1 = k
    · rw [if_pos (congrArg g h)]
      show _ = (g (if p.1 = k then (p.1, v) else p).1, (if p.1 = k then (p.1, v) else p).2)
      rw [if_pos h]
    · rw [if_neg (fun q => h (hg _ _ q))]
      show _ = (g (if p.1 = k then (p.1, v) else p).1, (if p.1 = k then (p.1, v) else p).2)
      rw [if_neg h]
  · unfold mk
    rw [List.map_append]
    rfl
end
def g1 : Int → Key := Sum.inl
def g2 (p : Int × Int) : List Key := [Sum.inl p.1, Sum.inl p.2]
theorem g1_inj : ∀ a b, g1 a = g1 b → a = b := fun _ _ h => Sum.inl.inj h
theorem g2_inj : ∀ a b, g2 a = g2 b → a = b := fun a b h => by
  obtain ⟨a1, a2⟩ := a
  obtain ⟨b1, b2⟩ := b
  unfold g2 at h
  simp only [List.cons.injEq, Sum.inl.injEq, and_true] at h
  rw [h.1, h.2]
abbrev dI (m : List (Int × V)) : HO := .dK (mk g1 m)
abbrev dP (m : List ((Int × Int) × V)) : HO := .dT (mk g2 m)
def kDGet (x y : V) (H2 : Hp) (Q : VK) : Prop := ∃ a v, x = .ref a ∧ DGet H2 a y (some v) ∧ Q v H2
theorem x_dget (q : td σ H fun x H1 => ty σ H1 fun y H2 => kDGet x y H2 Q) : tDGet td ty σ H Q := q
theorem dget_I {mm : List (Int × V)} (hp : H a = some (dI mm)) : DGet H a (.int i) (valV mm i) := by
  rw [← mk_val g1_inj mm i]
  exact DGet.k (k := g1 i) hp
theorem dget_P {mm : List ((Int × Int) × V)} (hp : H a = some (dP mm)) (hb : H b = some (.tup [.int i, .int j])) : DGet H a (.ref b) (valV mm (i, j)) := by
  rw [← mk_val g2_inj mm (i, j)]
  exact DGet.t (k := g2 (i, j)) hp hb
theorem k_dget {mm : List (Int × V)} (hp : H a = some (dI mm)) (hv : valV mm i = some v) (q : Q v H) : kDGet (.ref a) (.int i) H Q := ⟨a, v, rfl, hv ▸ dget_I hp, q⟩
theorem k_dgetP {mm : List ((Int × Int) × V)} (hp : H a = some (dP mm)) (hb : H b = some (.tup [.int i, .int j])) (hv : valV mm (i, j) = some v) (q : Q v H) : kDGet (.ref a) (.ref b) H Q := ⟨a, v, rfl, hv ▸ dget_P hp hb, q⟩
def kDIn (y x : V) (H2 : Hp) (Q : VK) : Prop := ∃ a o, x = .ref a ∧ DGet H2 a y o ∧ Q (.bl o.isSome) H2
def kDNot (y x : V) (H2 : Hp) (Q : VK) : Prop := ∃ a o, x = .ref a ∧ DGet H2 a y o ∧ Q (.bl (!o.isSome)) H2
theorem x_din (q : ty σ H fun y H1 => td σ H1 fun x H2 => kDIn y x H2 Q) : tDIn ty td σ H Q := q
theorem x_dnot (q : ty σ H fun y H1 => td σ H1 fun x H2 => kDNot y x H2 Q) : tDNotIn ty td σ H Q := q
theorem k_din {mm : List (Int × V)} (hp : H a = some (dI mm)) (q : Q (.bl (valV mm i).isSome) H) : kDIn (.int i) (.ref a) H Q := ⟨a, _, rfl, dget_I hp, q⟩
theorem k_dnot {mm : List (Int × V)} (hp : H a = some (dI mm)) (q : Q (.bl (!(valV mm i).isSome)) H) : kDNot (.int i) (.ref a) H Q := ⟨a, _, rfl, dget_I hp, q⟩
theorem k_dinP {mm : List ((Int × Int) × V)} (hp : H a = some (dP mm)) (hb : H b = some (.tup [.int i, .int j])) (q : Q (.bl (valV mm (i, j)).isSome) H) : kDIn (.ref b) (.ref a) H Q := ⟨a, _, rfl, dget_P hp hb, q⟩
theorem k_dnotP {mm : List ((Int × Int) × V)} (hp : H a = some (dP mm)) (hb : H b = some (.tup [.int i, .int j])) (q : Q (.bl (!(valV mm (i, j)).isSome)) H) : kDNot (.ref b) (.ref a) H Q := ⟨a, _, rfl, dget_P hp hb, q⟩
def kDPut (nx : St → Hp → Prop) (σ : St) (v x y : V) (H3 : Hp) : Prop := ∃ a H4, x = .ref a ∧ DPut H3 a y v H4 ∧ nx σ H4
theorem x_dput (q : tv σ H fun v H1 => td σ H1 fun x H2 => ty σ H2 fun y H3 => kDPut nx σ v x y H3) : sDPut td ty tv ⟨nx, rt, bk, ct⟩ σ H := q
theorem k_dput {mm : List (Int × V)} {M : List U} (hp : H a = some (dI mm)) (hl : mm.length < sizeLine) (hh : Has (upd H a (dI (putK mm i v))) M) (q : ∀ H', Has H' M → nx σ H') : kDPut nx σ v (.ref a) (.int i) H := by
  refine ⟨a, _, rfl, DPut.k (k := g1 i) hp (by rw [mk_len]; exact hl), ?_⟩
  rw [mk_put g1_inj]
  exact q _ hh
theorem k_dputP {mm : List ((Int × Int) × V)} {M : List U} (hp : H a = some (dP mm)) (hb : H b = some (.tup [.int i, .int j])) (hl : mm.length < sizeLine) (hh : Has (upd H a (dP (putK mm (i, j) v))) M) (q : ∀ H', Has H' M → nx σ H') : kDPut nx σ v (.ref a) (.ref b) H := by
  refine ⟨a, _, rfl, DPut.t (k := g2 (i, j)) hp hb (by rw [mk_len]; exact hl), ?_⟩
  rw [mk_put g2_inj]
  exact q _ hh
def kIsD (x : V) (H1 : Hp) (F : Addr → Prop) : Prop := ∃ a, x = .ref a ∧ IsD H1 a ∧ F a
theorem k_isD {kvs : List (Key × V)} {F : Addr → Prop} (hp : H a = some (.dK kvs)) (q : F a) : kIsD (.ref a) H F := ⟨a, rfl, .inl ⟨kvs, .inl hp⟩, q⟩
theorem k_isDT {kvs : List (List Key × V)} {F : Addr → Prop} (hp : H a = some (.dT kvs)) (q : F a) : kIsD (.ref a) H F := ⟨a, rfl, .inr ⟨kvs, .inl hp⟩, q⟩
def kDPop (a : Addr) (y : V) (H2 : Hp) (Q : VK) : Prop := ∃ kvs k v, H2 a = some (.dK kvs) ∧ y = kV k ∧ valV kvs k = some v ∧ Q v (upd H2 a (.dK (dropK kvs k)))
theorem x_dpop1 (q : td σ H fun x H1 => kIsD x H1 fun a => ty σ H1 fun y H2 => kDPop a y H2 Q) : tDPop1 td ty σ H Q := q
theorem k_dpop1 {mm : List (Int × V)} {M : List U} (hp : H a = some (dI mm)) (hv : valV mm i = some v) (hh : Has (upd H a (dI (dropK mm i))) M) (q : ∀ H', Has H' M → Q v H') : kDPop a (.int i) H Q := by
  refine ⟨_, g1 i, v, hp, rfl, by rw [mk_val g1_inj]; exact hv, ?_⟩
  rw [mk_drop g1_inj]
  exact q _ hh
def kDGet2 (a : Addr) (y z : V) (H3 : Hp) (Q : VK) : Prop := ∃ o, DGet H3 a y o ∧ Q (o.getD z) H3
theorem x_dget2 (q : td σ H fun x H1 => kIsD x H1 fun a => ty σ H1 fun y H2 => tx σ H2 fun z H3 => kDGet2 a y z H3 Q) : tDGet2 td ty tx σ H Q := q
theorem k_dget2 {mm : List (Int × V)} (hp : H a = some (dI mm)) (q : Q ((valV mm i).getD z) H) : kDGet2 a (.int i) z H Q := ⟨_, dget_I hp, q⟩
theorem k_dget2P {mm : List ((Int × Int) × V)} (hp : H a = some (dP mm)) (hb : H b = some (.tup [.int i, .int j])) (q : Q ((valV mm (i, j)).getD z) H) : kDGet2 a (.ref b) z H Q := ⟨_, dget_P hp hb, q⟩
def kDGet1 (a : Addr) (y : V) (H3 : Hp) (Q : VK) : Prop := ∃ o, DGet H3 a y o ∧ Q (o.getD .non) H3
theorem x_dget1 (q : td σ H fun x H1 => kIsD x H1 fun a => ty σ H1 fun y H2 => kDGet1 a y H2 Q) : tDGet1 td ty σ H Q := q
theorem k_dget1 {mm : List (Int × V)} (hp : H a = some (dI mm)) (q : Q ((valV mm i).getD .non) H) : kDGet1 a (.int i) H Q := ⟨_, dget_I hp, q⟩
theorem x_dnewK (hh : Has H L) (q : ∀ p H', Has H' ([(p, dI [])] :: L) → Q (.ref p) H') : tDNewK σ H Q := fun p hp => q p _ (hh.nw hp)
theorem x_dnewT (hh : Has H L) (q : ∀ p H', Has H' ([(p, dP [])] :: L) → Q (.ref p) H') : tDNewT σ H Q := fun p hp => q p _ (hh.nw hp)
theorem k_sortD {mm : List (Int × V)} (hh : Has H L) (hp : H p = some (dI mm)) (hl : mm.length < 64) (q : ∀ (ys : List Int) p H', ys.Perm (mm.map (·.1)) → ys.Pairwise (· ≤ ·) → Has H' ([(p, .lst (ys.map V.int))] :: L) → Q (.ref p) H') : rSortD [.ref p] H Q :=
  ⟨p, _, mm.map (fun (x : Int × V) => x.1), rfl, .inl hp, (by have e := mk_keys g1 mm; exact e), by rw [List.length_map]; exact hl, fun ys l h1 h2 hl => q ys l _ h1 h2 (hh.nw hl)⟩
/-! ### == of data -/
theorem dpAll_ints (ns : List Int) : DpAll K H (ns.map V.int) (ns.map PyData.int) := by
  induction ns with
  | nil => exact .nil
  | cons n r ih => exact .cons (.int n) ih
theorem eqv_ints (ns : List Int) : ∀ ms : List Int, PyData.eqv (.list (ns.map PyData.int)) (.list (ms.map PyData.int)) = decide (ns = ms) := by
  induction ns with
  | nil =>
    intro ms
    cases ms with
    | nil => rfl
    | cons m r => rfl
  | cons n r ih =>
    intro ms
    cases ms with
    | nil => rfl
    | cons m s =>
      have h := ih s
      simp [PyData.eqv, PyData.eqvAll] at h ⊢
      rw [h]
      by_cases e1 : n = m
      · subst e1; by_cases e2 : r = s <;> simp [e2]
      · simp [e1]
theorem lay_ints (ns : List Int) : PyData.canLayAll0 (ns.map PyData.int) = true := by
  induction ns with
  | nil => simp [PyData.canLayAll0]
  | cons n r ih => simp [PyData.canLayAll0, PyData.canLay0, ih]
theorem deep_ints (ns : List Int) : PyData.depthAll (ns.map PyData.int) ≤ 1 := by
  induction ns with
  | nil => simp [PyData.depthAll]
  | cons n r ih => simp [PyData.depthAll, PyData.depth, ih]
theorem shaped_ints (ns : List Int) : SeqAt.shaped (.list (ns.map PyData.int)) = true := by
  have h := deep_ints ns
  simp [SeqAt.shaped, PyData.canLay0, lay_ints, PyData.depth]
  omega
theorem k_eqLI {ns ms : List Int} (hp : H a = some (.lst (ns.map V.int))) (hq : H b = some (.lst (ms.map V.int))) (q : Q (.bl (decide (ns = ms))) H) : rEqD K (.ref a) (.ref b) H Q :=
  ⟨_, _, .lst (SqL.of hp) (dpAll_ints ns), .lst (SqL.of hq) (dpAll_ints ms), shaped_ints ns, shaped_ints ms, by rw [eqv_ints]; exact q⟩
theorem k_neLI {ns ms : List Int} (hp : H a = some (.lst (ns.map V.int))) (hq : H b = some (.lst (ms.map V.int))) (q : Q (.bl (!decide (ns = ms))) H) : rNeD K (.ref a) (.ref b) H Q :=
  ⟨_, _, .lst (SqL.of hp) (dpAll_ints ns), .lst (SqL.of hq) (dpAll_ints ms), shaped_ints ns, shaped_ints ms, by rw [eqv_ints]; exact q⟩
theorem k_eqLN {ns : List Int} (hp : H a = some (.lst (ns.map V.int))) (hq : H b = some (.lst [])) (q : Q (.bl (decide (ns = []))) H) : rEqD K (.ref a) (.ref b) H Q := k_eqLI (ms := []) hp hq q
theorem k_neLN {ns : List Int} (hp : H a = some (.lst (ns.map V.int))) (hq : H b = some (.lst [])) (q : Q (.bl (!decide (ns = []))) H) : rNeD K (.ref a) (.ref b) H Q := k_neLI (ms := []) hp hq q
/-! ### loops -/
def kForR (k : Nat) (tb : TS) (nx : St → Hp → Prop) (rt : VK) (σ : St) (vs : List V) (H1 : Hp) : Prop := ∃ j : Int, vs = [.int j] ∧ -(2 ^ 62) ≤ j ∧ j < 2 ^ 62 ∧ ∃ W : Nat → Nat → St → Hp → Prop, (∃ m, W 0 m σ H1) ∧ ∀ i m σ H, W i m σ H →
  ((Itr 0 j.toNat).stop i H ∧ nx σ H) ∨ ((Itr 0 j.toNat).go i H ∧ ∃ N : St → Hp → Prop, (∀ σ' H', N σ' H' → ∃ m', m' < m ∧ W (i + 1) m' σ' H') ∧ ∀ x H', (Itr 0 j.toNat).yld i H x H' → gName k x σ H' fun σ2 H2 => tb ⟨N, rt, nx, N⟩ σ2 H2)
theorem x_forR {k : Nat} (q : tr σ H fun vs H1 => kForR k s1 nx rt σ vs H1) : tFor (iRng1 tr) (gName k) s1 ⟨nx, rt, bk, ct⟩ σ H := q
theorem k_forR {k : Nat} (Pv : Nat → St → Hp → Prop) (h0 : Pv 0 σ H) (hn : 0 ≤ n ∧ n ≤ 100000) (hs : ∀ (i : Nat) σ H, (i : Int) < n → Pv i σ H → s1 ⟨Pv (i + 1), rt, nx, Pv (i + 1)⟩ (σ.set k (some (.int i))) H) (hd : ∀ σ H, Pv n.toNat σ H → nx σ H) : kForR k s1 nx rt σ [.int n] H := by
  refine ⟨n, rfl, by omega, by omega, for_range (g := gName k) (tb := s1) (D := ⟨nx, rt, fun _ _ => False, fun _ _ => False⟩) Pv h0 (fun i σ' H' hi p => ?_) hd⟩
  show s1 ⟨Pv (i + 1), rt, nx, Pv (i + 1)⟩ (σ'.set k (some (.int (0 + (i : Int))))) H'
  rw [Int.zero_add]
  exact hs i σ' H' (by omega) p
def kForL (K : PySem.W.Frag) (g : TG) (tb : TS) (nx : St → Hp → Prop) (rt : VK) (σ : St) (x : V) (H1 : Hp) : Prop := ∃ a, x = .ref a ∧ (∃ xs, SqL K H1 a xs) ∧ ∃ W : Nat → Nat → St → Hp → Prop, (∃ m, W 0 m σ H1) ∧ ∀ i m σ H, W i m σ H →
  ((Itl K a).stop i H ∧ nx σ H) ∨ ((Itl K a).go i H ∧ ∃ N : St → Hp → Prop, (∀ σ' H', N σ' H' → ∃ m', m' < m ∧ W (i + 1) m' σ' H') ∧ ∀ x H', (Itl K a).yld i H x H' → g x σ H' fun σ2 H2 => tb ⟨N, rt, nx, N⟩ σ2 H2)
theorem x_forL {g : TG} (q : te σ H fun x H1 => kForL K g s1 nx rt σ x H1) : tFor (iList K te) g s1 ⟨nx, rt, bk, ct⟩ σ H := q
theorem k_forL {g : TG} (Pv : Nat → St → Hp → Prop) (hp : H a = some (.lst xs)) (h0 : Pv 0 σ H) (hl : ∀ i σ H, Pv i σ H → H a = some (.lst xs)) (hs : ∀ (i : Nat) x σ H, xs[i]? = some x → Pv i σ H → g x σ H fun σ2 H2 => s1 ⟨Pv (i + 1), rt, nx, Pv (i + 1)⟩ σ2 H2) (hd : ∀ σ H, Pv xs.length σ H → nx σ H) : kForL K g s1 nx rt σ (.ref a) H :=
  ⟨a, rfl, ⟨xs, SqL.of hp⟩, for_list (K := K) (xs := xs) (tb := s1) (D := ⟨nx, rt, fun _ _ => False, fun _ _ => False⟩) Pv h0 (fun i σ H _ p => SqL.of (hl i σ H p)) hs hd⟩
/-! ### comprehensions -/
def kLc (g : TG) (tt : TT) (te : TE) (vs : List Nat) (σ : St) (J : It) (H1 : Hp) (Q : VK) : Prop := ∀ D, H1 D = none → ∃ W : Nat → Nat → Hp → Prop, (∃ m, W 0 m (upd H1 D (.lst []))) ∧ ∀ i m H, W i m H →
  (J.stop i H ∧ Q (.ref D) H) ∨ (J.go i H ∧ ∃ Nx : Hp → Prop, (∀ H', Nx H' → ∃ m', m' < m ∧ W (i + 1) m' H') ∧ ∀ x H', J.yld i H x H' → g x (wipe σ vs) H' fun σ2 H2 => wipe σ2 vs = wipe σ vs ∧ tt σ2 H2 fun b H3 =>
    if b = true then te σ2 H3 fun y H4 => ∃ acc, H4 D = some (.lst acc) ∧ acc.length < sizeLine ∧ Nx (upd H4 D (.lst (acc ++ [y]))) else Nx H3)
/-- what a comprehension's turn wants behind its element y: the list at D one longer, and J of that -/
def kAdd (D : Addr) (Nx : Hp → Prop) (y : V) (H4 : Hp) : Prop := ∃ acc, H4 D = some (.lst acc) ∧ acc.length < sizeLine ∧ Nx (upd H4 D (.lst (acc ++ [y])))
theorem k_add {Nx : Hp → Prop} {M : List U} (hp : H p = some (.lst xs)) (hl : xs.length < sizeLine) (hh : Has (upd H p (.lst (xs ++ [y]))) M) (q : ∀ H', Has H' M → Nx H') : kAdd p Nx y H := ⟨xs, hp, hl, q _ hh⟩
def kLcL (K : PySem.W.Frag) (g : TG) (tt : TT) (te : TE) (vs : List Nat) (σ : St) (x : V) (H1 : Hp) (Q : VK) : Prop := ∃ a, x = .ref a ∧ (∃ xs, SqL K H1 a xs) ∧ kLc g tt te vs σ (Itl K a) H1 Q
theorem x_lcL {g : TG} {tt : TT} {vs : List Nat} (q : ta σ H fun x H1 => kLcL K g tt te vs σ x H1 Q) : tLc (iList K ta) g tt te vs σ H Q := q
theorem k_lcL {g : TG} {tt : TT} {vs : List Nat} (hh : Has H L) (Pv : Addr → Nat → Hp → Prop) (hp : H a = some (.lst xs)) (h0 : ∀ D H', Has H' ([(D, .lst [])] :: L) → Pv D 0 H') (hl : ∀ D i H, Pv D i H → H a = some (.lst xs))
    (hs : ∀ D i x H, xs[i]? = some x → Pv D i H → g x (wipe σ vs) H fun σ2 H2 => wipe σ2 vs = wipe σ vs ∧ tt σ2 H2 fun b H3 => if b = true then te σ2 H3 (kAdd D (Pv D (i + 1))) else Pv D (i + 1) H3)
    (hd : ∀ D H, Pv D xs.length H → Q (.ref D) H) : kLcL K g tt te vs σ (.ref a) H Q :=
  ⟨a, rfl, ⟨xs, SqL.of hp⟩, fun D hD => lc_list (K := K) (xs := xs) (Pv D) (h0 D _ (hh.nw hD)) (fun i H _ p => SqL.of (hl D i H p)) (fun i x H hi p => hs D i x H hi p) fun H p => hd D H p⟩
def kLcR (g : TG) (tt : TT) (te : TE) (vs : List Nat) (σ : St) (us : List V) (H1 : Hp) (Q : VK) : Prop := ∃ j : Int, us = [.int j] ∧ -(2 ^ 62) ≤ j ∧ j < 2 ^ 62 ∧ kLc g tt te vs σ (Itr 0 j.toNat) H1 Q
theorem x_lcR {g : TG} {tt : TT} {vs : List Nat} (q : tr σ H fun us H1 => kLcR g tt te vs σ us H1 Q) : tLc (iRng1 tr) g tt te vs σ H Q := q
theorem k_lcR {k : Nat} {tt : TT} {vs : List Nat} (hh : Has H L) (Pv : Addr → Nat → Hp → Prop) (hn : 0 ≤ n ∧ n ≤ 100000) (h0 : ∀ D H', Has H' ([(D, .lst [])] :: L) → Pv D 0 H')
    (hs : ∀ D (i : Nat) H, (i : Int) < n → Pv D i H → gName k (.int i) (wipe σ vs) H fun σ2 H2 => wipe σ2 vs = wipe σ vs ∧ tt σ2 H2 fun b H3 => if b = true then te σ2 H3 (kAdd D (Pv D (i + 1))) else Pv D (i + 1) H3)
    (hd : ∀ D H, Pv D n.toNat H → Q (.ref D) H) : kLcR (gName k) tt te vs σ [.int n] H Q :=
  ⟨n, rfl, by omega, by omega, fun D hD => lc_range (lo := 0) (Pv D) (h0 D _ (hh.nw hD)) (fun i H hi p => by
    have q := hs D i H (by omega) p
    rw [← Int.zero_add (i : Int)] at q
    exact q) fun H p => hd D H p⟩
theorem filt_true {α : Type} (l : List α) : l.filter (fun _ => true) = l := List.filter_eq_self.mpr fun _ _ => rfl
/-- [h z for z in zs if c z], the source a list that stands in L; the test and the element may lay new things, which are let go -/
theorem k_lcF {α : Type} {k : Nat} {tt : TT} (zs : List α) (g h : α → V) (c : α → Bool) (hh : Has H L) (ha : ∀ H', Has H' L → H' a = some (.lst (zs.map g))) (hz : zs.length ≤ 100000)
    (ht : ∀ z ∈ zs, ∀ D M H' (Q' : Bool → Hp → Prop), Has H' ([(D, .lst M)] :: L) → (∀ H'', Has H'' ([(D, .lst M)] :: L) → Q' (c z) H'') → tt ((wipe σ [k]).set k (some (g z))) H' Q')
    (hs : ∀ z ∈ zs, c z = true → ∀ D M H' (Q' : VK), Has H' ([(D, .lst M)] :: L) → (∀ H'', Has H'' ([(D, .lst M)] :: L) → Q' (h z) H'') → te ((wipe σ [k]).set k (some (g z))) H' Q')
    (q : ∀ D H', Has H' ([(D, .lst ((zs.filter c).map h))] :: L) → Q (.ref D) H') : kLcL K (gName k) tt te [k] σ (.ref a) H Q := by
  have hw : ∀ x, wipe ((wipe σ [k]).set k (some x)) [k] = wipe σ [k] := fun x => by
    show ((σ.set k none).set k (some x)).set k none = σ.set k none
    rw [List.set_set, List.set_set]
  refine k_lcL (L := L) hh (fun D i H' => Has H' ([(D, .lst (((zs.take i).filter c).map h))] :: L)) (ha H hh) (fun D H' h' => h') (fun D i H' h' => ha H' (h'.sub (Sub.skip Sub.rf))) (fun D i x H' hi h' => ?_) (fun D H' h' => ?_)
  · rw [List.getElem?_map] at hi
    obtain ⟨z, hz1, rfl⟩ := Option.map_eq_some_iff.mp hi
    have hm : z ∈ zs := List.mem_of_getElem? hz1
    have et : zs.take (i + 1) = zs.take i ++ [z] := by rw [List.take_add_one, hz1]; rfl
    refine ⟨hw _, ht z hm D _ H' _ h' fun H2 h2 => ?_⟩
    refine ifB (fun e => ?_) (fun e => ?_)
    · refine hs z hm e D _ H2 _ h2 fun H3 h3 => ?_
      refine ⟨_, h3.g0, ?_, ?_⟩
      · rw [sizeLine_eq, List.length_map]
        have l1 := List.length_filter_le c (zs.take i)
        have l2 := List.length_take_le i zs
        have l3 := List.length_take_le' i zs
        omega
      · rw [et, List.filter_append, List.map_append, List.filter_cons, if_pos e]
        exact h3.s0
    · rw [et, List.filter_append, List.filter_cons, if_neg (by rw [e]; decide)]
      simpa using h2
  · rw [List.length_map, List.take_length] at h'
    exact q D H' h'
theorem k_lcM {α : Type} {k : Nat} (zs : List α) (g h : α → V) (hh : Has H L) (ha : ∀ H', Has H' L → H' a = some (.lst (zs.map g))) (hz : zs.length ≤ 100000)
    (hs : ∀ z ∈ zs, ∀ D M H' (Q' : VK), Has H' ([(D, .lst M)] :: L) → (∀ H'', Has H'' ([(D, .lst M)] :: L) → Q' (h z) H'') → te ((wipe σ [k]).set k (some (g z))) H' Q')
    (q : ∀ D H', Has H' ([(D, .lst (zs.map h))] :: L) → Q (.ref D) H') : kLcL K (gName k) tYes te [k] σ (.ref a) H Q :=
  k_lcF zs g h (fun _ => true) hh ha hz (fun z _ D M H' Q' h' q' => q' H' h') (fun z hm _ => hs z hm) fun D H' h' => q D H' (by rw [filt_true] at h'; exact h')
/-- [h i for i in range(n) if c i] -/
theorem k_lcRF {k : Nat} {tt : TT} (h : Int → V) (c : Int → Bool) (hh : Has H L) (hn : 0 ≤ n ∧ n ≤ 100000)
    (ht : ∀ z : Int, 0 ≤ z → z < n → ∀ D M H' (Q' : Bool → Hp → Prop), Has H' ([(D, .lst M)] :: L) → (∀ H'', Has H'' ([(D, .lst M)] :: L) → Q' (c z) H'') → tt ((wipe σ [k]).set k (some (.int z))) H' Q')
    (hs : ∀ z : Int, 0 ≤ z → z < n → c z = true → ∀ D M H' (Q' : VK), Has H' ([(D, .lst M)] :: L) → (∀ H'', Has H'' ([(D, .lst M)] :: L) → Q' (h z) H'') → te ((wipe σ [k]).set k (some (.int z))) H' Q')
    (q : ∀ D H', Has H' ([(D, .lst (((rgI n).filter c).map h))] :: L) → Q (.ref D) H') : kLcR (gName k) tt te [k] σ [.int n] H Q := by
  have hw : ∀ x, wipe ((wipe σ [k]).set k (some x)) [k] = wipe σ [k] := fun x => by
    show ((σ.set k none).set k (some x)).set k none = σ.set k none
    rw [List.set_set, List.set_set]
  refine k_lcR (L := L) hh (fun D i H' => Has H' ([(D, .lst (((rgI i).filter c).map h))] :: L)) hn (fun D H' h' => h') (fun D i H' hi h' => ?_) (fun D H' h' => ?_)
  · have et : rgI ((i + 1 : Nat) : Int) = rgI i ++ [(i : Int)] := by
      unfold rgI
      rw [Int.toNat_natCast, Int.toNat_natCast, List.range_succ, List.map_append]
      rfl
    have lr : (rgI (i : Int)).length = i := by rw [rgI_len, Int.toNat_natCast]
    refine ⟨hw _, ht i (by omega) hi D _ H' _ h' fun H2 h2 => ?_⟩
    refine ifB (fun e => ?_) (fun e => ?_)
    · refine hs i (by omega) hi e D _ H2 _ h2 fun H3 h3 => ?_
      refine ⟨_, h3.g0, ?_, ?_⟩
      · rw [sizeLine_eq, List.length_map]
        have l1 := List.length_filter_le c (rgI i)
        omega
      · rw [et, List.filter_append, List.map_append, List.filter_cons, if_pos e]
        exact h3.s0
    · rw [et, List.filter_append, List.filter_cons, if_neg (by rw [e]; decide)]
      simpa using h2
  · rw [Int.toNat_of_nonneg hn.1] at h'
    exact q D H' h'
theorem k_lcRM {k : Nat} (h : Int → V) (hh : Has H L) (hn : 0 ≤ n ∧ n ≤ 100000)
    (hs : ∀ z : Int, 0 ≤ z → z < n → ∀ D M H' (Q' : VK), Has H' ([(D, .lst M)] :: L) → (∀ H'', Has H'' ([(D, .lst M)] :: L) → Q' (h z) H'') → te ((wipe σ [k]).set k (some (.int z))) H' Q')
    (q : ∀ D H', Has H' ([(D, .lst ((rgI n).map h))] :: L) → Q (.ref D) H') : kLcR (gName k) tYes te [k] σ [.int n] H Q :=
  k_lcRF h (fun _ => true) hh hn (fun z _ _ D M H' Q' h' q' => q' H' h') (fun z h0 h1 _ => hs z h0 h1) fun D H' h' => q D H' (by rw [filt_true] at h'; exact h')
theorem x_yes (q : QT true H) : tYes σ H QT := q
end
end Sy
/-! More rules: C.f(..) of a def read off its class; comprehensions over dicts. -/
namespace Sy
open PySem PySem.Spec PyProof.Rows L2
def tCFn (C : Addr) (sp : Sp) (dvs : List V) (E : XK) (ta : TE) (t : TA) : TE := fun σ H Q => ta σ H fun x H1 => x = .ref C ∧ t σ H1 fun vs H2 => sp (vs ++ dvs) H2 Q E
/-- what the text must say of C.f, a def -/
structure CFn (K : PySem.W.Frag) (C : Addr) (mc : Value) (m : Str) (f : Addr) : Prop where
  rd : PySem.W.readsIn K C mc = true
  ga : PySem.W.specialIn K (.ref C) "__getattribute__" = some (some (.builtin "type.__getattribute__"))
  at_ : PySem.W.findCls K (.ref C) mc m = some (.val (.ref f))
  kp : PySem.W.keepIn K (.ref f) = true
section
variable {X : Cx} {CX : CXT} {k : Nat} {f C : Addr} {fd : FuncData} {ps : List Str} {sp : Sp} {dvs : List V} {ds : List Value} {E : XK} {m : Str} {pos apos : Pos} {e o : Expr} {es : List Expr} {ta : TE} {t : TA} {mc : Value}
theorem pe_cfn {pl : Sem Bool} (he : PE X o ta) (c : CFn X.K C mc m f) (F : FnOk X.prog X.w X.K X.mg X.base CX k f fd ps sp) (hr : Room k X.A) (hb : Binds X.K fd ps ds) (hd : Vals dvs ds) (hx : Passes CX X E) (ha : PA X (e :: es) t)
    (hst : starEach (e :: es) X.env = (false, eval e X.env) :: starEach es X.env := by rfl) (hpl : (backTo pos (starEach es X.env)).any (·.1) = false := by rfl)
    (ht : eval (.Call (.Attribute o m apos) (e :: es) [] pos) X.env = (do
      let ov ← eval o X.env
      standAt apos.atName
      let (f, first) ← holding [ov] (getMethod ov m pl)
      callWith pos f first (backTo pos (starEach (e :: es) X.env)) (backToKw pos (keywordEach [] X.env))) := by rfl) :
    PE X (.Call (.Attribute o m apos) (e :: es) [] pos) (tCFn C sp dvs E ta t) := by
  refine ⟨fun pins s σ H Q I h => ?_⟩
  refine PySem.W.methodCall_KW (pl := pl) (thn (he.run pins s σ H _ I h) fun u s1 ⟨x, H1, I1, rx, ex, q⟩ => ?_) ht
  subst ex
  obtain rfl : u = Value.ref C := rx
  refine PySem.W.method_cls I1.kIn c.ga (PySem.W.cls_value I1.kIn c.rd c.at_ rfl ?_)
  have I2 := I1.tok (s1.toks + 1)
  refine PySem.W.callWith_K (first := []) (h₀ := X.base) I.ok.mod.kin c.kp (thn (ha.run pos pins _ σ H1 _ I2 q) fun us s2 ⟨vs, H2, I3, r, q2⟩ => ⟨I3.kIn, ?_⟩) hst hpl
  exact run_fn F hr hb hd hx I3 r q2
end
end Sy
namespace Sy
open PySem L2
section
variable {K : PySem.W.Frag} {σ : St} {H H1 : Hp} {L : List U} {Q : VK} {ta td te : TE} {tr : TA} {v x y z : V} {xs ys : List V} {i j n m : Int} {a b d p : Addr} {C : Addr} {nx bk ct : St → Hp → Prop} {rt : VK} {s1 : TS} {A : Prop}
def kCFn (C : Addr) (sp : Sp) (dvs : List V) (E : XK) (t : TA) (σ : St) (x : V) (H1 : Hp) (Q : VK) : Prop := x = .ref C ∧ t σ H1 fun vs H2 => sp (vs ++ dvs) H2 Q E
theorem x_cfn {sp : Sp} {dvs : List V} {E : XK} (q : ta σ H fun x H1 => kCFn C sp dvs E tr σ x H1 Q) : tCFn C sp dvs E ta tr σ H Q := q
theorem k_cfn0 {sp : Sp} {E : XK} (q : tr σ H fun vs H2 => sp vs H2 Q E) : kCFn C sp [] E tr σ (.ref C) H Q := by
  have e : (fun vs H1 => sp (vs ++ []) H1 Q E) = fun vs H1 => sp vs H1 Q E := by funext vs H1; rw [List.append_nil]
  refine ⟨rfl, ?_⟩
  rw [e]
  exact q
/-! ### a dict while it is walked -/
theorem dget_F {o : Obj} {mm : List (Int × V)} (hp : H a = some (.frz o (dI mm))) : DGet H a (.int i) (valV mm i) := by
  rw [← mk_val g1_inj mm i]
  exact .inl ⟨_, g1 i, .inr ⟨o, hp⟩, rfl, rfl⟩
theorem k_dgetF {o : Obj} {mm : List (Int × V)} (hp : H a = some (.frz o (dI mm))) (hv : valV mm i = some v) (q : Q v H) : kDGet (.ref a) (.int i) H Q := ⟨a, v, rfl, hv ▸ dget_F hp, q⟩
/-- the keys of a locked dict, with a test and an element -/
theorem lc_keysF {k : Nat} {tt : TT} {o : Obj} {mm : List (Int × V)} (h : Int → V) (c : Int → Bool) (hh : Has H L) (hd : ∀ H', Has H' L → H' d = some (.frz o (dI mm))) (hz : mm.length ≤ 100000)
    (ht : ∀ z ∈ mm.map (·.1), ∀ D M H' (Q' : Bool → Hp → Prop), Has H' ([(D, .lst M)] :: L) → (∀ H'', Has H'' ([(D, .lst M)] :: L) → Q' (c z) H'') → tt ((wipe σ [k]).set k (some (.int z))) H' Q')
    (hs : ∀ z ∈ mm.map (·.1), c z = true → ∀ D M H' (Q' : VK), Has H' ([(D, .lst M)] :: L) → (∀ H'', Has H'' ([(D, .lst M)] :: L) → Q' (h z) H'') → te ((wipe σ [k]).set k (some (.int z))) H' Q')
    (q : ∀ D H', Has H' ([(D, .lst (((mm.map (·.1)).filter c).map h))] :: L) → Q (.ref D) H') : kLc (gName k) tt te [k] σ (Itk d o (mk g1 mm)) H Q := by
  have hw : ∀ x, wipe ((wipe σ [k]).set k (some x)) [k] = wipe σ [k] := fun x => by
    show ((σ.set k none).set k (some x)).set k none = σ.set k none
    rw [List.set_set, List.set_set]
  intro D hD
  have hl : (mk g1 mm).length = mm.length := mk_len _ _
  refine ⟨fun i m H' => m = mm.length - i ∧ i ≤ mm.length ∧ Has H' ([(D, .lst ((((mm.map (·.1)).take i).filter c).map h))] :: L), ⟨mm.length, by simp, Nat.zero_le _, hh.nw hD⟩, ?_⟩
  rintro i m H' ⟨rfl, hi, p⟩
  have pl := hd H' (p.sub (Sub.skip Sub.rf))
  by_cases hlt : i < mm.length
  · refine .inr ⟨⟨pl, by rw [hl]; exact hlt⟩, fun H2 => Has H2 ([(D, .lst ((((mm.map (·.1)).take (i + 1)).filter c).map h))] :: L), fun H2 p2 => ⟨mm.length - (i + 1), by omega, rfl, hlt, p2⟩, fun x H2 y => ?_⟩
    obtain ⟨e, kk, vv, hk, ex⟩ := y
    subst e
    have hz1 : (mm.map (·.1))[i]? = some (mm[i]).1 := by rw [List.getElem?_map, List.getElem?_eq_getElem hlt]; rfl
    have hkk : kk = g1 (mm[i]).1 := by
      unfold mk at hk
      rw [List.getElem?_map, List.getElem?_eq_getElem hlt] at hk
      exact (congrArg Prod.fst (Option.some.inj hk)).symm
    subst hkk
    have ex : x = .int (mm[i]).1 := ex
    subst ex
    have hm : (mm[i]).1 ∈ mm.map (·.1) := List.mem_of_getElem? hz1
    have et : (mm.map (·.1)).take (i + 1) = (mm.map (·.1)).take i ++ [(mm[i]).1] := by rw [List.take_add_one, hz1]; rfl
    refine ⟨hw _, ht _ hm D _ H2 _ p fun H3 h3 => ?_⟩
    refine ifB (fun e => ?_) (fun e => ?_)
    · refine hs _ hm e D _ H3 _ h3 fun H4 h4 => ?_
      refine ⟨_, h4.g0, ?_, ?_⟩
      · rw [sizeLine_eq, List.length_map]
        have l1 := List.length_filter_le c ((mm.map (·.1)).take i)
        have l3 := List.length_take_le' i (mm.map (·.1))
        rw [List.length_map] at l3
        omega
      · rw [et, List.filter_append, List.map_append, List.filter_cons, if_pos e]
        exact h4.s0
    · rw [et, List.filter_append, List.filter_cons, if_neg (by rw [e]; decide)]
      simpa using h3
  · have e : i = mm.length := by omega
    subst e
    refine .inl ⟨⟨pl, by rw [hl]; exact Nat.le_refl _⟩, q D H' ?_⟩
    have e2 : (mm.map (·.1)).take mm.length = mm.map (·.1) := List.take_of_length_le (by rw [List.length_map]; exact Nat.le_refl _)
    rw [e2] at p
    exact p
/-- [h z for z in d if c z], d a dict that stands in what is known -/
theorem x_lcD {k : Nat} {tt : TT} {mm : List (Int × V)} (h : Int → V) (c : Int → Bool) (hh : Has H ([(d, dI mm)] :: L)) (hz : mm.length ≤ 100000)
    (htd : ∀ o H' (Q' : VK), Has H' ([(d, .frz o (dI mm))] :: L) → Q' (.ref d) H' → td σ H' Q')
    (ht : ∀ o, ∀ z ∈ mm.map (·.1), ∀ D M H' (Q' : Bool → Hp → Prop), Has H' ([(D, .lst M)] :: [(d, .frz o (dI mm))] :: L) → (∀ H'', Has H'' ([(D, .lst M)] :: [(d, .frz o (dI mm))] :: L) → Q' (c z) H'') → tt ((wipe σ [k]).set k (some (.int z))) H' Q')
    (hs : ∀ o, ∀ z ∈ mm.map (·.1), c z = true → ∀ D M H' (Q' : VK), Has H' ([(D, .lst M)] :: [(d, .frz o (dI mm))] :: L) → (∀ H'', Has H'' ([(D, .lst M)] :: [(d, .frz o (dI mm))] :: L) → Q' (h z) H'') → te ((wipe σ [k]).set k (some (.int z))) H' Q')
    (q : ∀ D H', Has H' ([(D, .lst (((mm.map (·.1)).filter c).map h))] :: [(d, dI mm)] :: L) → Q (.ref D) H') : tLockE (tLc (iKeys td) (gName k) tt te [k]) σ H Q := by
  refine ⟨d, dI mm, hh.g0, trivial, fun o => ?_⟩
  have h1 : Has (upd H d (.frz o (dI mm))) ([(d, .frz o (dI mm))] :: L) := hh.s0
  have z : kLc (gName k) tt te [k] σ (Itk d o (mk g1 mm)) (upd H d (.frz o (dI mm))) (fun v H' => H' d = some (.frz o (dI mm)) ∧ Q v (upd H' d (dI mm))) :=
    lc_keysF h c h1 (fun H' h' => h'.g0) hz (ht o) (hs o) fun D H' h' => ⟨h'.g1, q D _ h'.s1⟩
  exact htd o _ _ h1 ⟨d, o, rfl, .inl ⟨mk g1 mm, h1.g0, z⟩⟩
/-- x = [h z for z in d if c z] -/
theorem x_asgD {k l : Nat} {tt : TT} {mm : List (Int × V)} (h : Int → V) (c : Int → Bool) (hh : Has H ([(d, dI mm)] :: L)) (hz : mm.length ≤ 100000)
    (htd : ∀ o H' (Q' : VK), Has H' ([(d, .frz o (dI mm))] :: L) → Q' (.ref d) H' → td σ H' Q')
    (ht : ∀ o, ∀ z ∈ mm.map (·.1), ∀ D M H' (Q' : Bool → Hp → Prop), Has H' ([(D, .lst M)] :: [(d, .frz o (dI mm))] :: L) → (∀ H'', Has H'' ([(D, .lst M)] :: [(d, .frz o (dI mm))] :: L) → Q' (c z) H'') → tt ((wipe σ [k]).set k (some (.int z))) H' Q')
    (hs : ∀ o, ∀ z ∈ mm.map (·.1), c z = true → ∀ D M H' (Q' : VK), Has H' ([(D, .lst M)] :: [(d, .frz o (dI mm))] :: L) → (∀ H'', Has H'' ([(D, .lst M)] :: [(d, .frz o (dI mm))] :: L) → Q' (h z) H'') → te ((wipe σ [k]).set k (some (.int z))) H' Q')
    (q : ∀ D H', Has H' ([(D, .lst (((mm.map (·.1)).filter c).map h))] :: [(d, dI mm)] :: L) → nx (σ.set l (some (.ref D))) H') : tLock (tAsg (tLc (iKeys td) (gName k) tt te [k]) (gName l)) ⟨nx, rt, bk, ct⟩ σ H := by
  refine ⟨d, dI mm, hh.g0, trivial, fun o => ?_⟩
  have h1 : Has (upd H d (.frz o (dI mm))) ([(d, .frz o (dI mm))] :: L) := hh.s0
  have z : kLc (gName k) tt te [k] σ (Itk d o (mk g1 mm)) (upd H d (.frz o (dI mm))) (fun v H' => H' d = some (.frz o (dI mm)) ∧ nx (σ.set l (some v)) (upd H' d (dI mm))) :=
    lc_keysF h c h1 (fun H' h' => h'.g0) hz (ht o) (hs o) fun D H' h' => ⟨h'.g1, q D _ h'.s1⟩
  exact htd o _ _ h1 ⟨d, o, rfl, .inl ⟨mk g1 mm, h1.g0, z⟩⟩
/-! ### x in xs, whole numbers -/
theorem k_inI {neg : Bool} {ns : List Int} (hp : H p = some (.lst (ns.map V.int))) (q : Q (.bl (if neg then !decide (i ∈ ns) else decide (i ∈ ns))) H) : rIn K neg (.int i) (.ref p) H Q := by
  refine ⟨p, _, rfl, .inl (SqL.of hp), rfl, ?_, ?_⟩
  · rw [List.all_eq_true]
    intro y hy
    obtain ⟨z, _, rfl⟩ := List.mem_map.mp hy
    rfl
  · have e : inV (.int i) (ns.map V.int) = decide (i ∈ ns) := by
      unfold inV
      rw [List.any_map]
      by_cases h : i ∈ ns
      · rw [decide_eq_true h, List.any_eq_true]
        exact ⟨i, h, by simp [eqV]⟩
      · rw [decide_eq_false h, List.any_eq_false]
        intro z hz
        have : z ≠ i := fun e => h (e ▸ hz)
        simp [eqV, this]
    rw [e]
    exact q
theorem k_inIt {ns : List Int} (hp : H p = some (.lst (ns.map V.int))) (q : Q (.bl (decide (i ∈ ns))) H) : rIn K false (.int i) (.ref p) H Q := k_inI hp q
theorem k_inIf {ns : List Int} (hp : H p = some (.lst (ns.map V.int))) (q : Q (.bl (!decide (i ∈ ns))) H) : rIn K true (.int i) (.ref p) H Q := k_inI hp q
/-- [h z for .. in zs if c z], the target of any form: behind it the names are t z -/
theorem k_lcG {α : Type} {g : TG} {tt : TT} {vs : List Nat} (zs : List α) (e : α → V) (h : α → V) (c : α → Bool) (t : α → St) (hh : Has H L) (ha : ∀ H', Has H' L → H' a = some (.lst (zs.map e))) (hz : zs.length ≤ 100000) (hw : ∀ z ∈ zs, wipe (t z) vs = wipe σ vs)
    (hg : ∀ z ∈ zs, ∀ D M H' (Q' : St → Hp → Prop), Has H' ([(D, .lst M)] :: L) → Q' (t z) H' → g (e z) (wipe σ vs) H' Q')
    (ht : ∀ z ∈ zs, ∀ D M H' (Q' : Bool → Hp → Prop), Has H' ([(D, .lst M)] :: L) → (∀ H'', Has H'' ([(D, .lst M)] :: L) → Q' (c z) H'') → tt (t z) H' Q')
    (hs : ∀ z ∈ zs, c z = true → ∀ D M H' (Q' : VK), Has H' ([(D, .lst M)] :: L) → (∀ H'', Has H'' ([(D, .lst M)] :: L) → Q' (h z) H'') → te (t z) H' Q')
    (q : ∀ D H', Has H' ([(D, .lst ((zs.filter c).map h))] :: L) → Q (.ref D) H') : kLcL K g tt te vs σ (.ref a) H Q := by
  refine k_lcL (L := L) hh (fun D i H' => Has H' ([(D, .lst (((zs.take i).filter c).map h))] :: L)) (ha H hh) (fun D H' h' => h') (fun D i H' h' => ha H' (h'.sub (Sub.skip Sub.rf))) (fun D i x H' hi h' => ?_) (fun D H' h' => ?_)
  · rw [List.getElem?_map] at hi
    obtain ⟨z, hz1, rfl⟩ := Option.map_eq_some_iff.mp hi
    have hm : z ∈ zs := List.mem_of_getElem? hz1
    have et : zs.take (i + 1) = zs.take i ++ [z] := by rw [List.take_add_one, hz1]; rfl
    refine hg z hm D _ H' _ h' ⟨hw z hm, ht z hm D _ H' _ h' fun H2 h2 => ?_⟩
    refine ifB (fun e => ?_) (fun e => ?_)
    · refine hs z hm e D _ H2 _ h2 fun H3 h3 => ?_
      refine ⟨_, h3.g0, ?_, ?_⟩
      · rw [sizeLine_eq, List.length_map]
        have l1 := List.length_filter_le c (zs.take i)
        have l3 := List.length_take_le' i zs
        omega
      · rw [et, List.filter_append, List.map_append, List.filter_cons, if_pos e]
        exact h3.s0
    · rw [et, List.filter_append, List.filter_cons, if_neg (by rw [e]; decide)]
      simpa using h2
  · rw [List.length_map, List.take_length] at h'
    exact q D H' h'
theorem k_neDNN (q : Q (.bl false) H) : rNeD K .non .non H Q := ⟨.none, .none, .non, .non, by decide +kernel, by decide +kernel, by
  have e : PyData.eqv .none .none = true := by decide +kernel
  rw [e]; exact q⟩
theorem k_eqDNN (q : Q (.bl true) H) : rEqD K .non .non H Q := ⟨.none, .none, .non, .non, by decide +kernel, by decide +kernel, by
  have e : PyData.eqv .none .none = true := by decide +kernel
  rw [e]; exact q⟩
end
end Sy
/-! Rules of our own: d.pop(k) for keys that are tuples; comprehensions over such dicts; set(xs) of a list of whole numbers, sorted. -/
namespace Sy
open PySem PySem.W PySem.Calls PySem.Spec PyProof.Rows L2
section
variable {κ : Type} [DecidableEq κ] {prog : Program} {w : World} {knd : HeapKind prog w κ}
theorem meetsPop1 {d b : Addr} {k : κ} (hd : (d == sysModules) = false) :
    MeetsIn prog w (Builtin.«dict.pop» ⟨[.ref d, .ref b], []⟩) (fun A R s => ∃ xs p, knd.room A.in1 ∧ knd.is s.heap k b ∧ s.heap.DictOfH knd d xs ∧ xs.length ≤ sizeLine ∧ atKey xs k = some p ∧
      ∀ h' tk, h'.DictOfH knd d (DT.dropH xs k) → Heap.SameBut d s.heap h' → R (.ok (.ret p.2)) { s with heap := h', toks := tk }) :=
  .of_wp fun A R s ⟨xs, p, hu, hkey, hm, hsz, hp, hsome⟩ => by
    obtain ⟨o, es, ep, ho, hc, hdat, he, his, hn⟩ := id hm
    have hpart : (keyPart (Value.ref b)).isSome = false := rfl
    have hes : es.size = xs.length := by rw [← Array.length_toList, he, List.length_map]
    unfold Builtin.«dict.pop»
    refine wpAny_bind ?_
    unfold Builtin.Dict.keyAndDefault
    refine wpAny_bind (wpAny_notOrdered_dict hm.typeIs ?_)
    show wpAny _ _ (pure (d, Value.ref b, none)) _ _ s
    refine wpAny_pure ?_
    simp only [hpart, Bool.false_eq_true, if_false]
    refine wpAny_bind (wpAny_dictEntries ho hdat (wpAny_bind (wpAny_pure ?_)))
    have hem : es.isEmpty = false := by
      cases hq : es.isEmpty with
      | false => rfl
      | true =>
        have z : es.size = 0 := by simpa using hq
        have z2 : xs = [] := List.length_eq_zero_iff.mp (by omega)
        rw [z2] at hp
        cases hp
    rw [hem]
    simp only [Bool.false_eq_true, if_false]
    refine wpAny_bind (DT.takeH hu hkey hm hsz (fun hno => absurd (hno.symm.trans hp) (fun z => nomatch z)) fun p' e hp' hev h' hm' hs' => ?_)
    simp only [Option.isNone_some, Bool.false_eq_true, if_false]
    have e2 : p' = p := Option.some.inj (hp'.symm.trans hp)
    subst e2
    exact wpAny_bind (wpAny_letGo (wpAny_pure ⟨e.val, rfl, by rw [hev]; exact hsome h' _ hm' hs'⟩))
end
/-- d.pop(k), k a tuple that is there -/
def tDPopT (td ty : TE) : TE := fun σ H Q => td σ H fun x H1 => ∃ a, x = .ref a ∧ IsD H1 a ∧ ty σ H1 fun y H2 => ∃ kvs k b v, H2 a = some (.dT kvs) ∧ y = .ref b ∧ H2 b = some (.tup (k.map kV)) ∧ valV kvs k = some v ∧ Q v (upd H2 a (.dT (dropK kvs k)))
section
variable {X : Cx} {o e : Expr} {apos cpos : Pos} {td ty : TE}
theorem pe_dpopT (hu : X.A.units + 1 < cLine) (ho : PE X o td) (he : PE X e ty) (m : M1 X o "pop" apos e cpos) : PE X (.Call (.Attribute o "pop" apos) [e] [] cpos) (tDPopT td ty) := by
  refine ⟨fun pins s σ H Q I h => ?_⟩
  refine wpAny_Call_method m.base m.few m.line PySem.F.plainAttrs_dict PySem.F.slot_dict_pop PySem.F.type_dict_pop (thn (ho.run pins s σ H _ I h) fun u s1 ⟨x, H1, I1, rx, a, ex, d, q1⟩ => ?_)
  subst ex
  obtain rfl : u = Value.ref a := rx
  obtain ⟨t1, t2, _⟩ := isD_at I1 d
  refine ⟨t1, t2, ?_⟩
  rw [m.trees]
  refine Calls.callWith_builtin rfl (Calls.evalArgs_plain (Calls.spliced_cons (thn (he.run pins s1 σ H1 _ I1 q1) fun iv s2 ⟨y, H2, I2, ry, kvs, k, b, v, ea, ey, eb, l, q2⟩ => Calls.spliced_nil ?_)))
  subst ey
  obtain rfl : iv = Value.ref b := ry
  obtain ⟨z, hd, xs, rel, dd⟩ := dt_of I2.hok ea
  have hz : xs.length ≤ sizeLine := by rw [← Paired.length rel]; exact z
  have r := rel.val k
  rw [l] at r
  obtain ⟨p, hp, rp⟩ : ∃ p, atKey xs k = some p ∧ RelV v p.2 := by
    cases ev : atKey xs k with
    | none => rw [ev] at r; exact (show False from r).elim
    | some p => rw [ev] at r; exact ⟨p, rfl, r⟩
  refine call_meetsIn PySem.F.slot_dict_pop dd.typeIs PySem.F.entry_dict_pop (PySem.F.args_dict_pop_2 _ _) (meetsPop1 (knd := tupleKind (mixKind X.prog X.w)) (k := k) hd)
    ⟨xs, p, tupleKind_room_in1 hu, key_of I2.hok eb, dd, hz, hp, fun h' tk dd' hs => ?_⟩
  obtain ⟨o, es, ep, hq, h2, h3, h4, _, h5⟩ := dd'
  have I3 : Inv X pins σ (upd H2 a (.dT (dropK kvs k))) { s2 with heap := h', toks := tk } :=
    d_write I2 (by rw [ea]; exact True.intro) hs ⟨o, hq⟩ ⟨Nat.le_trans (dropK_le kvs k) z, hd, _, (DX.KT_drop k rel).keeps (fun c ys ec => (by rw [upd_ne (ne_of ec ea (fun z => nomatch z))]; exact ec)), o, es, ep, hq, h2, h3, h4, h5⟩
  exact ⟨v, _, I3, rp, q2⟩
end
section
variable {P : Program} {w : World} {A : Around} {E : Value → Shared → Prop} {s : Shared}
abbrev freshSet (w : World) : Obj := { cls := .type "set", dict := none, data := .set #[] 0 (.fresh 0 0 (!w.params.followText "set-order")) }
set_option maxHeartbeats 3200000 in
theorem call_set_ints {l : Addr} {items : Array Value} (ns : List Int) {Q : Value → Shared → Prop} (hh : A.handled = none) (hl : s.heap.IsList l items) (hit : IntsAre items.toList ns) (hb : ns.length + 1 < scanBound)
    (h : ∀ (h' : Heap) (tk c : Nat), SetR w h' s.heap.objs.size (fun j => decide (j ∈ ns)) c → c ≤ ns.length → (∀ b o, s.heap.get? b = some o → h'.get? b = some o) → Q (.ref s.heap.objs.size) { s with heap := h', toks := tk }) :
    wpAny (model P w) A (call (.type "set") [.ref l]) Q E s := by
  have hisz : items.size = ns.length := by
    have q := IntsAre.length hit
    rw [Array.length_toList] at q
    exact q
  obtain ⟨c, tl, hmro⟩ := F.called_set.mro
  have hmade := F.called_set.made
  have hsub := F.called_set.sub
  refine wpAny_call (codeAny_of_tree ?_)
  show wpAny _ _ (callAny (.type "set") _) _ _ _
  refine wpAny_pure ⟨Code.quiet_builtin _ (by decide +kernel), codeAny_builtin F.entry_type_call ?_⟩
  rw [Around.under_plain (weight_type_call_type "set" [.ref l] []) rfl]
  have h1 := F.called_set.notType
  have h2 := F.called_set.canCreate
  have hct := F.typeCall_set_1 (.ref l)
  repeat (any_goals (first | assumption | wp_step))
  refine codeAny_mono (code_set_led1 (.ref l) (E := E) (Q₁ := fun obj s₁ => obj = .ref s.heap.objs.size ∧ s₁ = { s with heap := s.heap.push (freshSet w) }) ⟨rfl, rfl⟩) fun r s₁ hr => ?_
  match r, hr with
  | .error e, hr => exact hr
  | .ok (.ret obj), hr =>
    obtain ⟨rfl, rfl⟩ := hr
    have hS : (s.heap.push (freshSet w)).get? s.heap.objs.size = some (freshSet w) := Heap.get?_push_size _ rfl
    have hT : Shared.TypeIs { s with heap := s.heap.push (freshSet w) } (.ref s.heap.objs.size) "set" := ⟨_, hS, rfl⟩
    have hli := F.called_set.init.lookup
    have hbi := F.called_set.init.bind (.ref s.heap.objs.size)
    repeat (any_goals (first | assumption | wp_step))
    refine codeAny_mono (codeAny_call_builtin (R := wants (fun r s₂ => r = .none ∧ ∃ h' tk c, s₂ = { s with heap := h', toks := tk } ∧ SetR w h' s.heap.objs.size (fun j => decide (j ∈ ns)) c ∧ c ≤ ns.length ∧
        (∀ b o, s.heap.get? b = some o → h'.get? b = some o)) E) F.called_set.init.plain F.entry_set_init (check_set_init_1 hT ?_)) fun r₂ s₂ hr₂ => ?_
    · obtain ⟨ol, hol, hcl, nl, hdl⟩ := hl
      obtain ⟨ocls, odict, odata, oslots⟩ := ol
      simp only at hcl hdl
      subst hcl; subst hdl
      have hol' : (s.heap.push (freshSet w)).get? l = some { cls := .type "list", dict := odict, data := .seq items nl, slots := oslots } := Heap.get?_push_of_some _ hol
      have hsls := F.sub_list_set
      have hslf := F.sub_list_frozenset
      have hne : (Value.type "list" == Value.type "dict") = false := by decide
      have hl1 : (s.heap.push (freshSet w)).IsList l items := ⟨_, hol', rfl, nl, rfl⟩
      unfold Builtin.«set.__init__» noKeywords Builtin.Frozenset.updateFrom
      generalize hPI : pyIter = PI
      wp_walk
      subst hPI
      refine wpAny_pyIter_list hl1 ?_
      refine wpAny_bind (wpAny_runValue ?_)
      have hlS : l < s.heap.objs.size := Heap.lt_size hol
      have hsp : (s.heap.push (freshSet w)).objs.size = s.heap.objs.size + 1 := Heap.size_push ..
      have hneI : l ≠ (s.heap.push (freshSet w)).objs.size := by rw [hsp]; exact Nat.ne_of_lt (Nat.lt_succ_of_lt hlS)
      have hSf : s.heap.objs.size ∉ [(s.heap.push (freshSet w)).objs.size, l] := by
        simp only [List.mem_cons, List.not_mem_nil, or_false, not_or]
        exact ⟨by rw [hsp]; exact Nat.ne_of_lt (Nat.lt_succ_self _), Nat.ne_of_gt hlS⟩
      have hval : ∀ (i : Nat) (v : Value), items[i]? = some v → ∃ k t, ns[i]? = some k ∧ v = .int k t := fun i v hv => by
        have hi : i < ns.length := by rw [← hisz]; exact (Array.getElem?_eq_some_iff.mp hv).1
        obtain ⟨t, e⟩ := PyProof.Rows.IntsAre.int_at hit i v (by rw [Array.getElem?_toList]; exact hv)
        refine ⟨ns[i], t, List.getElem?_eq_getElem hi, ?_⟩
        rw [e, List.getD_eq_getElem?_getD, List.getElem?_eq_getElem hi] <;> rfl
      refine set_update_ints ((Walks.list (by simp [hh]) _ l hneI items).toS) s.heap.objs.size hSf ns hisz hb hval (items.size - 0) 0 _ (by omega) (Nat.zero_le _)
        ⟨⟨_, Heap.get?_push_size _ rfl, rfl, rfl⟩, hl1.push _⟩ ⟨0, Nat.le_refl 0, setR_new_at (Heap.get?_push_of_some _ hS)⟩ fun s' c' hm hc' hS' => ?_
      obtain ⟨h', g2, d', tk', os'⟩ := s'
      have eg : g2 = s.gens := hm.gens
      have ed : d' = s.drawn := hm.drawn
      have eo : os' = s.os := hm.os
      subst eg; subst ed; subst eo
      show wpAny _ _ _ _ _ _
      refine wpAny_pure ?_
      show wpAny _ _ (ret Value.none) _ _ _
      rw [hisz] at hc'
      refine wpAny_pure ⟨rfl, h', tk', c', rfl, hS', hc', fun b o e => ?_⟩
      have hb0 : b < s.heap.objs.size := Heap.lt_size e
      exact hm.heap b o (by simp only [List.mem_cons, List.not_mem_nil, or_false, not_or]; exact ⟨Nat.ne_of_lt hb0, by rw [hsp]; exact Nat.ne_of_lt (Nat.lt_succ_of_lt hb0)⟩) (Heap.get?_push_of_some _ (Heap.get?_push_of_some _ e))
    · match r₂, hr₂ with
      | .error e, hr₂ => exact hr₂
      | .ok (.ret r), hr₂ =>
        obtain ⟨rfl, h', tk, c', rfl, hS', hc', hk'⟩ := hr₂
        repeat (any_goals (first | assumption | wp_step))
        exact h _ _ _ hS' hc' hk'
      | .ok .next, hr₂ => exact hr₂.elim
      | .ok .brk, hr₂ => exact hr₂.elim
      | .ok .cont, hr₂ => exact hr₂.elim
  | .ok .next, hr => exact hr.elim
  | .ok .brk, hr => exact hr.elim
  | .ok .cont, hr => exact hr.elim
end
/-- set(xs), whole numbers -/
def rSetOf (K : PySem.W.Frag) (w : World) : List V → Hp → VK → Prop := fun vs H Q => ∃ (p : Addr) (ns : List Int), vs = [.ref p] ∧ SqL K H p (ns.map V.int) ∧ ns.length ≤ 1000 ∧
  ∀ q c, H q = none → c ≤ ns.length → Q (.ref q) (upd H q (SetO w q (fun j => decide (j ∈ ns)) c))
section
variable {X : Cx}
theorem call_setOf (hc : X.calm = true) : CallR X (.type "set") (rSetOf X.K X.w) := by
  intro pins s σ H vs us Q I r h
  obtain ⟨p, ns, rfl, hp, hl, q⟩ := h
  rw [Vals.ref1 r]
  obtain ⟨its, rv, pt, _⟩ := I.list hp
  have hi : IntsAre its.toArray.toList ns := ints_of_vals rv
  refine call_set_ints ns (I.ok.hd hc) pt.isList hi (by unfold scanBound; omega) fun h' tk c R1 hcn k => ?_
  have hn : H s.heap.objs.size = none := I.hok.fresh (Nat.le_refl _)
  exact ⟨.ref s.heap.objs.size, _, I.laid (t' := tk) (fun b u e => k b u e) (Nat.le_refl _) (setO_new R1), rfl, q _ c hn hcn⟩
end
/-- sorted(set(xs)), whole numbers -/
def tSSet (K : PySem.W.Frag) (t : TA) : TE := fun σ H Q => ∀ w : World, t σ H fun vs H1 => rSetOf K w vs H1 fun v H2 => rSortedSet w [v] H2 Q
section
variable {X : Cx} {e : Expr} {t : TA} {p p2 pos pos2 : Pos}
theorem pe_sset (hc : X.calm = true) (hg : Gl X "sorted") (hm : X.mg "sorted" = none) (hg2 : Gl X "set") (hm2 : X.mg "set" = none) (ha : PA X [e] t)
    (hs2 : starEach [e] X.env = [(false, eval e X.env)] := by rfl)
    (hs : starEach [.Call (.Name "set" p2) [e] [] pos2] X.env = [(false, eval (.Call (.Name "set" p2) [e] [] pos2) X.env)] := by rfl) :
    PE X (.Call (.Name "sorted" p) [.Call (.Name "set" p2) [e] [] pos2] [] pos) (tSSet X.K t) := by
  have h1 : PE X (.Call (.Name "sorted" p) [.Call (.Name "set" p2) [e] [] pos2] [] pos) (tCB (rSortedSet X.w) (tCons (tCB (rSetOf X.K X.w) t) tNil)) :=
    pe_callB (cr_sortedSet hc) hg hm (by decide +kernel) (pa_cons (pe_callTy (call_setOf hc) hg2 hm2 (by decide +kernel) ha (by decide) (by decide) hs2 rfl) pa_nil) (by decide) (by decide) hs rfl
  exact ⟨fun pins s σ H Q I h => h1.run pins s σ H Q I (h X.w)⟩
end
end Sy
namespace Sy
open PySem L2
section
variable {K : PySem.W.Frag} {σ : St} {H H1 : Hp} {L : List U} {Q : VK} {ta td te ty : TE} {tr : TA} {v x y z : V} {xs ys : List V} {i j n m : Int} {a b d p : Addr} {C : Addr} {nx bk ct : St → Hp → Prop} {rt : VK} {s1 : TS} {A : Prop}
def kSSet (K : PySem.W.Frag) (w : World) (vs : List V) (H1 : Hp) (Q : VK) : Prop := rSetOf K w vs H1 fun v H2 => rSortedSet w [v] H2 Q
theorem x_sset (q : ∀ w, tr σ H fun vs H1 => kSSet K w vs H1 Q) : tSSet K tr σ H Q := q
theorem k_sset {w : World} {ns : List Int} (hh : Has H L) (hp : H p = some (.lst (ns.map V.int))) (hl : ns.length < 64)
    (q : ∀ (ys : List Int) d H', ys.Pairwise (· < ·) → (∀ k, k ∈ ys ↔ k ∈ ns) → Has H' ([(d, .lst (ys.map V.int))] :: L) → Q (.ref d) H') : kSSet K w [.ref p] H Q := by
  refine ⟨p, ns, rfl, SqL.of hp, by omega, fun r c hr hc => ?_⟩
  have h1 := hh.nw (o := SetO w r (fun j => decide (j ∈ ns)) c) hr
  refine ⟨r, _, c, rfl, h1.g0, by omega, fun ys d hs hm _ hd => q ys d _ hs (fun k => (hm k).trans (by simp)) ?_⟩
  exact (h1.nw hd).sub (Sub.p0 (Sub.skip Sub.rf))
def kDPopT (a : Addr) (y : V) (H2 : Hp) (Q : VK) : Prop := ∃ kvs k b v, H2 a = some (.dT kvs) ∧ y = .ref b ∧ H2 b = some (.tup (k.map kV)) ∧ valV kvs k = some v ∧ Q v (upd H2 a (.dT (dropK kvs k)))
theorem x_dpopT (q : td σ H fun x H1 => kIsD x H1 fun a => ty σ H1 fun y H2 => kDPopT a y H2 Q) : tDPopT td ty σ H Q := q
theorem k_dpopT {mm : List ((Int × Int) × V)} {M : List U} (hp : H a = some (dP mm)) (hb : H b = some (.tup [.int i, .int j])) (hv : valV mm (i, j) = some v) (hh : Has (upd H a (dP (dropK mm (i, j)))) M) (q : ∀ H', Has H' M → Q v H') : kDPopT a (.ref b) H Q := by
  refine ⟨_, g2 (i, j), b, v, hp, rfl, hb, by rw [mk_val g2_inj]; exact hv, ?_⟩
  rw [mk_drop g2_inj]
  exact q _ hh
theorem dget_FP {o : Obj} {mm : List ((Int × Int) × V)} (hp : H a = some (.frz o (dP mm))) (hb : H b = some (.tup [.int i, .int j])) : DGet H a (.ref b) (valV mm (i, j)) := by
  rw [← mk_val g2_inj mm (i, j)]
  exact .inr ⟨_, g2 (i, j), b, .inr ⟨o, hp⟩, rfl, hb, rfl⟩
theorem k_dgetFP {o : Obj} {mm : List ((Int × Int) × V)} (hp : H a = some (.frz o (dP mm))) (hb : H b = some (.tup [.int i, .int j])) (hv : valV mm (i, j) = some v) (q : Q v H) : kDGet (.ref a) (.ref b) H Q := ⟨a, v, rfl, hv ▸ dget_FP hp hb, q⟩
/-- the keys of a locked dict, pairs, with a test and an element; behind the target the names are t -/
theorem lc_keysT {g : TG} {tt : TT} {o : Obj} {vs : List Nat} {mm : List ((Int × Int) × V)} (h : Int × Int → V) (c : Int × Int → Bool) (t : Addr → Int × Int → St) (hh : Has H L) (hd : ∀ H', Has H' L → H' d = some (.frz o (dP mm))) (hz : mm.length ≤ 100000)
    (hw : ∀ q, ∀ z ∈ mm.map (·.1), wipe (t q z) vs = wipe σ vs)
    (hg : ∀ q, ∀ z ∈ mm.map (·.1), ∀ D M H' (Q' : St → Hp → Prop), H' q = some (.tup [.int z.1, .int z.2]) → Has H' ([(D, .lst M)] :: L) → Q' (t q z) H' → g (.ref q) (wipe σ vs) H' Q')
    (ht : ∀ q, ∀ z ∈ mm.map (·.1), ∀ D M H' (Q' : Bool → Hp → Prop), H' q = some (.tup [.int z.1, .int z.2]) → Has H' ([(D, .lst M)] :: L) → (∀ H'', H'' q = some (.tup [.int z.1, .int z.2]) → Has H'' ([(D, .lst M)] :: L) → Q' (c z) H'') → tt (t q z) H' Q')
    (hs : ∀ q, ∀ z ∈ mm.map (·.1), c z = true → ∀ D M H' (Q' : VK), H' q = some (.tup [.int z.1, .int z.2]) → Has H' ([(D, .lst M)] :: L) → (∀ H'', Has H'' ([(D, .lst M)] :: L) → Q' (h z) H'') → te (t q z) H' Q')
    (q : ∀ D H', Has H' ([(D, .lst (((mm.map (·.1)).filter c).map h))] :: L) → Q (.ref D) H') : kLc g tt te vs σ (Itkt d o (mk g2 mm)) H Q := by
  intro D hD
  have hl : (mk g2 mm).length = mm.length := mk_len _ _
  refine ⟨fun i m H' => m = mm.length - i ∧ i ≤ mm.length ∧ Has H' ([(D, .lst ((((mm.map (·.1)).take i).filter c).map h))] :: L), ⟨mm.length, by simp, Nat.zero_le _, hh.nw hD⟩, ?_⟩
  rintro i m H' ⟨rfl, hi, p⟩
  have pl := hd H' (p.sub (Sub.skip Sub.rf))
  by_cases hlt : i < mm.length
  · refine .inr ⟨⟨pl, by rw [hl]; exact hlt⟩, fun H2 => Has H2 ([(D, .lst ((((mm.map (·.1)).take (i + 1)).filter c).map h))] :: L), fun H2 p2 => ⟨mm.length - (i + 1), by omega, rfl, hlt, p2⟩, fun x H2 y => ?_⟩
    obtain ⟨e, kk, vv, r, hk, ex, hr⟩ := y
    subst e
    have hz1 : (mm.map (·.1))[i]? = some (mm[i]).1 := by rw [List.getElem?_map, List.getElem?_eq_getElem hlt]; rfl
    have hkk : kk = g2 (mm[i]).1 := by
      unfold mk at hk
      rw [List.getElem?_map, List.getElem?_eq_getElem hlt] at hk
      exact (congrArg Prod.fst (Option.some.inj hk)).symm
    subst hkk ex
    have hr : H2 r = some (.tup [.int (mm[i]).1.1, .int (mm[i]).1.2]) := hr
    have hm : (mm[i]).1 ∈ mm.map (·.1) := List.mem_of_getElem? hz1
    have et : (mm.map (·.1)).take (i + 1) = (mm.map (·.1)).take i ++ [(mm[i]).1] := by rw [List.take_add_one, hz1]; rfl
    refine hg r _ hm D _ H2 _ hr p ⟨hw r _ hm, ht r _ hm D _ H2 _ hr p fun H3 hr3 h3 => ?_⟩
    refine ifB (fun e => ?_) (fun e => ?_)
    · refine hs r _ hm e D _ H3 _ hr3 h3 fun H4 h4 => ?_
      refine ⟨_, h4.g0, ?_, ?_⟩
      · rw [sizeLine_eq, List.length_map]
        have l1 := List.length_filter_le c ((mm.map (·.1)).take i)
        have l3 := List.length_take_le' i (mm.map (·.1))
        rw [List.length_map] at l3
        omega
      · rw [et, List.filter_append, List.map_append, List.filter_cons, if_pos e]
        exact h4.s0
    · rw [et, List.filter_append, List.filter_cons, if_neg (by rw [e]; decide)]
      simpa using h3
  · have e : i = mm.length := by omega
    subst e
    refine .inl ⟨⟨pl, by rw [hl]; exact Nat.le_refl _⟩, q D H' ?_⟩
    have e2 : (mm.map (·.1)).take mm.length = mm.map (·.1) := List.take_of_length_le (by rw [List.length_map]; exact Nat.le_refl _)
    rw [e2] at p
    exact p
/-- [h z for .. in d if c z], d a dict of pairs that stands in what is known -/
theorem x_lcT {g : TG} {tt : TT} {vs : List Nat} {mm : List ((Int × Int) × V)} (h : Int × Int → V) (c : Int × Int → Bool) (t : Addr → Int × Int → St) (hh : Has H ([(d, dP mm)] :: L)) (hz : mm.length ≤ 100000)
    (hw : ∀ q, ∀ z ∈ mm.map (·.1), wipe (t q z) vs = wipe σ vs)
    (htd : ∀ o H' (Q' : VK), Has H' ([(d, .frz o (dP mm))] :: L) → Q' (.ref d) H' → td σ H' Q')
    (hg : ∀ o q, ∀ z ∈ mm.map (·.1), ∀ D M H' (Q' : St → Hp → Prop), H' q = some (.tup [.int z.1, .int z.2]) → Has H' ([(D, .lst M)] :: [(d, .frz o (dP mm))] :: L) → Q' (t q z) H' → g (.ref q) (wipe σ vs) H' Q')
    (ht : ∀ o q, ∀ z ∈ mm.map (·.1), ∀ D M H' (Q' : Bool → Hp → Prop), H' q = some (.tup [.int z.1, .int z.2]) → Has H' ([(D, .lst M)] :: [(d, .frz o (dP mm))] :: L) → (∀ H'', H'' q = some (.tup [.int z.1, .int z.2]) → Has H'' ([(D, .lst M)] :: [(d, .frz o (dP mm))] :: L) → Q' (c z) H'') → tt (t q z) H' Q')
    (hs : ∀ o q, ∀ z ∈ mm.map (·.1), c z = true → ∀ D M H' (Q' : VK), H' q = some (.tup [.int z.1, .int z.2]) → Has H' ([(D, .lst M)] :: [(d, .frz o (dP mm))] :: L) → (∀ H'', Has H'' ([(D, .lst M)] :: [(d, .frz o (dP mm))] :: L) → Q' (h z) H'') → te (t q z) H' Q')
    (q : ∀ D H', Has H' ([(D, .lst (((mm.map (·.1)).filter c).map h))] :: [(d, dP mm)] :: L) → Q (.ref D) H') : tLockE (tLc (iKeys td) g tt te vs) σ H Q := by
  refine ⟨d, dP mm, hh.g0, trivial, fun o => ?_⟩
  have h1 : Has (upd H d (.frz o (dP mm))) ([(d, .frz o (dP mm))] :: L) := hh.s0
  have z : kLc g tt te vs σ (Itkt d o (mk g2 mm)) (upd H d (.frz o (dP mm))) (fun v H' => H' d = some (.frz o (dP mm)) ∧ Q v (upd H' d (dP mm))) :=
    lc_keysT h c t h1 (fun H' h' => h'.g0) hz hw (hg o) (ht o) (hs o) fun D H' h' => ⟨h'.g1, q D _ h'.s1⟩
  exact htd o _ _ h1 ⟨d, o, rfl, .inr ⟨mk g2 mm, h1.g0, z⟩⟩
theorem x_asgT {g : TG} {l : Nat} {tt : TT} {vs : List Nat} {mm : List ((Int × Int) × V)} (h : Int × Int → V) (c : Int × Int → Bool) (t : Addr → Int × Int → St) (hh : Has H ([(d, dP mm)] :: L)) (hz : mm.length ≤ 100000)
    (hw : ∀ q, ∀ z ∈ mm.map (·.1), wipe (t q z) vs = wipe σ vs)
    (htd : ∀ o H' (Q' : VK), Has H' ([(d, .frz o (dP mm))] :: L) → Q' (.ref d) H' → td σ H' Q')
    (hg : ∀ o q, ∀ z ∈ mm.map (·.1), ∀ D M H' (Q' : St → Hp → Prop), H' q = some (.tup [.int z.1, .int z.2]) → Has H' ([(D, .lst M)] :: [(d, .frz o (dP mm))] :: L) → Q' (t q z) H' → g (.ref q) (wipe σ vs) H' Q')
    (ht : ∀ o q, ∀ z ∈ mm.map (·.1), ∀ D M H' (Q' : Bool → Hp → Prop), H' q = some (.tup [.int z.1, .int z.2]) → Has H' ([(D, .lst M)] :: [(d, .frz o (dP mm))] :: L) → (∀ H'', H'' q = some (.tup [.int z.1, .int z.2]) → Has H'' ([(D, .lst M)] :: [(d, .frz o (dP mm))] :: L) → Q' (c z) H'') → tt (t q z) H' Q')
    (hs : ∀ o q, ∀ z ∈ mm.map (·.1), c z = true → ∀ D M H' (Q' : VK), H' q = some (.tup [.int z.1, .int z.2]) → Has H' ([(D, .lst M)] :: [(d, .frz o (dP mm))] :: L) → (∀ H'', Has H'' ([(D, .lst M)] :: [(d, .frz o (dP mm))] :: L) → Q' (h z) H'') → te (t q z) H' Q')
    (q : ∀ D H', Has H' ([(D, .lst (((mm.map (·.1)).filter c).map h))] :: [(d, dP mm)] :: L) → nx (σ.set l (some (.ref D))) H') : tLock (tAsg (tLc (iKeys td) g tt te vs) (gName l)) ⟨nx, rt, bk, ct⟩ σ H := by
  refine ⟨d, dP mm, hh.g0, trivial, fun o => ?_⟩
  have h1 : Has (upd H d (.frz o (dP mm))) ([(d, .frz o (dP mm))] :: L) := hh.s0
  have z : kLc g tt te vs σ (Itkt d o (mk g2 mm)) (upd H d (.frz o (dP mm))) (fun v H' => H' d = some (.frz o (dP mm)) ∧ nx (σ.set l (some v)) (upd H' d (dP mm))) :=
    lc_keysT h c t h1 (fun H' h' => h'.g0) hz hw (hg o) (ht o) (hs o) fun D H' h' => ⟨h'.g1, q D _ h'.s1⟩
  exact htd o _ _ h1 ⟨d, o, rfl, .inr ⟨mk g2 mm, h1.g0, z⟩⟩
/-- x in t, texts -/
theorem k_inS {neg : Bool} {ss : List Str} {x : Str} (hp : H p = some (.tup (ss.map V.str))) (q : Q (.bl (if neg then !decide (x ∈ ss) else decide (x ∈ ss))) H) : rIn K neg (.str x) (.ref p) H Q := by
  refine ⟨p, _, rfl, .inr (SqT.of hp), rfl, ?_, ?_⟩
  · rw [List.all_eq_true]
    intro y hy
    obtain ⟨z, _, rfl⟩ := List.mem_map.mp hy
    rfl
  · have e : inV (.str x) (ss.map V.str) = decide (x ∈ ss) := by
      unfold inV
      rw [List.any_map]
      by_cases h : x ∈ ss
      · rw [decide_eq_true h, List.any_eq_true]
        exact ⟨x, h, by simp [eqV]⟩
      · rw [decide_eq_false h, List.any_eq_false]
        intro z hz
        have : z ≠ x := fun e => h (e ▸ hz)
        simp [eqV, this]
    rw [e]
    exact q
end
end Sy
/-! Lists of pairs of whole numbers: sorted, ==; xs.remove, xs.count. -/
namespace Sy
open PySem L2
/-- new objects, each with what it bears -/
def fmU {β : Type} (ob : β → HO) (m : List (Addr × β)) : U := m.map fun q => (q.1, ob q.2)
def fmR {β : Type} (m : List (Addr × β)) : List V := m.map fun q => V.ref q.1
abbrev Prs := List (Addr × (Int × Int))
def obP (q : Int × Int) : HO := .tup [.int q.1, .int q.2]
abbrev prU (m : Prs) : U := fmU obP m
abbrev prR (m : Prs) : List V := fmR m
theorem fmU_snoc {β : Type} (ob : β → HO) (m : List (Addr × β)) (t : Addr) (b : β) : fmU ob (m ++ [(t, b)]) = fmU ob m ++ [(t, ob b)] := by unfold fmU; rw [List.map_append]; rfl
theorem fmR_snoc {β : Type} (m : List (Addr × β)) (t : Addr) (b : β) : fmR (m ++ [(t, b)]) = fmR m ++ [.ref t] := by unfold fmR; rw [List.map_append]; rfl
theorem Has.fms {β : Type} {ob : β → HO} {H : Hp} {zs : List (Addr × β)} {L : List U} (h : Has H (fmU ob zs :: L)) : ∀ q ∈ zs, H q.1 = some (ob q.2) := fun q hq => h.2 (q.1, ob q.2) (List.mem_append.mpr (.inl (List.mem_map.mpr ⟨q, hq, rfl⟩)))
/-- a before b, or alike -/
def leP (a b : Int × Int) : Prop := a.1 < b.1 ∨ (a.1 = b.1 ∧ a.2 ≤ b.2)
section
variable {K : PySem.W.Frag} {σ : St} {H H1 : Hp} {L : List U} {Q : VK} {a b d p : Addr}
theorem Has.prs {zs : Prs} (h : Has H (prU zs :: L)) : ∀ q ∈ zs, H q.1 = some (.tup [.int q.2.1, .int q.2.2]) := fun q hq => h.2 (q.1, .tup [.int q.2.1, .int q.2.2]) (List.mem_append.mpr (.inl (List.mem_map.mpr ⟨q, hq, rfl⟩)))
def keyP (zs : Prs) (x : V) : Int × Int := ((zs.find? fun q => match x with | .ref t => decide (q.1 = t) | _ => false).map (·.2)).getD (0, 0)
theorem keyP_of : ∀ {zs : Prs}, (zs.map (·.1)).Nodup → ∀ q ∈ zs, keyP zs (.ref q.1) = q.2
  | [], _, q, hq => by cases hq
  | z :: r, nd, q, hq => by
    have nd2 := List.nodup_cons.mp (show (z.1 :: r.map (·.1)).Nodup from nd)
    rcases List.mem_cons.mp hq with e | e
    · subst e
      simp [keyP, List.find?_cons]
    · have hne : ¬ z.1 = q.1 := fun h => nd2.1 (h ▸ List.mem_map.mpr ⟨q, e, rfl⟩)
      have ih := keyP_of nd2.2 q e
      unfold keyP at ih ⊢
      rw [List.find?_cons]
      simp only [decide_eq_false hne]
      exact ih
theorem k_sortP {zs : Prs} (hh : Has H (prU zs :: L)) (hp : H p = some (.lst (prR zs)))
    (q : ∀ (ys : Prs) d H', ys.Perm zs → (ys.map (·.2)).Pairwise leP → Has H' ([(d, .lst (prR ys))] :: prU zs :: L) → Q (.ref d) H') : rSortedPO K [.ref p] H Q := by
  have nd : (zs.map (·.1)).Nodup := by
    have h1 := hh.1
    rw [show (prU zs :: L).flatten = prU zs ++ L.flatten from rfl, List.map_append] at h1
    have h2 := (List.nodup_append.mp h1).1
    unfold prU fmU at h2
    rw [List.map_map] at h2
    exact h2
  have key := keyP_of nd
  have fam := hh.prs
  refine ⟨p, prR zs, keyP zs, rfl, SqL.of hp, fun x hx => ?_, fun vs d hs ht hd => ?_⟩
  · obtain ⟨z, hz, rfl⟩ := List.mem_map.mp hx
    refine ⟨z.1, rfl, ?_⟩
    rw [key z hz]
    exact fam z hz
  · obtain ⟨ys, py, ey⟩ := perm_lift (fun q : Addr × (Int × Int) => V.ref q.1) ht.perm zs rfl
    subst ey
    refine q ys d _ py ?_ (hh.nw hd)
    have hs2 : (ys.map fun q : Addr × (Int × Int) => V.ref q.1).Pairwise fun x y => SrtO.lexB (keyP zs y) (keyP zs x) = false := hs
    rw [List.pairwise_map] at hs2 ⊢
    refine List.Pairwise.imp_of_mem (fun {x y} hx hy h => ?_) hs2
    rw [key x (py.mem_iff.mp hx), key y (py.mem_iff.mp hy)] at h
    have h2 := SrtO.lexB_no.mp h
    unfold leP
    omega
theorem leP_uniq {xs ys : List (Int × Int)} (h1 : xs.Pairwise leP) (h2 : ys.Pairwise leP) (p : xs.Perm ys) : xs = ys := p.eq_of_pairwise (fun a b _ _ h h' => by
  unfold leP at h h'
  exact Prod.ext (by omega) (by omega)) h1 h2
theorem dpAll_prs {zs : Prs} (f : ∀ q ∈ zs, H q.1 = some (.tup [.int q.2.1, .int q.2.2])) : DpAll K H (prR zs) ((zs.map (·.2)).map fun q => PyData.tuple [.int q.1, .int q.2]) := by
  induction zs with
  | nil => exact .nil
  | cons z r ih => exact .cons (.tup (SqT.of (f z (List.mem_cons.mpr (.inl rfl)))) (.cons (.int _) (.cons (.int _) .nil))) (ih fun q hq => f q (List.mem_cons_of_mem _ hq))
def pd (q : Int × Int) : PyData := .tuple [.int q.1, .int q.2]
theorem eqv_prs (ns : List (Int × Int)) : ∀ ms : List (Int × Int), PyData.eqv (.list (ns.map pd)) (.list (ms.map pd)) = decide (ns = ms) := by
  induction ns with
  | nil =>
    intro ms
    cases ms with
    | nil => rfl
    | cons m r => rfl
  | cons n r ih =>
    intro ms
    cases ms with
    | nil => rfl
    | cons m s =>
      have h := ih s
      simp [PyData.eqv, PyData.eqvAll, pd] at h ⊢
      rw [h]
      by_cases e1 : n = m
      · subst e1; by_cases e2 : r = s <;> simp [e2]
      · have e3 : ¬ (n.1 = m.1 ∧ n.2 = m.2) := fun z => e1 (Prod.ext z.1 z.2)
        simp [e1]
        intro z1 z2
        exact absurd ⟨z1, z2⟩ e3
theorem lay_prs (ns : List (Int × Int)) : PyData.canLayAll0 (ns.map pd) = true := by
  induction ns with
  | nil => simp [PyData.canLayAll0]
  | cons n r ih => simp [PyData.canLayAll0, PyData.canLay0, pd] ; exact ih
theorem deep_prs (ns : List (Int × Int)) : PyData.depthAll (ns.map pd) ≤ 2 := by
  induction ns with
  | nil => simp [PyData.depthAll]
  | cons n r ih => simp [PyData.depthAll, PyData.depth, pd]; omega
theorem shaped_prs (ns : List (Int × Int)) : SeqAt.shaped (.list (ns.map pd)) = true := by
  have h := deep_prs ns
  simp [SeqAt.shaped, PyData.canLay0, lay_prs, PyData.depth]
  omega
theorem k_eqLP {zs ws : Prs} (hp : H a = some (.lst (prR zs))) (hq : H b = some (.lst (prR ws))) (fz : ∀ q ∈ zs, H q.1 = some (.tup [.int q.2.1, .int q.2.2])) (fw : ∀ q ∈ ws, H q.1 = some (.tup [.int q.2.1, .int q.2.2])) (q : Q (.bl (decide (zs.map (·.2) = ws.map (·.2)))) H) : rEqD K (.ref a) (.ref b) H Q :=
  ⟨_, _, .lst (SqL.of hp) (dpAll_prs fz), .lst (SqL.of hq) (dpAll_prs fw), shaped_prs _, shaped_prs _, by rw [show (fun q : Int × Int => PyData.tuple [.int q.1, .int q.2]) = pd from rfl, eqv_prs]; exact q⟩
theorem k_neLP {zs ws : Prs} (hp : H a = some (.lst (prR zs))) (hq : H b = some (.lst (prR ws))) (fz : ∀ q ∈ zs, H q.1 = some (.tup [.int q.2.1, .int q.2.2])) (fw : ∀ q ∈ ws, H q.1 = some (.tup [.int q.2.1, .int q.2.2])) (q : Q (.bl (!decide (zs.map (·.2) = ws.map (·.2)))) H) : rNeD K (.ref a) (.ref b) H Q :=
  ⟨_, _, .lst (SqL.of hp) (dpAll_prs fz), .lst (SqL.of hq) (dpAll_prs fw), shaped_prs _, shaped_prs _, by rw [show (fun q : Int × Int => PyData.tuple [.int q.1, .int q.2]) = pd from rfl, eqv_prs]; exact q⟩
/-- one more of the new objects -/
theorem fm_add {β : Type} {ob : β → HO} {D t : Addr} {m : List (Addr × β)} {b : β} (h : Has H ([(t, ob b)] :: [(D, .lst (fmR m))] :: fmU ob m :: L)) : Has (upd H D (.lst (fmR m ++ [.ref t]))) ([(D, .lst (fmR (m ++ [(t, b)])))] :: fmU ob (m ++ [(t, b)]) :: L) := by
  have h1 : Has (upd H D (.lst (fmR m ++ [.ref t]))) ([(t, ob b)] :: [(D, .lst (fmR m ++ [.ref t]))] :: fmU ob m :: L) := h.s1
  rw [fmR_snoc, fmU_snoc]
  exact (Has.op.mpr (h1.sub (show Sub (fmU ob m :: [(t, ob b)] :: _) _ from Sub.p2 (Sub.p0 Sub.rf)))).sub (Sub.p1 (Sub.p0 Sub.rf))
/-- [new object for .. in zs if c z] -/
theorem k_lcN {α β : Type} {g : TG} {tt : TT} {te : TE} {vs : List Nat} (zs : List α) (e : α → V) (ob : β → HO) (h : α → β) (c : α → Bool) (t : α → St) (hh : Has H L) (ha : ∀ H', Has H' L → H' a = some (.lst (zs.map e))) (hz : zs.length ≤ 100000) (hw : ∀ z ∈ zs, wipe (t z) vs = wipe σ vs)
    (hg : ∀ z ∈ zs, ∀ D m H' (Q' : St → Hp → Prop), Has H' ([(D, .lst (fmR m))] :: fmU ob m :: L) → Q' (t z) H' → g (e z) (wipe σ vs) H' Q')
    (ht : ∀ z ∈ zs, ∀ D m H' (Q' : Bool → Hp → Prop), Has H' ([(D, .lst (fmR m))] :: fmU ob m :: L) → (∀ H'', Has H'' ([(D, .lst (fmR m))] :: fmU ob m :: L) → Q' (c z) H'') → tt (t z) H' Q')
    (hs : ∀ z ∈ zs, c z = true → ∀ D m H' (Q' : VK), Has H' ([(D, .lst (fmR m))] :: fmU ob m :: L) → (∀ u H'', Has H'' ([(u, ob (h z))] :: [(D, .lst (fmR m))] :: fmU ob m :: L) → Q' (.ref u) H'') → te (t z) H' Q')
    (q : ∀ D m H', m.map (·.2) = (zs.filter c).map h → Has H' ([(D, .lst (fmR m))] :: fmU ob m :: L) → Q (.ref D) H') : kLcL K g tt te vs σ (.ref a) H Q := by
  refine k_lcL (L := L) hh (fun D i H' => ∃ m : List (Addr × β), m.map (·.2) = ((zs.take i).filter c).map h ∧ Has H' ([(D, .lst (fmR m))] :: fmU ob m :: L)) (ha H hh) (fun D H' h' => ⟨[], rfl, (Has.nilU.mpr h').sub (Sub.p1 (Sub.p0 Sub.rf))⟩) (fun D i H' h' => ha H' (h'.choose_spec.2.sub (Sub.skip (Sub.skip Sub.rf)))) (fun D i x H' hi h' => ?_) (fun D H' h' => ?_)
  · obtain ⟨m, em, h'⟩ := h'
    rw [List.getElem?_map] at hi
    obtain ⟨z, hz1, rfl⟩ := Option.map_eq_some_iff.mp hi
    have hm : z ∈ zs := List.mem_of_getElem? hz1
    have et : zs.take (i + 1) = zs.take i ++ [z] := by rw [List.take_add_one, hz1]; rfl
    refine hg z hm D m H' _ h' ⟨hw z hm, ht z hm D m H' _ h' fun H2 h2 => ?_⟩
    refine ifB (fun e => ?_) (fun e => ?_)
    · refine hs z hm e D m H2 _ h2 fun u H3 h3 => ?_
      refine ⟨_, h3.g1, ?_, m ++ [(u, h z)], ?_, fm_add h3⟩
      · rw [sizeLine_eq]
        unfold fmR
        rw [List.length_map]
        have l0 := congrArg List.length em
        rw [List.length_map, List.length_map] at l0
        have l1 := List.length_filter_le c (zs.take i)
        have l3 := List.length_take_le' i zs
        omega
      · rw [et, List.filter_append, List.map_append, List.map_append, em, List.filter_cons, if_pos e]
        rfl
    · refine ⟨m, ?_, h2⟩
      rw [et, List.filter_append, List.filter_cons, if_neg (by rw [e]; decide), em]
      simp
  · obtain ⟨m, em, h'⟩ := h'
    rw [List.length_map, List.take_length] at em
    exact q D m H' em h'
/-- the keys of a locked dict, pairs, with a test; the elements are new objects -/
theorem lc_keysTN {β : Type} {g : TG} {tt : TT} {te : TE} {o : Obj} {vs : List Nat} {mm : List ((Int × Int) × V)} (ob : β → HO) (h : Int × Int → β) (c : Int × Int → Bool) (t : Addr → Int × Int → St) (hh : Has H L) (hd : ∀ H', Has H' L → H' d = some (.frz o (dP mm))) (hz : mm.length ≤ 100000)
    (hw : ∀ q, ∀ z ∈ mm.map (·.1), wipe (t q z) vs = wipe σ vs)
    (hg : ∀ q, ∀ z ∈ mm.map (·.1), ∀ D m H' (Q' : St → Hp → Prop), H' q = some (.tup [.int z.1, .int z.2]) → Has H' ([(D, .lst (fmR m))] :: fmU ob m :: L) → Q' (t q z) H' → g (.ref q) (wipe σ vs) H' Q')
    (ht : ∀ q, ∀ z ∈ mm.map (·.1), ∀ D m H' (Q' : Bool → Hp → Prop), H' q = some (.tup [.int z.1, .int z.2]) → Has H' ([(D, .lst (fmR m))] :: fmU ob m :: L) → (∀ H'', H'' q = some (.tup [.int z.1, .int z.2]) → Has H'' ([(D, .lst (fmR m))] :: fmU ob m :: L) → Q' (c z) H'') → tt (t q z) H' Q')
    (hs : ∀ q, ∀ z ∈ mm.map (·.1), c z = true → ∀ D m H' (Q' : VK), H' q = some (.tup [.int z.1, .int z.2]) → Has H' ([(D, .lst (fmR m))] :: fmU ob m :: L) → (∀ u H'', Has H'' ([(u, ob (h z))] :: [(D, .lst (fmR m))] :: fmU ob m :: L) → Q' (.ref u) H'') → te (t q z) H' Q')
    (q : ∀ D m H', m.map (·.2) = ((mm.map (·.1)).filter c).map h → Has H' ([(D, .lst (fmR m))] :: fmU ob m :: L) → Q (.ref D) H') : kLc g tt te vs σ (Itkt d o (mk g2 mm)) H Q := by
  intro D hD
  have hl : (mk g2 mm).length = mm.length := mk_len _ _
  refine ⟨fun i m H' => m = mm.length - i ∧ i ≤ mm.length ∧ ∃ ms : List (Addr × β), ms.map (·.2) = (((mm.map (·.1)).take i).filter c).map h ∧ Has H' ([(D, .lst (fmR ms))] :: fmU ob ms :: L), ⟨mm.length, by simp, Nat.zero_le _, [], rfl, (Has.nilU.mpr (hh.nw hD)).sub (Sub.p1 (Sub.p0 Sub.rf))⟩, ?_⟩
  rintro i m H' ⟨rfl, hi, ms, em, p⟩
  have pl := hd H' (p.sub (Sub.skip (Sub.skip Sub.rf)))
  by_cases hlt : i < mm.length
  · refine .inr ⟨⟨pl, by rw [hl]; exact hlt⟩, fun H2 => ∃ ms : List (Addr × β), ms.map (·.2) = (((mm.map (·.1)).take (i + 1)).filter c).map h ∧ Has H2 ([(D, .lst (fmR ms))] :: fmU ob ms :: L), fun H2 p2 => ⟨mm.length - (i + 1), by omega, rfl, hlt, p2⟩, fun x H2 y => ?_⟩
    obtain ⟨e, kk, vv, r, hk, ex, hr⟩ := y
    subst e
    have hz1 : (mm.map (·.1))[i]? = some (mm[i]).1 := by rw [List.getElem?_map, List.getElem?_eq_getElem hlt]; rfl
    have hkk : kk = g2 (mm[i]).1 := by
      unfold mk at hk
      rw [List.getElem?_map, List.getElem?_eq_getElem hlt] at hk
      exact (congrArg Prod.fst (Option.some.inj hk)).symm
    subst hkk ex
    have hr : H2 r = some (.tup [.int (mm[i]).1.1, .int (mm[i]).1.2]) := hr
    have hm : (mm[i]).1 ∈ mm.map (·.1) := List.mem_of_getElem? hz1
    have et : (mm.map (·.1)).take (i + 1) = (mm.map (·.1)).take i ++ [(mm[i]).1] := by rw [List.take_add_one, hz1]; rfl
    refine hg r _ hm D ms H2 _ hr p ⟨hw r _ hm, ht r _ hm D ms H2 _ hr p fun H3 hr3 h3 => ?_⟩
    refine ifB (fun e => ?_) (fun e => ?_)
    · refine hs r _ hm e D ms H3 _ hr3 h3 fun u H4 h4 => ?_
      refine ⟨_, h4.g1, ?_, ms ++ [(u, h (mm[i]).1)], ?_, fm_add h4⟩
      · rw [sizeLine_eq]
        unfold fmR
        rw [List.length_map]
        have l0 := congrArg List.length em
        rw [List.length_map, List.length_map] at l0
        have l1 := List.length_filter_le c ((mm.map (·.1)).take i)
        have l3 := List.length_take_le' i (mm.map (·.1))
        rw [List.length_map] at l3
        omega
      · rw [et, List.filter_append, List.map_append, List.map_append, em, List.filter_cons, if_pos e]
        rfl
    · refine ⟨ms, ?_, h3⟩
      rw [et, List.filter_append, List.filter_cons, if_neg (by rw [e]; decide), em]
      simp
  · have e : i = mm.length := by omega
    subst e
    have e2 : (mm.map (·.1)).take mm.length = mm.map (·.1) := List.take_of_length_le (by rw [List.length_map]; exact Nat.le_refl _)
    rw [e2] at em
    exact .inl ⟨⟨pl, by rw [hl]; exact Nat.le_refl _⟩, q D ms H' em p⟩
theorem x_lcTN {β : Type} {td te : TE} {g : TG} {tt : TT} {vs : List Nat} {mm : List ((Int × Int) × V)} (ob : β → HO) (h : Int × Int → β) (c : Int × Int → Bool) (t : Addr → Int × Int → St) (hh : Has H ([(d, dP mm)] :: L)) (hz : mm.length ≤ 100000)
    (hw : ∀ q, ∀ z ∈ mm.map (·.1), wipe (t q z) vs = wipe σ vs)
    (htd : ∀ o H' (Q' : VK), Has H' ([(d, .frz o (dP mm))] :: L) → Q' (.ref d) H' → td σ H' Q')
    (hg : ∀ o q, ∀ z ∈ mm.map (·.1), ∀ D m H' (Q' : St → Hp → Prop), H' q = some (.tup [.int z.1, .int z.2]) → Has H' ([(D, .lst (fmR m))] :: fmU ob m :: [(d, .frz o (dP mm))] :: L) → Q' (t q z) H' → g (.ref q) (wipe σ vs) H' Q')
    (ht : ∀ o q, ∀ z ∈ mm.map (·.1), ∀ D m H' (Q' : Bool → Hp → Prop), H' q = some (.tup [.int z.1, .int z.2]) → Has H' ([(D, .lst (fmR m))] :: fmU ob m :: [(d, .frz o (dP mm))] :: L) → (∀ H'', H'' q = some (.tup [.int z.1, .int z.2]) → Has H'' ([(D, .lst (fmR m))] :: fmU ob m :: [(d, .frz o (dP mm))] :: L) → Q' (c z) H'') → tt (t q z) H' Q')
    (hs : ∀ o q, ∀ z ∈ mm.map (·.1), c z = true → ∀ D m H' (Q' : VK), H' q = some (.tup [.int z.1, .int z.2]) → Has H' ([(D, .lst (fmR m))] :: fmU ob m :: [(d, .frz o (dP mm))] :: L) → (∀ u H'', Has H'' ([(u, ob (h z))] :: [(D, .lst (fmR m))] :: fmU ob m :: [(d, .frz o (dP mm))] :: L) → Q' (.ref u) H'') → te (t q z) H' Q')
    (q : ∀ D m H', m.map (·.2) = ((mm.map (·.1)).filter c).map h → Has H' ([(D, .lst (fmR m))] :: fmU ob m :: [(d, dP mm)] :: L) → Q (.ref D) H') : tLockE (tLc (iKeys td) g tt te vs) σ H Q := by
  refine ⟨d, dP mm, hh.g0, trivial, fun o => ?_⟩
  have h1 : Has (upd H d (.frz o (dP mm))) ([(d, .frz o (dP mm))] :: L) := hh.s0
  have z : kLc g tt te vs σ (Itkt d o (mk g2 mm)) (upd H d (.frz o (dP mm))) (fun v H' => H' d = some (.frz o (dP mm)) ∧ Q v (upd H' d (dP mm))) :=
    lc_keysTN ob h c t h1 (fun H' h' => h'.g0) hz hw (hg o) (ht o) (hs o) fun D m H' em h' => ⟨h'.g2, q D m _ em h'.s2⟩
  exact htd o _ _ h1 ⟨d, o, rfl, .inr ⟨mk g2 mm, h1.g0, z⟩⟩
/-- xs.remove(k), xs.count(k) -/
theorem k_rem {ns : List Int} {k : Int} {M : List U} (hp : H a = some (.lst (ns.map V.int))) (hk : k ∈ ns) (hh : Has (upd H a (.lst ((ns.erase k).map V.int))) M) (q : ∀ H', Has H' M → Q .non H') : rRemI (.ref a) [.int k] H Q := by
  obtain ⟨j, h1, h2, h3, h4⟩ : ∃ j, j < ns.length ∧ ns[j]? = some k ∧ (∀ i, i < j → ns[i]? ≠ some k) ∧ ns.eraseIdx j = ns.erase k := by
    clear hp hh q
    induction ns with
    | nil => cases hk
    | cons z r ih =>
      by_cases e : z = k
      · exact ⟨0, Nat.succ_pos _, by rw [e]; rfl, fun i hi => absurd hi (Nat.not_lt_zero _), by rw [e, List.erase_cons_head]; rfl⟩
      · obtain ⟨j, h1, h2, h3, h4⟩ := ih ((List.mem_cons.mp hk).resolve_left fun z => e z.symm)
        refine ⟨j + 1, Nat.succ_lt_succ h1, h2, fun i hi => ?_, ?_⟩
        · cases i with
          | zero => exact fun z => e (Option.some.inj z)
          | succ i => exact h3 i (Nat.lt_of_succ_lt_succ hi)
        · rw [List.erase_cons_tail (by simpa using e), ← h4]
          rfl
  refine ⟨a, ns, k, j, rfl, rfl, hp, h2, h3, ?_⟩
  rw [h4]
  exact q _ hh
theorem k_cnt {ns : List Int} {k : Int} (hp : H a = some (.lst (ns.map V.int))) (q : Q (.int (ns.count k : Nat)) H) : rCntI K (.ref a) [.int k] H Q := ⟨a, ns, k, rfl, rfl, SqL.of hp, q⟩
/-! ### rows: a list of lists, each by itself -/
abbrev Rows := List (Addr × List Int)
def obL (l : List Int) : HO := .lst (l.map V.int)
theorem fm_out {β : Type} {ob : β → HO} {A B : List (Addr × β)} {b : β} (h : Has H (fmU ob (A ++ (a, b) :: B) :: L)) : Has H ([(a, ob b)] :: fmU ob A :: fmU ob B :: L) := by
  have e : fmU ob (A ++ (a, b) :: B) = fmU ob A ++ ([(a, ob b)] ++ fmU ob B) := by unfold fmU; rw [List.map_append]; rfl
  rw [e] at h
  exact (Has.op.mp ((Has.op.mp h).sub (show Sub ((_ ++ _) :: fmU ob A :: L) _ from Sub.p1 (Sub.p0 Sub.rf)))).sub (Sub.p0 (Sub.p1 (Sub.p0 Sub.rf)))
theorem fm_in {β : Type} {ob : β → HO} {A B : List (Addr × β)} {b : β} (h : Has H ([(a, ob b)] :: fmU ob A :: fmU ob B :: L)) : Has H (fmU ob (A ++ (a, b) :: B) :: L) := by
  have e : fmU ob (A ++ (a, b) :: B) = fmU ob A ++ ([(a, ob b)] ++ fmU ob B) := by unfold fmU; rw [List.map_append]; rfl
  rw [e]
  refine Has.op.mpr ?_
  exact (Has.op.mpr (h.sub (show Sub ([(a, ob b)] :: fmU ob B :: fmU ob A :: L) _ from Sub.p0 (Sub.p1 (Sub.p0 Sub.rf))))).sub (Sub.p1 (Sub.p0 Sub.rf))
theorem split_at {α : Type} : ∀ {l : List α} {k : Nat} {q : α}, l[k]? = some q → ∃ A B, l = A ++ q :: B ∧ A.length = k
  | [], k, q, h => by simp at h
  | x :: r, 0, q, h => ⟨[], r, by rw [show x = q from Option.some.inj h]; rfl, rfl⟩
  | x :: r, k + 1, q, h => by
    obtain ⟨A, B, e, el⟩ := split_at (l := r) (k := k) (q := q) h
    exact ⟨x :: A, B, by rw [e]; rfl, by rw [← el]; rfl⟩
theorem fmR_mid {β : Type} {A B : List (Addr × β)} {b c : β} : fmR (A ++ (a, b) :: B) = fmR (A ++ (a, c) :: B) := by unfold fmR; rw [List.map_append, List.map_append]; rfl
theorem fmR_at {β : Type} {A B : List (Addr × β)} {b : β} {k : Int} (k0 : 0 ≤ k) (h : A.length = k.toNat) : atI (fmR (A ++ (a, b) :: B)) k = some (.ref a) := by
  refine at_n k0 ?_
  unfold fmR
  rw [List.map_append, List.getElem?_append_right (by rw [List.length_map]; omega), List.length_map, h, Nat.sub_self]
  rfl
theorem k_lcRN {β : Type} {te : TE} {k : Nat} {n : Int} (ob : β → HO) (h : Int → β) (hh : Has H L) (hn : 0 ≤ n ∧ n ≤ 100000)
    (hs : ∀ z : Int, 0 ≤ z → z < n → ∀ D m H' (Q' : VK), Has H' ([(D, .lst (fmR m))] :: fmU ob m :: L) → (∀ u H'', Has H'' ([(u, ob (h z))] :: [(D, .lst (fmR m))] :: fmU ob m :: L) → Q' (.ref u) H'') → te ((wipe σ [k]).set k (some (.int z))) H' Q')
    (q : ∀ D m H', m.map (·.2) = (rgI n).map h → Has H' ([(D, .lst (fmR m))] :: fmU ob m :: L) → Q (.ref D) H') : kLcR (gName k) tYes te [k] σ [.int n] H Q := by
  have hw : ∀ x, wipe ((wipe σ [k]).set k (some x)) [k] = wipe σ [k] := fun x => by
    show ((σ.set k none).set k (some x)).set k none = σ.set k none
    rw [List.set_set, List.set_set]
  refine k_lcR (L := L) hh (fun D i H' => ∃ m : List (Addr × β), m.map (·.2) = (rgI i).map h ∧ Has H' ([(D, .lst (fmR m))] :: fmU ob m :: L)) hn (fun D H' h' => ⟨[], rfl, (Has.nilU.mpr h').sub (Sub.p1 (Sub.p0 Sub.rf))⟩) (fun D i H' hi h' => ?_) (fun D H' h' => ?_)
  · obtain ⟨m, em, h'⟩ := h'
    have et : rgI ((i + 1 : Nat) : Int) = rgI i ++ [(i : Int)] := by
      unfold rgI
      rw [Int.toNat_natCast, Int.toNat_natCast, List.range_succ, List.map_append]
      rfl
    have lr : (rgI (i : Int)).length = i := by rw [rgI_len, Int.toNat_natCast]
    refine ⟨hw _, ?_⟩
    refine x_yes (ifT (hs i (by omega) hi D m H' _ h' fun u H3 h3 => ?_))
    refine ⟨_, h3.g1, ?_, m ++ [(u, h i)], ?_, fm_add h3⟩
    · rw [sizeLine_eq]
      unfold fmR
      rw [List.length_map]
      have l0 := congrArg List.length em
      rw [List.length_map, List.length_map] at l0
      omega
    · rw [et, List.map_append, List.map_append, em]
      rfl
  · obtain ⟨m, em, h'⟩ := h'
    rw [Int.toNat_of_nonneg hn.1] at em
    exact q D m H' em h'
/-- b in bs, truths -/
theorem k_inB {neg : Bool} {bs : List Bool} {b : Bool} (hp : H p = some (.lst (bs.map V.bl))) (q : Q (.bl (if neg then !decide (b ∈ bs) else decide (b ∈ bs))) H) : rIn K neg (.bl b) (.ref p) H Q := by
  refine ⟨p, _, rfl, .inl (SqL.of hp), rfl, ?_, ?_⟩
  · rw [List.all_eq_true]
    intro y hy
    obtain ⟨z, _, rfl⟩ := List.mem_map.mp hy
    rfl
  · have e : inV (.bl b) (bs.map V.bl) = decide (b ∈ bs) := by
      unfold inV
      rw [List.any_map]
      by_cases h : b ∈ bs
      · rw [decide_eq_true h, List.any_eq_true]
        exact ⟨b, h, by simp [eqV]⟩
      · rw [decide_eq_false h, List.any_eq_false]
        intro z hz
        have : z ≠ b := fun e => h (e ▸ hz)
        cases b <;> cases z <;> simp_all [eqV]
    rw [e]
    exact q
theorem perm_mem {α : Type} [DecidableEq α] : ∀ {l m : List α}, l.Nodup → m.Nodup → (∀ z, z ∈ l ↔ z ∈ m) → l.Perm m
  | [], m, _, _, h => by
    cases m with
    | nil => exact .refl _
    | cons a r => exact absurd ((h a).mpr (List.mem_cons.mpr (.inl rfl))) List.not_mem_nil
  | a :: r, m, nl, nm, h => by
    have ha : a ∈ m := (h a).mp (List.mem_cons.mpr (.inl rfl))
    have nl2 := List.nodup_cons.mp nl
    have ih := perm_mem (l := r) (m := m.erase a) nl2.2 (nm.erase _) fun z => by
      rw [nm.mem_erase_iff]
      constructor
      · intro hz
        exact ⟨fun e => nl2.1 (e ▸ hz), (h z).mp (List.mem_cons_of_mem _ hz)⟩
      · intro hz
        rcases List.mem_cons.mp ((h z).mpr hz.2) with e | e
        · exact absurd e hz.1
        · exact e
    exact (ih.cons a).trans (List.perm_cons_erase ha).symm
theorem rise_nodup {l : List Int} (h : l.Pairwise (· < ·)) : l.Nodup := h.imp fun h => Int.ne_of_lt h
theorem rise_eq {l m : List Int} (h1 : l.Pairwise (· < ·)) (h2 : m.Pairwise (· < ·)) (h : ∀ z, z ∈ l ↔ z ∈ m) : l = m :=
  (perm_mem (rise_nodup h1) (rise_nodup h2) h).eq_of_pairwise (fun a b _ _ h h' => Int.le_antisymm h h') (h1.imp fun h => Int.le_of_lt h) (h2.imp fun h => Int.le_of_lt h)
end
end Sy
/-! More rules: C(e, k = v), a list taken apart, while. -/
namespace Sy
open PySem L2
abbrev gKw : List V → List V → List V := fun vs zs => vs ++ zs
/-- one of two readings of the same expression -/
def tOrE (t u : TE) : TE := fun σ H Q => t σ H Q ∨ u σ H Q
theorem pe_orE {X : Cx} {e : Expr} {t u : TE} (h1 : PE X e t) (h2 : PE X e u) : PE X e (tOrE t u) := ⟨fun pins s σ H Q I h => h.elim (h1.run pins s σ H Q I) (h2.run pins s σ H Q I)⟩
section
variable {K : PySem.W.Frag} {σ : St} {H H1 : Hp} {L : List U} {Q : VK} {QS : St → Hp → Prop} {a b d p C : Addr} {nx bk ct : St → Hp → Prop} {rt : VK} {xs : List V} {tr tk : TA}
def kMakeN (C : Addr) (n m : Nat) (sp : Sp) (gV : List V → List V → List V) (E : XK) (vs zs : List V) (H2 : Hp) (Q : VK) : Prop := vs.length = n ∧ zs.length = m ∧
  ∀ x dx, H2 x = none → H2 dx = none → dx ≠ x → sp (gV (.ref x :: vs) zs) (upd (upd H2 dx (.own x)) x (.ins C dx [])) (fun v H3 => v = .non ∧ Q (.ref x) H3) E
theorem x_makeN {n m : Nat} {sp : Sp} {gV : List V → List V → List V} {E : XK} (q : tr σ H fun vs H1 => tk σ H1 fun zs H2 => kMakeN C n m sp gV E vs zs H2 Q) : tMakeN C n m sp gV E tr tk σ H Q := q
theorem k_makeN {n m : Nat} {sp : Sp} {gV : List V → List V → List V} {E : XK} {vs zs : List V} (hh : Has H L) (hn : vs.length = n) (hm : zs.length = m) (q : ∀ x dx H', Has H' ([(x, .ins C dx [])] :: L) → sp (gV (.ref x :: vs) zs) H' (fun v H2 => v = .non ∧ Q (.ref x) H2) E) : kMakeN C n m sp gV E vs zs H Q :=
  ⟨hn, hm, fun x dx hx hd ne => q x dx _ ((hh.nw hd (o := .own x)).nw (p := x) (o := .ins C dx []) (by rw [upd_ne (Ne.symm ne)]; exact hx) |>.sub (Sub.p0 (Sub.skip Sub.rf)))⟩
theorem x_or1 {t u : TE} (q : t σ H Q) : tOrE t u σ H Q := .inl q
theorem x_or2 {t u : TE} (q : u σ H Q) : tOrE t u σ H Q := .inr q
theorem k_isB {b c : Bool} (q : Q (.bl (decide (b = c))) H) : rIsB (.bl b) (.bl c) H Q := ⟨b, c, rfl, rfl, q⟩
theorem k_notB {b c : Bool} (q : Q (.bl (!decide (b = c))) H) : rNotB (.bl b) (.bl c) H Q := ⟨b, c, rfl, rfl, q⟩
/-- None in xs, whole numbers -/
theorem k_inNon {ns : List Int} (hp : H p = some (.lst (ns.map V.int))) (q : Q (.bl false) H) : rIn K false .non (.ref p) H Q := by
  refine ⟨p, _, rfl, .inl (SqL.of hp), rfl, ?_, ?_⟩
  · rw [List.all_eq_true]
    intro y hy
    obtain ⟨z, _, rfl⟩ := List.mem_map.mp hy
    rfl
  · have e : inV .non (ns.map V.int) = false := by
      unfold inV
      rw [List.any_map, List.any_eq_false]
      intro z hz
      simp [eqV]
    rw [e]
    exact q
theorem x_glst {k : Nat} {g : TGs} (hp : H a = some (.lst xs)) (hl : xs.length = k) (q : g xs σ H QS) : gLst K k g (.ref a) σ H QS := ⟨a, xs, rfl, SqL.of hp, hl, q⟩
def kPar3 (i j l : Nat) (nx : St → Hp → Prop) (σ : St) (vs : List V) (H1 : Hp) : Prop := ∃ u v w, vs = [u, v, w] ∧ nx (((σ.set i (some u)).set j (some v)).set l (some w)) H1
theorem x_par3 {i j l : Nat} (q : tr σ H fun vs H1 => kPar3 i j l nx σ vs H1) : tPar3 i j l tr ⟨nx, rt, bk, ct⟩ σ H := q
theorem k_par3 {i j l : Nat} {u v w : V} (q : nx (((σ.set i (some u)).set j (some v)).set l (some w)) H) : kPar3 i j l nx σ [u, v, w] H := ⟨u, v, w, rfl, q⟩
/-- while: W m with the measure m -/
def kWb (W : Nat → St → Hp → Prop) (m : Nat) (tb : TS) (nx : St → Hp → Prop) (rt : VK) (σ : St) (H1 : Hp) : Prop := ∃ N : St → Hp → Prop, (∀ σ' H', N σ' H' → ∃ m', m' < m ∧ W m' σ' H') ∧ tb ⟨N, rt, nx, N⟩ σ H1
theorem k_while {c : TT} {tb : TS} (W : Nat → St → Hp → Prop) (m : Nat) (h0 : W m σ H)
    (hs : ∀ m σ H, W m σ H → c σ H fun b H1 => if b = true then kWb W m tb nx rt σ H1 else nx σ H1) : tWhile c tb ⟨nx, rt, bk, ct⟩ σ H := ⟨W, ⟨m, h0⟩, hs⟩
theorem k_wb {tb : TS} {W : Nat → St → Hp → Prop} {m : Nat} (q : tb ⟨fun σ' H' => ∃ m', m' < m ∧ W m' σ' H', rt, nx, fun σ' H' => ∃ m', m' < m ∧ W m' σ' H'⟩ σ H) : kWb W m tb nx rt σ H := ⟨_, fun _ _ h => h, q⟩
end
end Sy
/-! list(d.values()). -/
namespace Sy
open PySem PySem.W PySem.Calls PySem.Spec PyProof.Rows L2
def tListVals (te : TE) : TE := fun σ H Q => te σ H fun x H1 => ∃ (d : Addr) (kvs : List (Key × V)), x = .ref d ∧ H1 d = some (.dK kvs) ∧ ∀ p, H1 p = none → Q (.ref p) (upd H1 p (.lst (kvs.map (·.2))))
section
variable {X : Cx} {e : Expr} {te : TE} {p apos cpos pos : Pos}
theorem vals_snd : ∀ {kvs : List (Key × V)} {vs : List (Key × Value)}, KV kvs vs → Vals (kvs.map (·.2)) (vs.map (·.2))
  | _, _, .nil => .nil
  | _, _, .cons h t => .cons h.2 (vals_snd t)
theorem pe_listVals (hc : X.calm = true) (he : PE X e te) (hg : Gl X "list") (hm : X.mg "list" = none) (hv : bootBuiltins "list" = some (.type "list")) (hbase : attributeBase e "values" X.env (eval e X.env) = eval e X.env := by rfl) (hline : (apos.endLine == cpos.line) = true := by rfl)
    (hs : starEach [.Call (.Attribute e "values" apos) [] [] cpos] X.env = (false, eval (.Call (.Attribute e "values" apos) [] [] cpos) X.env) :: starEach [] X.env := by rfl) :
    PE X (.Call (.Name "list" p) [.Call (.Attribute e "values" apos) [] [] cpos] [] pos) (tListVals te) := by
  refine ⟨fun pins s σ H Q I hq => ?_⟩
  refine wpAny_Call_Name_kw (ld_blt I hg hm hv ?_)
  refine PyProof.Rows.callWith_type1 ?_ hs rfl
  rw [hs]
  show wpAny _ _ (spliced ((false, eval (.Call (.Attribute e "values" apos) [] [] cpos) X.env) :: backTo pos (starEach [] X.env))) _ _ s
  refine Calls.spliced_cons ?_
  refine wpAny_Call_method (T := "dict") (id := "dict.values") hbase rfl hline F.plainAttrs_dict F.slot_dict_values F.type_dict_values (thn (he.run pins s σ H _ I hq) fun u s1 ⟨x, H1, I1, rx, d, kvs, ex, hd, q⟩ => ?_)
  subst ex
  obtain rfl : u = Value.ref d := rx
  obtain ⟨hz, hs0, vs, kv, hdo⟩ := I1.hok d _ hd
  obtain ⟨ep, hat⟩ := hdo.dictAt
  have lk : kvs.length = vs.length := Paired.length kv
  have I2 : Inv X pins σ H1 { s1 with heap := s1.heap.push { cls := .type "dict_values", data := .fields #[.ref d] } } := I1.kept (t' := s1.toks) fun b ob q => Heap.get?_push_of_some _ q
  refine ⟨hdo.typeIs, hdo.mapOf.noDict, ?_⟩
  show wpAny _ _ (callWith cpos (.builtin "dict.values") [.ref d] [] []) _ X.xe s1
  refine method_meetsIn F.slot_dict_values F.entry_dict_values rfl (PySem.evalArgs_none ⟨rfl, hdo.typeIs, F.args_dict_values_1 _, _, meets_dict_values (mixKind X.prog X.w) d hs0, ⟨vs, hdo⟩, ?_⟩)
  refine Calls.spliced_nil ?_
  refine PySem.W.kdl_call (PySem.W.kdl_values (knd := mixKind X.prog X.w) (d := d) (r := s1.heap.objs.size) (kvs := vs) (ep := ep)) (I1.ok.hd hc) ⟨⟨_, Heap.get?_push_size _ rfl, rfl, rfl⟩, hat.push _⟩ (by omega) fun h' tk acc c hk hD hacc => ?_
  have ea : acc.toList = vs.map (·.2) := PySem.W.kdl_vals_eq acc.toList (by rw [Array.length_toList]; exact hacc.1) fun j v e => hacc.2 j v (by rw [← Array.getElem?_toList]; exact e)
  refine ⟨.ref _, _, I2.laid (t' := tk) (o := .lst (kvs.map (·.2))) hk (Nat.le_refl _) ⟨by rw [List.length_map]; omega, acc.toList, c, by rw [ea]; exact vals_snd kv, by rw [Array.toArray_toList]; exact hD⟩, rfl, q _ (I2.hok.fresh (Nat.le_refl _))⟩
end
end Sy
namespace Sy
open PySem L2
section
variable {K : PySem.W.Frag} {σ : St} {H H1 : Hp} {L : List U} {Q : VK} {a b d p C : Addr} {te : TE}
def kListVals (x : V) (H1 : Hp) (Q : VK) : Prop := ∃ (d : Addr) (kvs : List (Key × V)), x = .ref d ∧ H1 d = some (.dK kvs) ∧ ∀ p, H1 p = none → Q (.ref p) (upd H1 p (.lst (kvs.map (·.2))))
theorem x_listVals (q : te σ H fun x H1 => kListVals x H1 Q) : tListVals te σ H Q := q
theorem k_listVals {mm : List (Int × V)} (hh : Has H L) (hp : H d = some (dI mm)) (q : ∀ p H', Has H' ([(p, .lst (mm.map (·.2)))] :: L) → Q (.ref p) H') : kListVals (.ref d) H Q := by
  refine ⟨d, _, rfl, hp, fun p hp => ?_⟩
  have e : (mk g1 mm).map (·.2) = mm.map (·.2) := by unfold mk; rw [List.map_map]; rfl
  rw [e]
  exact q p _ (hh.nw hp)
end
end Sy
/-! More rules: xs[::-1], == of alike data, a place of a dict set. -/
namespace Sy
open PySem L2
theorem Has.permU {H : Hp} {u u' : U} {L : List U} (h : Has H (u :: L)) (p : u.Perm u') : Has H (u' :: L) := by
  obtain ⟨n, a⟩ := h
  have e : (u :: L).flatten.Perm (u' :: L).flatten := p.append_right L.flatten
  exact ⟨(e.map (·.1)).nodup_iff.mp n, fun q hq => a q (e.mem_iff.mpr hq)⟩
theorem fmU_perm {β : Type} {ob : β → HO} {m m' : List (Addr × β)} (p : m.Perm m') : (fmU ob m).Perm (fmU ob m') := p.map _
section
variable {K : PySem.W.Frag} {σ : St} {H H1 : Hp} {L : List U} {Q : VK} {a b d p C : Addr} {te : TE} {x y v : V} {i : Int}
def kRevL (K : PySem.W.Frag) (x : V) (H1 : Hp) (Q : VK) : Prop := ∃ a xs, x = .ref a ∧ SqL K H1 a xs ∧ ∀ p, H1 p = none → Q (.ref p) (upd H1 p (.lst xs.reverse))
theorem x_revL (q : te σ H fun x H1 => kRevL K x H1 Q) : tRevL K te σ H Q := q
theorem k_revL {xs : List V} (hh : Has H L) (hp : H a = some (.lst xs)) (q : ∀ p H', Has H' ([(p, .lst xs.reverse)] :: L) → Q (.ref p) H') : kRevL K (.ref a) H Q := ⟨a, xs, rfl, SqL.of hp, fun p hp => q p _ (hh.nw hp)⟩
theorem shaped_lay {d : PyData} (h : SeqAt.shaped d = true) : d.canLay0 = true := by
  unfold SeqAt.shaped at h
  exact (Bool.and_eq_true_iff.mp h).1
theorem k_neSame {dd : PyData} (hx : Dp K H x dd) (hy : Dp K H y dd) (hs : SeqAt.shaped dd = true) (q : Q (.bl false) H) : rNeD K x y H Q :=
  ⟨dd, dd, hx, hy, hs, hs, by rw [SeqAt.eqv_refl dd (shaped_lay hs)]; exact q⟩
theorem k_eqSame {dd : PyData} (hx : Dp K H x dd) (hy : Dp K H y dd) (hs : SeqAt.shaped dd = true) (q : Q (.bl true) H) : rEqD K x y H Q :=
  ⟨dd, dd, hx, hy, hs, hs, by rw [SeqAt.eqv_refl dd (shaped_lay hs)]; exact q⟩
theorem k_setD {mm : List (Int × V)} {M : List U} {Q : Hp → Prop} (hp : H a = some (dI mm)) (hl : mm.length < sizeLine) (hh : Has (upd H a (dI (putK mm i v))) M) (q : ∀ H', Has H' M → Q H') : rSetD (.ref a) (.int i) v H Q := by
  refine ⟨a, _, rfl, DPut.k (k := g1 i) hp (by rw [mk_len]; exact hl), ?_⟩
  rw [mk_put g1_inj]
  exact q _ hh
theorem x_ifAnd {t u : TT} {s1 s2 : TS} {nx bk ct : St → Hp → Prop} {rt : VK} {b1 b2 : Bool} (ht : ∀ Q' : Bool → Hp → Prop, Q' b1 H → t σ H Q') (hu : ∀ Q' : Bool → Hp → Prop, Q' b2 H → u σ H Q') (q1 : b1 = true → b2 = true → s1 ⟨nx, rt, bk, ct⟩ σ H) (q2 : ¬ (b1 = true ∧ b2 = true) → s2 ⟨nx, rt, bk, ct⟩ σ H) : tIfS (tAnd t u) s1 s2 ⟨nx, rt, bk, ct⟩ σ H := by
  refine x_if (x_and (ht _ ?_))
  cases b1 with
  | false => exact ifF (ifF (q2 (by simp)))
  | true =>
    refine ifT (hu _ ?_)
    cases b2 with
    | false => exact ifF (q2 (by simp))
    | true => exact ifT (q1 rfl rfl)
def srtI (l : List Int) : List Int := l.mergeSort (fun a b => decide (a ≤ b))
theorem srtI_eq {l ys : List Int} (p : ys.Perm l) (s : ys.Pairwise (· ≤ ·)) : ys = srtI l := by
  have p2 : (srtI l).Perm l := List.mergeSort_perm _ _
  have s2 : (srtI l).Pairwise (fun a b => decide (a ≤ b) = true) := List.pairwise_mergeSort (fun a b c h1 h2 => by simp at h1 h2 ⊢; omega) (fun a b => by simp; omega) l
  exact (p.trans p2.symm).eq_of_pairwise (fun a b _ _ h h' => Int.le_antisymm h h') s (s2.imp of_decide_eq_true)
end
end Sy
/-! len(x) of an own class with its own __len__; {k: v}. -/
namespace Sy
open PySem PySem.Spec PyProof.Rows L2
def rLenO (C : Addr) (sp : Sp) (E : XK) : List V → Hp → VK → Prop := fun xs H Q => ∃ (a dx : Addr) (fs : List (Str × V)), xs = [.ref a] ∧ H a = some (.ins C dx fs) ∧ sp [.ref a] H (fun v H' => ∃ n : Int, v = .int n ∧ 0 ≤ n ∧ n < 2 ^ 63 ∧ Q (.int n) H') E
theorem call_lenO {X : Cx} {CX : CXT} {C f : Addr} {fd : FuncData} {ps : List Str} {sp : Sp} {E : XK} {n : Nat} (F : FnOk X.prog X.w X.K X.mg X.base CX n f fd ps sp) (hr : Room (n + 1) X.A) (M : Meth X.K C "__len__" f) (hb : Binds X.K fd ps []) (hx : Passes CX X E) : CallR X (.builtin "len") (rLenO C sp E) := by
  intro pins s σ H xs us Q I r h
  obtain ⟨a, dx, fs, rfl, ha, hsp⟩ := h
  obtain ⟨u, rfl, ru⟩ := vals1 r
  obtain rfl : u = Value.ref a := ru
  obtain ⟨mA, J, _⟩ := ins_get I.hok ha
  obtain ⟨od, J, _⟩ := J.look
  obtain ⟨m, hF⟩ := I.fr
  refine PySem.W.len_K hF I.ok.mod.kin J M.at_ M.fn ?_
  have e0 : Env0 X.prog X.w X.K X.mg X.base X.A.in1 X.stack s H := by
    have e := I.env0
    exact ⟨e.frames, e.mod, e.bs, e.bsz, e.funs, e.frf, e.hok, e.bare⟩
  have hl := F.len _ _ _ _ hsp
  have r2 : Vals [V.ref a] [Value.ref a] := .cons rfl .nil
  refine wpAny_call (codeAny_mono (F.run X.A.in1 X.stack s H ⟨[.ref a], []⟩ [.ref a] [.ref a] _ E hr.in1 e0 (by
    have := hb s [.ref a] I.kIn (by simpa using hl)
    simpa using this) r2 hsp) fun r s' hq => ?_)
  cases r with
  | error e => exact hx pins σ H s e s' I hq
  | ok fl =>
    cases fl with
    | ret w =>
      obtain ⟨z, H', I', rz, k, ez, h0, h1, q⟩ := I.after hq
      subst ez
      obtain ⟨tk, rfl⟩ := rz
      exact ⟨⟨h0, h1⟩, .int k, H', I'.tok _, ⟨_, rfl⟩, q⟩
    | next => exact False.elim hq
    | brk => exact False.elim hq
    | cont => exact False.elim hq
end Sy
namespace Sy
open PySem L2
section
variable {σ : St} {H : Hp} {L : List U} {Q : VK} {a C dx p : Addr} {fs : List (Str × V)} {sp : Sp} {E : XK} {tk tv : TE} {i : Int} {v : V}
theorem k_lenO (hp : H a = some (.ins C dx fs)) (q : sp [.ref a] H (fun v H' => ∃ n : Int, v = .int n ∧ 0 ≤ n ∧ n < 2 ^ 63 ∧ Q (.int n) H') E) : rLenO C sp E [.ref a] H Q := ⟨a, dx, fs, rfl, hp, q⟩
def kDisp (p : Addr) (x v : V) (H2 : Hp) (Q : VK) : Prop := H2 p = some (.dK []) ∧ ∃ kvs : List (Key × V), [(x, v)] = kvs.map (fun kv => (kV kv.1, kv.2)) ∧ kvs.length ≤ 15 ∧ Q (.ref p) (upd H2 p (.dK (mergeK [] kvs)))
theorem x_disp1 (hh : Has H L) (q : ∀ p H', Has H' ([(p, dI [])] :: L) → tk σ H' fun x H1 => tv σ H1 fun v H2 => kDisp p x v H2 Q) : tDisp [(tk, tv)] σ H Q := fun p hp => q p _ (hh.nw hp)
theorem k_disp {M : List U} (hp : H p = some (dI [])) (hh : Has (upd H p (dI [(i, v)])) M) (q : ∀ H', Has H' M → Q (.ref p) H') : kDisp p (.int i) v H Q := by
  refine ⟨hp, [(g1 i, v)], rfl, (show 1 ≤ 15 by decide), ?_⟩
  have e : (HO.dK (mergeK [] [(g1 i, v)])) = dI [(i, v)] := by
    unfold mergeK
    rw [List.foldl_cons, List.foldl_nil]
    unfold putK
    simp [mk]
  rw [e]
  exact q _ hh
end
end Sy
/-! for k in d, d locked. -/
namespace Sy
open PySem L2
theorem x_forD {σ : St} {H : Hp} {L : List U} {k : Nat} {d : Addr} {mm : List (Int × V)} {tb : TS} {td : TE} {nx bk ct : St → Hp → Prop} {rt : VK} (Pv : Obj → Nat → St → Hp → Prop) (hh : Has H ([(d, dI mm)] :: L))
    (htd : ∀ o H' (Q' : VK), Has H' ([(d, .frz o (dI mm))] :: L) → Q' (.ref d) H' → td σ H' Q')
    (h0 : ∀ o H', Has H' ([(d, .frz o (dI mm))] :: L) → Pv o 0 σ H')
    (hl : ∀ o i σ' H', Pv o i σ' H' → H' d = some (.frz o (dI mm)))
    (hs : ∀ o (i : Nat) (z : Int) σ' H', (mm.map (·.1))[i]? = some z → Pv o i σ' H' → tb ⟨Pv o (i + 1), fun v H' => H' d = some (.frz o (dI mm)) ∧ rt v (upd H' d (dI mm)), fun σ' H' => H' d = some (.frz o (dI mm)) ∧ nx σ' (upd H' d (dI mm)), Pv o (i + 1)⟩ (σ'.set k (some (.int z))) H')
    (hd : ∀ o σ' H', Pv o mm.length σ' H' → nx σ' (upd H' d (dI mm))) : tLock (tFor (iKeys td) (gName k) tb) ⟨nx, rt, bk, ct⟩ σ H := by
  refine ⟨d, dI mm, hh.g0, trivial, fun o => ?_⟩
  have h1 : Has (upd H d (.frz o (dI mm))) ([(d, .frz o (dI mm))] :: L) := hh.s0
  have hlen : (mk g1 mm).length = mm.length := mk_len _ _
  refine htd o _ _ h1 ⟨d, o, rfl, .inl ⟨mk g1 mm, h1.g0, fun i m σ' H' => m = mm.length - i ∧ i ≤ mm.length ∧ Pv o i σ' H', ⟨mm.length, by simp, Nat.zero_le _, h0 o _ h1⟩, ?_⟩⟩
  rintro i m σ' H' ⟨rfl, hi, p⟩
  have pl := hl o i σ' H' p
  by_cases hlt : i < mm.length
  · refine .inr ⟨⟨pl, by rw [hlen]; exact hlt⟩, Pv o (i + 1), fun σ2 H2 p2 => ⟨mm.length - (i + 1), by omega, rfl, hlt, p2⟩, fun x H2 y => ?_⟩
    obtain ⟨e, kk, vv, hk, ex⟩ := y
    subst e
    have hz1 : (mm.map (·.1))[i]? = some (mm[i]).1 := by rw [List.getElem?_map, List.getElem?_eq_getElem hlt]; rfl
    have hkk : kk = g1 (mm[i]).1 := by
      unfold mk at hk
      rw [List.getElem?_map, List.getElem?_eq_getElem hlt] at hk
      exact (congrArg Prod.fst (Option.some.inj hk)).symm
    subst hkk
    have ex : x = .int (mm[i]).1 := ex
    subst ex
    exact hs o i _ σ' H2 hz1 p
  · have e : i = mm.length := by omega
    subst e
    exact .inl ⟨⟨pl, by rw [hlen]; exact Nat.le_refl _⟩, pl, hd o σ' H' p⟩
end Sy
/-! Exceptions that are kept: try .. except X as e: caught = e; isinstance of what was caught; defs with two promises. -/
namespace Sy
open PySem PySem.Spec PyProof.Rows L2
/-- a caught exception, at a -/
def ExK (cls : Value) (d : Option Addr) (a : Addr) : HO := .ext fun h => ∃ (oe : Obj) (vs : Array Value), h.get? a = some oe ∧ Zc cls d oe ∧ oe.data = .fields vs
theorem exK_ok {P : Program} {w : World} {H : Hp} {h : Heap} {a : Addr} {cls : Value} {d : Option Addr} {oe : Obj} {vs : Array Value} (e : h.get? a = some oe) (z : Zc cls d oe) (hd : oe.data = .fields vs) : ObjOk P w H h a (ExK cls d a) :=
  ⟨⟨oe, vs, e, z, hd⟩, ⟨oe, e⟩, fun _ _ ⟨o, v, q, r⟩ k => ⟨o, v, k o q, r⟩⟩
section
variable {X : Cx} {pins : List (Addr × Obj)} {σ : L2.St} {H : Hp} {s : Shared}
theorem Inv_track {a : Addr} {φ : Heap → Prop} (I : Inv X pins σ H s) (na : H a = none) (n0 : X.s_0.heap.get? a = none) (nL : a ≠ X.env.locals) (nC : ∀ x c, X.env.cells.lookup x = some c → c ≠ a) (nP : ∀ p ∈ X.pn ++ pins, p.1 ≠ a)
    (new : ObjOk X.prog X.w (upd H a (.ext φ)) s.heap a (.ext φ)) : Inv X pins σ (upd H a (.ext φ)) s := by
  refine ⟨I.ok, I.os, I.bare, ⟨I.base.keep, I.base.slot, fun b o e n hq => ?_, I.base.there, fun b xs e => ?_, fun b o u e => ?_, fun b ps e => ?_⟩, I.loc, I.cell, ?_, fun x c e => ?_, fun p hp => ?_, I.hok.laidN (fun _ _ q => q) na new, I.len⟩
  · rw [upd_ne (fun z => by rw [z, n0] at e; cases e)]
    exact I.base.free b o e n hq
  · have q := I.base.tups b xs e
    rw [upd_ne (ne_of_none q na)]
    exact q
  · have q := I.base.frzs b o u e
    rw [upd_ne (ne_of_none q na)]
    exact q
  · obtain ⟨m, q⟩ := I.base.tbls b ps e
    exact ⟨m, by rw [upd_ne (ne_of_none q na)]; exact q⟩
  · rw [upd_ne (Ne.symm nL)]
    exact I.free
  · rw [upd_ne (nC x c e)]
    exact I.freeC x c e
  · obtain ⟨e, n, ne, nf, d⟩ := I.pin p hp
    exact ⟨e, by rw [upd_ne (nP p hp)]; exact n, ne, nf, d⟩
end
/-- what the clause 'except x as n' wishes of an exception of the body, the exception kept behind it -/
def wKeep (K : PySem.W.Frag) (c : Value) (i : Nat) (ts : Addr → Value → Option Addr → TS) (Wout : WX) (D : Ends) : WX := fun cls d σ H =>
  ∃ b, PySem.W.exmOne K cls c = some b ∧ (b = true → ∀ a, H a = none → ts a cls d { nx := fun σ' H' => D.nx (σ'.set i none) (upd H' a (ExK cls d a)), rt := fun _ _ => False, bk := fun _ _ => False, ct := fun _ _ => False } (σ.set i (some (.ref a))) H) ∧
    (b = false → Wout cls d σ H)
section
variable {X : Cx} {x n : Str} {c : Value} {i : Nat} {body suite : List Stmt} {b₀ : Stmt} {np pos pos' : Pos} {tb : WX → TS} {ts : Addr → Value → Option Addr → TS} {Wout : WX}
theorem ps_try_keep (hs : X.stack = X.env :: X.outer) (hf : X.env.frame = some X.env.locals) (hex : X.ex = []) (hN : X.N.Nodup) (hi : X.N[i]? = some n) (hln : X.env.kindOf n = some .local) (hc : Names X x c) (tk : Takes X Wout)
    (hb : ∀ (W : WX) (pn : List (Addr × Obj)) (xe : Value → Shared → Prop), Takes (X.tr pn xe) W → PassesOwn (model X.prog X.w) X.A X.env xe → PSs (X.tr pn xe) body (tb W))
    (hsu : ∀ (a : Addr) (oe : Obj) (cls : Value) (d : Option Addr) (pn : List (Addr × Obj)), Zc cls d oe → (∃ vs, oe.data = .fields vs) → PSs (X.suite a ((a, oe) :: pn)) (b₀ :: suite) (ts a cls d)) :
    PS X (.Try body [.ExceptHandler (some (.Name x np)) (some n) (b₀ :: suite) pos'] [] [] pos) (fun D σ H => tb (wKeep X.K c i ts Wout D) D σ H) := by
  refine ⟨fun pins s σ H D I h => ?_⟩
  have ok := I.ok
  have hfr : X.A.frames = some (X.env :: X.outer) := by rw [ok.frames, hs]
  have hloc : Loc X.env.scope n := .inl hln
  refine wpAny_Try_except ?_
  refine wpAny_mono ((hb (wKeep X.K c i ts Wout D) (X.pn ++ pins) (fun e s₁ => wpAny (model X.prog X.w) X.A (noteFrame e X.env) (fun _ s₂ => wpAny (model X.prog X.w) X.A (setFlight e none) (fun _ s₃ =>
    wpAny (model X.prog X.w) X.A (handleBy e X.env [.ExceptHandler (some (.Name x np)) (some n) (b₀ :: suite) pos']) (SP X pins D) X.xe s₃) X.xe s₂) X.xe s₁) (fun u s' xx => ?_) PassesOwn.looking).run [] s σ H D (I.toTry _) h) (fun f s1 hsp => ?_) (fun e s1 he => he)
  · -- the catch
    obtain ⟨a, B, sI, pins', σ', H', cls, d, rfl, J', nb, up, sky, na, os, ag, b, hb1, hyes, hno⟩ := xx
    have J : Inv X pins σ' H' sI := J'.ofTry ok
    have sky' : Sky B (X.env :: X.outer) a (Zc cls d) X.env.locals s'.heap := by rw [← hs]; exact sky
    show wpAny (model X.prog X.w) X.A (noteFrame (.ref a) X.env) _ _ _
    refine Sky.land Zc.steady hfr hf sky' fun h3 fl3 up3 => ?_
    have J3 : Inv X pins σ' H' { s' with heap := h3 } := J.landed nb fl3.1 (up.trans up3) os ag
    obtain ⟨oe3, vs3, he3, hz3, hd3⟩ := fl3.there
    have notFr : ∀ {h : Heap} {o : Obj} {vs : Array Value}, h.FunFrames B (X.env :: X.outer) → h.get? a = some o → o.data = .fields vs → a ∉ frs (X.env :: X.outer) := fun {h o vs} ff e dd hm => by
      obtain ⟨_, o', e', hnf⟩ := ff.mem hm
      rw [e] at e'; cases e'
      exact hnf _ dd
    have nfr := notFr fl3.2.2.1 he3 hd3
    have nL : a ≠ X.env.locals := fun z => nfr (List.mem_filterMap.mpr ⟨X.env, List.mem_cons_self, by rw [hf, z]⟩)
    have nF : a ∉ X.fs := fun hm => by
      obtain ⟨e, he, q⟩ := List.mem_filterMap.mp hm
      exact nfr (List.mem_filterMap.mpr ⟨e, List.mem_cons_of_mem _ he, q⟩)
    have nI : sI.heap.get? a = none := by
      cases e : sI.heap.get? a with
      | none => rfl
      | some o =>
        have z := nb a o e (by rw [hs]; exact nfr)
        rw [fl3.2.1] at z
        cases z
    have n0 : X.s_0.heap.get? a = none := by
      cases e : X.s_0.heap.get? a with
      | none => rfl
      | some o =>
        obtain ⟨o', z⟩ := J.base.there a o e (by rw [hex]; exact fun z => nomatch z)
        rw [nI] at z
        cases z
    have nP : ∀ p ∈ X.pn ++ pins, p.1 ≠ a := fun p hp z => by
      obtain ⟨e, _⟩ := J.pin p hp
      rw [z, nI] at e
      cases e
    have S3 := J3.suite he3 hd3 na nL nF
    refine wpAny_handleBy_cons (codeAny_handlers_test ?_) (by intro q; cases q)
    have LT : PySem.W.Looks (model X.prog X.w) h3 (typeOf (.ref a)) cls := fun A Q E s k q => wpAny_typeOf_ref (k _ _ he3) (by rw [hz3.1]; exact q)
    have LM := PySem.W.exm_one (M := model X.prog X.w) (J3.kIn) LT hb1
    have test : ∀ {Q : Value → Shared → Prop} {E : Value → Shared → Prop}, Q c { s' with heap := h3 } → wpAny (model X.prog X.w) (X.A.mark (some (.ref a))) (eval (.Name x np) X.env) Q E { s' with heap := h3 } := fun {Q E} q => by
      obtain ⟨hg, hdbg, hm | ⟨hm, hv, hnn⟩⟩ := hc
      · exact ld_glob (X := X.suite a ((a, oe3) :: (X.pn ++ pins))) S3 hg hm q hdbg
      · exact ld_blt (X := X.suite a ((a, oe3) :: (X.pn ++ pins))) S3 hg hm hv q hnn hdbg
    refine test (LM.here ?_)
    cases b with
    | true =>
      refine codeAny_handlers_suite_as ?_
      refine HandSPX.lands_againZ fl3 fun h4 fl4 up4 => ?_
      have J4 : Inv X pins σ' H' { s' with heap := h4 } := J.landed nb fl4.1 ((up.trans up3).trans up4) os ag
      obtain ⟨oe4, vs4, he4, hz4, hd4⟩ := fl4.there
      have S4 := J4.suite he4 hd4 na nL nF
      refine store_ok (X := X.suite a ((a, oe4) :: (X.pn ++ pins))) (v := .ref a) S4 hN hi hloc rfl (fun s5 S5 => ?_) (.inr hln)
      refine wpAny_mono ((hsu a oe4 cls d (X.pn ++ pins) hz4 ⟨_, hd4⟩).run [] s5 _ H' _ S5 (hyes rfl a na)) (fun f s6 hsp => ?_) (fun _ _ z => False.elim z)
      cases f with
      | next =>
        obtain ⟨σ6, H6, S6, q6⟩ := hsp
        refine gone_ok (X := X.suite a ((a, oe4) :: (X.pn ++ pins))) S6 hN hi hln fun s7 S7 => ?_
        obtain ⟨e7, n7, _, _, d7⟩ := S7.pin (a, oe4) (List.mem_append.mpr (.inl List.mem_cons_self))
        have J7 := S7.unsuite ok
        refine ⟨_, _, Inv_track J7 n7 n0 nL (fun y c e z => ?_) nP (exK_ok e7 hz4 hd4), q6⟩
        obtain ⟨v, o, ho, hd⟩ := J7.cell y c e
        rw [z] at ho
        have ho : s7.heap.get? a = some o := ho
        rw [e7] at ho
        have := Option.some.inj ho
        subst this
        exact d7 _ hd
      | brk =>
        obtain ⟨_, _, _, q6⟩ := hsp
        exact q6.elim
      | cont =>
        obtain ⟨_, _, _, q6⟩ := hsp
        exact q6.elim
      | ret u =>
        obtain ⟨_, _, _, _, _, q6⟩ := hsp
        exact q6.elim
    | false =>
      show wpAny _ X.A (handleBy (.ref a) X.env []) _ _ _
      refine wpAny_handleBy_nil ?_
      obtain ⟨k1, k2, k3, oe, vs, T, oT, ts', he, hz, hd, h1, hr⟩ := id fl3
      unfold PySem.passOn
      refine wpAny_bind (wpAny_field he hd h1 ?_)
      rw [if_neg (show ¬ ((Value.ref T == Value.none) = true) from by simp)]
      have fin : wpAny (model X.prog X.w) X.A (setFlight (.ref a) X.env.frame) (fun _ s4 => wpAny (model X.prog X.w) X.A (throw (.ref a) : Sem Flow) (SP X pins D) X.xe s4) X.xe { s' with heap := h3 } := by
        rw [hf]
        refine HandSPX.setFlight_upZ fl3 fun h4 hh4 up4 => wpAny_throw (tk _ _ ?_)
        exact ⟨a, B, sI, pins, σ', H', cls, d, rfl, J, nb, (up.trans up3).trans up4, .inr (.inr (by rw [hs]; exact hh4)), na, os, ag, hno rfl⟩
      first
        | exact wpAny_bind (wpAny_pure (wpAny_bind fin))
        | exact wpAny_bind fin
  · cases f with
    | next => obtain ⟨σ6, H6, S6, q6⟩ := hsp; exact wpAny_execs_nil ⟨σ6, H6, S6.ofTry ok, q6⟩
    | brk => obtain ⟨σ6, H6, S6, q6⟩ := hsp; exact ⟨σ6, H6, S6.ofTry ok, q6⟩
    | cont => obtain ⟨σ6, H6, S6, q6⟩ := hsp; exact ⟨σ6, H6, S6.ofTry ok, q6⟩
    | ret u => obtain ⟨v6, σ6, H6, S6, r6, q6⟩ := hsp; exact ⟨v6, σ6, H6, S6.ofTry ok, r6, q6⟩
end
/-- isinstance(x, c), x an exception that was caught -/
def rIsK (K : PySem.W.Frag) : List V → Hp → VK → Prop := fun xs H Q => ∃ (a D : Addr) (c : V) (cv : Value) (b : Bool), xs = [.ref a, c] ∧ H a = some (ExK (.ref D) none a) ∧ ExcC K D ∧ (∀ u, RelV c u → u = cv) ∧ PySem.W.kitOne K (.ref D) cv = some b ∧ Q (.bl b) H
theorem call_isK {X : Cx} : CallR X (.builtin "isinstance") (rIsK X.K) := by
  intro pins s σ H xs us Q I r h
  obtain ⟨a, D, c, cv, b, rfl, ha, C, hcv, e, q⟩ := h
  cases r with
  | cons rx rr =>
    cases rr with
    | cons rt rr =>
      cases rr
      cases rx
      have ec := hcv _ rt
      subst ec
      obtain ⟨⟨oe, vs, hget, hz, hv⟩, _, _⟩ := I.hok a _ ha
      have J : PySem.W.InstAt s.heap a oe D none := by
        obtain ⟨oc, od, oda, osl⟩ := oe
        obtain ⟨h1, h2⟩ := hz
        dsimp only at h1 h2 hv
        subst h1 h2 hv
        exact ⟨hget, rfl, rfl, trivial⟩
      exact PySem.W.kia_one (PySem.W.handS_kitx_exc C.hg C.hk C.hs C.hd C.ha C.hn C.ht C.hm) I.kIn J e (fun z => nomatch z) fun tk => ⟨.bl b, H, I.kept (t' := tk) fun _ _ z => z, rfl, q⟩
/-! ### a def with two promises; a def that lets nothing out -/
section
variable {P : Program} {w : World} {K : PySem.W.Frag} {mg : Str → Option Value} {base : Heap} {CX CX' : CXT} {n m : Nat} {f : Addr} {fd : FuncData} {ps : List Str} {sp sp' : Sp}
theorem fn_mono (F : FnOk P w K mg base CX n f fd ps sp) (h : n ≤ m) : FnOk P w K mg base CX m f fd ps sp := ⟨F.len, fun A outer s H args us vs Q E hr e0 b r hsp => F.run A outer s H args us vs Q E (hr.mono h) e0 b r hsp⟩
theorem fn_or (F : FnOk P w K mg base CX n f fd ps sp) (G : FnOk P w K mg base CX m f fd ps sp') : FnOk P w K mg base CX (max n m) f fd ps (fun vs H Q E => sp vs H Q E ∨ sp' vs H Q E) :=
  ⟨fun vs H Q E h => h.elim (F.len vs H Q E) (G.len vs H Q E), fun A outer s H args us vs Q E hr e0 b r hsp => hsp.elim (fun h => F.run A outer s H args us vs Q E (hr.mono (Nat.le_max_left _ _)) e0 b r h) fun h => G.run A outer s H args us vs Q E (hr.mono (Nat.le_max_right _ _)) e0 b r h⟩
end
/-- both promises -/
def spOr (a b : Sp) : Sp := fun vs H Q E => a vs H Q E ∨ b vs H Q E
theorem fn_up {P : Program} {w : World} {K : PySem.W.Frag} {mg : Str → Option Value} {base : Heap} {CX : CXT} {n : Nat} {f : Addr} {fd : FuncData} {ps : List Str} {sp : Sp} (F : FnOk P w K mg base CX0 n f fd ps sp) : FnOk P w K mg base CX n f fd ps sp :=
  ⟨F.len, fun A outer s H args us vs Q E hr e0 b r hsp => codeAny_mono (F.run A outer s H args us vs Q E hr e0 b r hsp) fun r s' hq => by
    cases r with
    | error e => exact hq.elim
    | ok fl => cases fl <;> exact hq⟩
/-! ### xs.count(v), flat items -/
def rCntV (K : PySem.W.Frag) : V → List V → Hp → VK → Prop := fun x xs H Q => ∃ (a : Addr) (ys : List V) (y : V), x = V.ref a ∧ xs = [y] ∧ SqL K H a ys ∧ flatV y = true ∧ ys.all flatV = true ∧ Q (.int ((ys.countP fun z => eqV z y) : Nat)) H
theorem cnt_vals {y : V} : ∀ {ys : List V} {its : List Value}, Vals ys its → ys.all flatV = true → its.countP (eqU y) = ys.countP fun z => eqV z y
  | _, _, .nil, _ => rfl
  | _, _, .cons (a := z) (b := u) h t, f => by
    rw [List.all_cons, Bool.and_eq_true] at f
    rw [List.countP_cons, List.countP_cons, cnt_vals t f.2, eqU_of h f.1]
theorem mt_countV {X : Cx} : MtR X "list.count" (rCntV X.K) := by
  intro pins s σ H x xs v us Q I rx rxs h
  obtain ⟨a, ys, y, rfl, rfl, hs, fy, fys, q⟩ := h
  cases rx
  cases rxs with
  | cons ry rt =>
    rename_i uy ut
    cases rt
    obtain ⟨its, rv, ⟨⟨cls, dd, data, sl⟩, n, ho, hc, hdn, hd⟩, hlen⟩ := I.list hs
    simp only at hc hd
    subst hc hd
    refine call_meets PySem.F.slot_list_count ⟨_, ho, rfl⟩ PySem.F.entry_list_count (PySem.F.args_list_count_2 _ _)
      (SeqAt.list_countAt a its.toArray n dd sl uy (eqU y)) ⟨ho, fun u' hu' => mem_eqAt ry fy rv fys u' (by simpa using hu'), ?_⟩
    have ec : its.toArray.toList.countP (eqU y) = ys.countP fun z => eqV z y := cnt_vals rv fys
    refine ⟨.int ((ys.countP fun z => eqV z y) : Nat), H, I.tok _, ⟨s.toks, ?_⟩, q⟩
    show Value.int ((its.toArray.toList.countP (eqU y) : Nat) : Int) s.toks = _
    rw [ec]
/-! ### calls that may raise, within a try -/
section
variable {X : Cx} {CX : CXT} {k : Nat} {f C : Addr} {fd : FuncData} {ps : List Str} {sp : Sp} {E : L2.St → XK} {x m : Str} {p pos apos : Pos} {e o : Expr} {es : List Expr} {ta : TE} {t : TA}
def tMethS' (C : Addr) (m : Str) (sp : Sp) (E : L2.St → XK) (ta : TE) (t : TA) : TE := fun σ H Q => ta σ H fun x H1 => ∃ a dx fs, x = .ref a ∧ H1 a = some (.ins C dx fs) ∧ fs.lookup m = none ∧ t σ H1 fun vs H2 => sp (x :: vs) H2 Q (E σ)
theorem pe_methS' {pl : Sem Bool} (he : PE X o ta) (c : Cls X.K C) (hm : Meth X.K C m f) (F : FnOk X.prog X.w X.K X.mg X.base CX k f fd ps sp) (hr : Room k X.A) (hb : Binds X.K fd ps []) (hx : ∀ σ, PassesAt CX X σ (E σ)) (ha : PA X (e :: es) t)
    (hst : starEach (e :: es) X.env = (false, eval e X.env) :: starEach es X.env := by rfl) (hpl : (backTo pos (starEach es X.env)).any (·.1) = false := by rfl)
    (ht : eval (.Call (.Attribute o m apos) (e :: es) [] pos) X.env = (do
      let ov ← eval o X.env
      standAt apos.atName
      let (f, first) ← holding [ov] (getMethod ov m pl)
      callWith pos f first (backTo pos (starEach (e :: es) X.env)) (backToKw pos (keywordEach [] X.env))) := by rfl) :
    PE X (.Call (.Attribute o m apos) (e :: es) [] pos) (tMethS' C m sp E ta t) := by
  refine ⟨fun pins s σ H Q I h => ?_⟩
  refine PySem.W.methodCall_KW (pl := pl) (thn (he.run pins s σ H _ I h) fun u s1 ⟨x, H1, I1, rx, a, dx, fs, ex, ea, l, q⟩ => ?_) ht
  subst ex
  obtain rfl : u = Value.ref a := rx
  refine getmeth_ok I1 ea c hm l ?_
  refine PySem.W.callWith_K (first := [.ref a]) (h₀ := X.base) I.ok.mod.kin hm.kp (thn (ha.run pos pins s1 σ H1 _ I1 q) fun us s2 ⟨vs, H2, I2, r, q2⟩ => ⟨I2.kIn, ?_⟩) hst hpl
  exact run_fnS (us := .ref a :: us) (vs := .ref a :: vs) F hr hb (hx σ) I2 (.cons rfl r) q2
end
end Sy
namespace Sy
open PySem L2
/-- raise C('..') in a def whose way out is E -/
def tRaise (E : XK) (C : Addr) : TS := fun _ _ H => E (.ref C) none H
/-- try: .. except c as e: x = e (e in slot i, x in slot j) -/
def tTryK (K : PySem.W.Frag) (c : Value) (i j : Nat) (tb : WX → TS) : TS := fun D σ H => tb (wKeep K c i (fun _ _ _ => tAsg (tVar i) (gName j)) (fun _ _ _ _ => False) D) D σ H
section
variable {K : PySem.W.Frag} {σ : St} {H : Hp} {L : List U} {Q : VK} {nx bk ct : St → Hp → Prop} {rt : VK} {E : XK} {C : Addr} {cls c : Value} {d : Option Addr} {i j : Nat} {tb : WX → TS} {tr : TA} {ta : TE} {sp : Sp} {Es : St → XK} {a dx : Addr} {fs : List (Str × V)} {m : Str} {D : Ends} {Wout : WX}
theorem x_raise (q : E (.ref C) none H) : tRaise E C D σ H := q
theorem x_tryK (q : tb (wKeep K c i (fun _ _ _ => tAsg (tVar i) (gName j)) (fun _ _ _ _ => False) ⟨nx, rt, bk, ct⟩) ⟨nx, rt, bk, ct⟩ σ H) : tTryK K c i j tb ⟨nx, rt, bk, ct⟩ σ H := q
theorem k_keep (he : PySem.W.exmOne K cls c = some true) (hi : i < σ.length) (hh : Has H L) (q : ∀ a H', Has H' ([(a, ExK cls d a)] :: L) → nx (((σ.set i (some (.ref a))).set j (some (.ref a))).set i none) H') : wKeep K c i (fun _ _ _ => tAsg (tVar i) (gName j)) Wout ⟨nx, rt, bk, ct⟩ cls d σ H := by
  refine ⟨true, he, fun _ a ha => ⟨.ref a, ?_, ?_⟩, fun h => by cases h⟩
  · rw [List.getElem?_set_self hi]
  · exact q a _ (hh.nw ha)
theorem x_callS (q : tr σ H fun vs H1 => sp vs H1 Q (Es σ)) : tCallS sp Es tr σ H Q := q
def kMethS (C : Addr) (m : Str) (sp : Sp) (Es : St → XK) (t : TA) (σ : St) (x : V) (H1 : Hp) (Q : VK) : Prop := ∃ a dx fs, x = .ref a ∧ H1 a = some (.ins C dx fs) ∧ fs.lookup m = none ∧ t σ H1 fun vs H2 => sp (x :: vs) H2 Q (Es σ)
theorem x_methS (q : ta σ H fun x H1 => kMethS C m sp Es tr σ x H1 Q) : tMethS' C m sp Es ta tr σ H Q := q
theorem k_methS (hp : H a = some (.ins C dx fs)) (hl : fs.lookup m = none) (q : tr σ H fun vs H2 => sp (.ref a :: vs) H2 Q (Es σ)) : kMethS C m sp Es tr σ (.ref a) H Q := ⟨a, dx, fs, rfl, hp, hl, q⟩
theorem k_isK {D : Addr} {c : V} {cv : Value} {b : Bool} (hp : H a = some (ExK (.ref D) none a)) (hC : ExcC K D) (hc : ∀ u, RelV c u → u = cv) (hk : PySem.W.kitOne K (.ref D) cv = some b) (q : Q (.bl b) H) : rIsK K [.ref a, c] H Q := ⟨a, D, c, cv, b, rfl, hp, hC, hc, hk, q⟩
theorem k_isKR {D C : Addr} {b : Bool} (hp : H a = some (ExK (.ref D) none a)) (hC : ExcC K D) (hk : PySem.W.kitOne K (.ref D) (.ref C) = some b) (q : Q (.bl b) H) : rIsK K [.ref a, .ref C] H Q := k_isK hp hC (fun u r => r) hk q
theorem k_isKT {D : Addr} {t : String} {b : Bool} (hp : H a = some (ExK (.ref D) none a)) (hC : ExcC K D) (hk : PySem.W.kitOne K (.ref D) (.type t) = some b) (q : Q (.bl b) H) : rIsK K [.ref a, .ty t] H Q := k_isK hp hC (fun u r => r) hk q
theorem k_cntV {y : V} {ys : List V} (hp : H a = some (.lst ys)) (f1 : flatV y = true) (f2 : ys.all flatV = true) (q : Q (.int ((ys.countP fun z => eqV z y) : Nat)) H) : rCntV K (.ref a) [y] H Q := ⟨a, ys, y, rfl, rfl, SqL.of hp, f1, f2, q⟩
end
end Sy
local macro_rules | `(tactic| walk_at "hp") => `(tactic| first | assumption | exact Sy.Has.g0 (by assumption) | exact Sy.Has.g1 (by assumption) | exact Sy.Has.g2 (by assumption) | exact Sy.Has.g3 (by assumption) | exact Sy.Has.g4 (by assumption) | exact Sy.Has.g5 (by assumption) | exact Sy.Has.g6 (by assumption) | exact Sy.Has.g7 (by assumption) | exact Sy.Has.g8 (by assumption) | exact Sy.Has.g9 (by assumption) | exact Sy.Has.g10 (by assumption) | exact Sy.Has.g11 (by assumption) | exact Sy.Has.g12 (by assumption) | exact Sy.Has.g13 (by assumption) | exact Sy.Has.g14 (by assumption) | exact Sy.Has.g15 (by assumption))
local macro_rules | `(tactic| walk_at "hs") => `(tactic| first | exact Sy.Has.s0 (by assumption) | exact Sy.Has.s1 (by assumption) | exact Sy.Has.s2 (by assumption) | exact Sy.Has.s3 (by assumption) | exact Sy.Has.s4 (by assumption) | exact Sy.Has.s5 (by assumption) | exact Sy.Has.s6 (by assumption) | exact Sy.Has.s7 (by assumption) | exact Sy.Has.s8 (by assumption) | exact Sy.Has.s9 (by assumption) | exact Sy.Has.s10 (by assumption) | exact Sy.Has.s11 (by assumption) | exact Sy.Has.s12 (by assumption) | exact Sy.Has.s13 (by assumption) | exact Sy.Has.s14 (by assumption) | exact Sy.Has.s15 (by assumption))
local macro_rules | `(tactic| walk_at "sub1") => `(tactic| first | exact Sy.Sub.rf | apply Sy.Sub.p0 | apply Sy.Sub.p1 | apply Sy.Sub.p2 | apply Sy.Sub.p3 | apply Sy.Sub.p4 | apply Sy.Sub.p5 | apply Sy.Sub.p6 | apply Sy.Sub.p7 | apply Sy.Sub.p8 | apply Sy.Sub.p9 | apply Sy.Sub.p10 | apply Sy.Sub.p11 | apply Sy.Sub.p12 | apply Sy.Sub.p13 | apply Sy.Sub.p14 | apply Sy.Sub.p15 | apply Sy.Sub.skip)
local macro_rules | `(tactic| walk_at "sub") => `(tactic| repeat walk_at "sub1")
local macro_rules | `(tactic| walk_at "has") => `(tactic| (refine Sy.Has.sub (by assumption) ?_; repeat walk_at "sub1"))
local macro_rules | `(tactic| walk_at "sz") => `(tactic| first | (rw [PySem.sizeLine_eq]; first | decide | (simp; done) | (simp; omega) | omega) | omega)
local macro_rules | `(tactic| walk_at "cn") => `(tactic| first | assumption | omega | (unfold L2.CMul; omega) | (unfold L2.CDiv; omega) | (unfold L2.CPow; omega) | decide)
local macro_rules | `(tactic| walk_at "fl") => `(tactic| first | rfl | assumption)
local macro_rules | `(tactic| walk_at "ix") => `(tactic| first | assumption | rfl)
local macro_rules | `(tactic| walk_at "fsl") => `(tactic| first | assumption | decide | (simp; done))
local macro_rules | `(tactic| walk_at "put") => `(tactic| rfl)
local macro_rules | `(tactic| walk_at "st1") => `(tactic| first | with_reducible refine Sy.x_seq ?_ | with_reducible refine Sy.x_asg ?_ | with_reducible refine Sy.x_gname ?_ | with_reducible refine Sy.x_c ?_ | with_reducible refine Sy.x_op ?_ | with_reducible refine Sy.x_un ?_ | with_reducible refine Sy.x_test ?_ | with_reducible refine Sy.x_tB ?_ | with_reducible refine Sy.k_b ?_ | with_reducible refine Sy.x_if ?_ | with_reducible refine Sy.x_and ?_ | with_reducible refine Sy.x_or ?_ | with_reducible refine Sy.x_not ?_ | with_reducible refine Sy.x_andV ?_ | with_reducible refine Sy.x_orV ?_ | with_reducible refine Sy.x_notV ?_ | with_reducible refine Sy.k_andV ?_ | with_reducible refine Sy.k_orV ?_ | with_reducible refine Sy.k_notVt ?_ | with_reducible refine Sy.k_notVf ?_ | with_reducible refine Sy.k_notV ?_ | with_reducible refine Sy.ifNT ?_ | with_reducible refine Sy.ifNF ?_ | with_reducible refine Sy.x_ifE ?_ | with_reducible refine Sy.x_chain ?_ | with_reducible refine Sy.k_chain ?_ | with_reducible refine Sy.x_ret ?_ | with_reducible refine Sy.x_retN ?_ | with_reducible refine Sy.x_drop ?_ | with_reducible refine Sy.x_next ?_ | with_reducible refine Sy.x_brk ?_ | with_reducible refine Sy.x_ct ?_ | with_reducible refine Sy.x_cons ?_ | with_reducible refine Sy.x_nil ?_ | with_reducible refine Sy.x_call0 ?_ | with_reducible refine Sy.x_call ?_ | with_reducible refine Sy.x_meth ?_ | with_reducible refine Sy.x_cb ?_ | with_reducible refine Sy.x_fld ?_ | with_reducible refine Sy.x_sfld ?_ | with_reducible refine Sy.x_lst ?_ | with_reducible refine Sy.x_tup ?_ | with_reducible refine Sy.x_bm ?_ | with_reducible refine Sy.x_bm0 ?_ | with_reducible refine Sy.k_addI ?_ | with_reducible refine Sy.k_subI ?_ | with_reducible refine Sy.k_ltI ?_ | with_reducible refine Sy.k_leI ?_ | with_reducible refine Sy.k_gtI ?_ | with_reducible refine Sy.k_geI ?_ | with_reducible refine Sy.k_eqI ?_ | with_reducible refine Sy.k_neI ?_ | with_reducible refine Sy.k_eqB ?_ | with_reducible refine Sy.k_neB ?_ | with_reducible refine Sy.k_eqS ?_ | with_reducible refine Sy.k_neS ?_ | with_reducible refine Sy.k_isNo0 ?_ | with_reducible refine Sy.k_isNoI ?_ | with_reducible refine Sy.k_isNoR ?_ | with_reducible refine Sy.k_notNo0 ?_ | with_reducible refine Sy.k_notNoI ?_ | with_reducible refine Sy.k_notNoR ?_ | with_reducible refine Sy.k_eqIN ?_ | with_reducible refine Sy.k_eqNI ?_ | with_reducible refine Sy.k_eqNN ?_ | with_reducible refine Sy.k_neIN ?_ | with_reducible refine Sy.k_neNI ?_ | with_reducible refine Sy.k_neNN ?_ | with_reducible refine Sy.ifT ?_ | with_reducible refine Sy.ifF ?_ | with_reducible refine Sy.x_gcons ?_ | with_reducible refine Sy.x_gnil ?_ | with_reducible refine Sy.x_gsub ?_ | with_reducible refine Sy.x_rg1 ?_ | with_reducible refine Sy.k_rg1 ?_ | with_reducible refine Sy.x_lstRg ?_ | with_reducible refine Sy.x_make ?_ | with_reducible refine Sy.x_dget ?_ | with_reducible refine Sy.x_din ?_ | with_reducible refine Sy.x_dnot ?_ | with_reducible refine Sy.x_dput ?_ | with_reducible refine Sy.x_dpop1 ?_ | with_reducible refine Sy.x_dget2 ?_ | with_reducible refine Sy.x_dget1 ?_ | with_reducible refine Sy.x_forR ?_ | with_reducible refine Sy.x_forL ?_ | with_reducible refine Sy.x_lcL ?_ | with_reducible refine Sy.x_lcR ?_ | with_reducible refine Sy.x_yes ?_ | with_reducible refine Sy.k_isiII ?_ | with_reducible refine Sy.k_isiIB ?_ | with_reducible refine Sy.k_isiBI ?_ | with_reducible refine Sy.k_isiBB ?_ | with_reducible refine Sy.x_par ?_ | with_reducible refine Sy.k_par ?_ | with_reducible refine Sy.k_neDNN ?_ | with_reducible refine Sy.k_eqDNN ?_ | with_reducible refine Sy.x_cfn ?_ | with_reducible refine Sy.k_cfn0 ?_ | with_reducible refine Sy.x_dpopT ?_ | with_reducible refine Sy.x_makeN ?_ | with_reducible refine Sy.x_par3 ?_ | with_reducible refine Sy.k_par3 ?_ | with_reducible refine Sy.k_isB ?_ | with_reducible refine Sy.k_notB ?_ | with_reducible refine Sy.x_listVals ?_ | with_reducible refine Sy.x_revL ?_ | with_reducible refine Sy.x_raise ?_ | with_reducible refine Sy.x_tryK ?_ | with_reducible refine Sy.x_callS ?_ | with_reducible refine Sy.x_methS ?_ | with_reducible refine Sy.x_sset (fun _ => ?_))
local macro_rules | `(tactic| walk_at "st2") => `(tactic| first | ((with_reducible refine' Sy.x_var ?h ?q); (case h => rfl)) | ((with_reducible refine' Sy.k_fld ?hp ?hc ?hn ?hl ?q); (case hp => walk_at "hp"); (case hc => assumption); (case hn => assumption); (case hl => walk_at "fl")) | ((with_reducible refine' Sy.k_meth0 ?hp ?hl ?q); (case hp => walk_at "hp"); (case hl => walk_at "fl")) | ((with_reducible refine' Sy.k_meth ?hp ?hl ?q); (case hp => walk_at "hp"); (case hl => walk_at "fl")) | ((with_reducible refine' Sy.k_ixL ?hp ?hi ?q); (case hp => walk_at "hp"); (case hi => walk_at "ix")) | ((with_reducible refine' Sy.k_ixT ?hp ?hi ?q); (case hp => walk_at "hp"); (case hi => walk_at "ix")) | ((with_reducible refine' Sy.k_tyL ?hp ?q); (case hp => walk_at "hp")) | ((with_reducible refine' Sy.k_lenL ?hp ?q); (case hp => walk_at "hp")) | ((with_reducible refine' Sy.k_lenT ?hp ?q); (case hp => walk_at "hp")) | ((with_reducible refine' Sy.k_lenK ?hp ?q); (case hp => walk_at "hp")) | ((with_reducible refine' Sy.k_isiLL ?hp ?q); (case hp => walk_at "hp")) | ((with_reducible refine' Sy.k_isiTT ?hp ?q); (case hp => walk_at "hp")) | ((with_reducible refine' Sy.k_all ?hp ?q); (case hp => walk_at "hp")) | ((with_reducible refine' Sy.k_sum ?hp ?q); (case hp => walk_at "hp")) | ((with_reducible refine' Sy.k_isD ?hp ?q); (case hp => walk_at "hp")) | ((with_reducible refine' Sy.k_isDT ?hp ?q); (case hp => walk_at "hp")) | ((with_reducible refine' Sy.k_din ?hp ?q); (case hp => walk_at "hp")) | ((with_reducible refine' Sy.k_dnot ?hp ?q); (case hp => walk_at "hp")) | ((with_reducible refine' Sy.k_dget2 ?hp ?q); (case hp => walk_at "hp")) | ((with_reducible refine' Sy.k_dget1 ?hp ?q); (case hp => walk_at "hp")) | ((with_reducible refine' Sy.k_dinP ?hp ?hb ?q); (case hp => walk_at "hp"); (case hb => walk_at "hp")) | ((with_reducible refine' Sy.k_dnotP ?hp ?hb ?q); (case hp => walk_at "hp"); (case hb => walk_at "hp")) | ((with_reducible refine' Sy.k_dget2P ?hp ?hb ?q); (case hp => walk_at "hp"); (case hb => walk_at "hp")) | ((with_reducible refine' Sy.k_dget ?hp ?hv ?q); (case hp => walk_at "hp"); (case hv => walk_at "ix")) | ((with_reducible refine' Sy.k_dgetF ?hp ?hv ?q); (case hp => walk_at "hp"); (case hv => walk_at "ix")) | ((with_reducible refine' Sy.k_dgetP ?hp ?hb ?hv ?q); (case hp => walk_at "hp"); (case hb => walk_at "hp"); (case hv => walk_at "ix")) | ((with_reducible refine' Sy.k_mulI ?h ?q); (case h => walk_at "cn")) | ((with_reducible refine' Sy.k_divI ?h ?q); (case h => walk_at "cn")) | ((with_reducible refine' Sy.k_modI ?h ?q); (case h => walk_at "cn")) | ((with_reducible refine' Sy.k_powI ?h ?q); (case h => walk_at "cn")) | ((with_reducible refine' Sy.x_gtup ?hp ?hl ?q); (case hp => walk_at "hp"); (case hl => rfl)) | ((with_reducible refine' Sy.k_inIt ?hp ?q); (case hp => walk_at "hp")) | ((with_reducible refine' Sy.k_inIf ?hp ?q); (case hp => walk_at "hp")) | ((with_reducible refine' Sy.k_eqLN ?hp ?hq ?q); (case hp => walk_at "hp"); (case hq => walk_at "hp")) | ((with_reducible refine' Sy.k_neLN ?hp ?hq ?q); (case hp => walk_at "hp"); (case hq => walk_at "hp")) | ((with_reducible refine' Sy.k_eqLI ?hp ?hq ?q); (case hp => walk_at "hp"); (case hq => walk_at "hp")) | ((with_reducible refine' Sy.k_neLI ?hp ?hq ?q); (case hp => walk_at "hp"); (case hq => walk_at "hp")) | ((with_reducible refine' Sy.k_cnt ?hp ?q); (case hp => walk_at "hp")) | ((with_reducible refine' Sy.k_lenO ?hp ?q); (case hp => walk_at "hp")) | ((with_reducible refine' Sy.k_methS ?hp ?hl ?q); (case hp => walk_at "hp"); (case hl => walk_at "fl")) | ((with_reducible refine' Sy.k_isKR ?hp ?hC ?hk ?q); (case hp => walk_at "hp"); (case hC => assumption); (case hk => assumption)) | ((with_reducible refine' Sy.k_isKT ?hp ?hC ?hk ?q); (case hp => walk_at "hp"); (case hC => assumption); (case hk => assumption)) | ((with_reducible refine' Sy.x_glst ?hp ?hl ?q); (case hp => walk_at "hp"); (case hl => rfl)) | ((with_reducible refine' Sy.k_dgetFP ?hp ?hb ?hv ?q); (case hp => walk_at "hp"); (case hb => walk_at "hp"); (case hv => walk_at "ix")))
local macro_rules | `(tactic| walk_at "st3") => `(tactic| first | ((with_reducible refine' Sy.k_rem ?hp ?hk ?hh ?q); (case hp => walk_at "hp"); (case hk => assumption); (case hh => walk_at "hs"); intro _ _) | ((with_reducible refine' Sy.k_dpopT ?hp ?hb ?hv ?hh ?q); (case hp => walk_at "hp"); (case hb => walk_at "hp"); (case hv => walk_at "ix"); (case hh => walk_at "hs"); intro _ _) | ((with_reducible refine' Sy.k_sset ?hh ?hp ?hl ?q); (case hh => assumption); (case hp => walk_at "hp"); (case hl => first | assumption | omega | walk_at "sz"); intro _ _ _ _ _ _) | ((with_reducible refine' Sy.k_lst ?hh ?hl ?q); (case hh => assumption); (case hl => walk_at "sz"); intro _ _ _) | ((with_reducible refine' Sy.k_make0 ?hh ?q); (case hh => assumption); intro _ _ _ _) | ((with_reducible refine' Sy.k_listVals ?hh ?hp ?q); (case hh => assumption); (case hp => walk_at "hp"); intro _ _ _) | ((with_reducible refine' Sy.x_disp1 ?hh ?q); (case hh => assumption); intro _ _ _) | ((with_reducible refine' Sy.k_disp ?hp ?hh ?q); (case hp => walk_at "hp"); (case hh => walk_at "hs"); intro _ _) | ((with_reducible refine' Sy.k_revL ?hh ?hp ?q); (case hh => assumption); (case hp => walk_at "hp"); intro _ _ _) | ((with_reducible refine' Sy.k_setD ?hp ?hl ?hh ?q); (case hp => walk_at "hp"); (case hl => walk_at "sz"); (case hh => walk_at "hs"); intro _ _) | ((with_reducible refine' Sy.k_make ?hh ?q); (case hh => assumption); intro _ _ _ _) | ((with_reducible refine' Sy.k_makeN ?hh ?hn ?hm ?q); (case hh => assumption); (case hn => rfl); (case hm => rfl); intro _ _ _ _) | ((with_reducible refine' Sy.k_tupN ?hh ?hl ?q); (case hh => assumption); (case hl => walk_at "sz"); intro _ _ _) | ((with_reducible refine' Sy.k_setL ?hp ?hk ?hh ?q); (case hp => walk_at "hp"); (case hk => walk_at "ix"); (case hh => walk_at "hs"); intro _ _) | ((with_reducible refine' Sy.k_app ?hp ?hl ?hh ?q); (case hp => walk_at "hp"); (case hl => walk_at "sz"); (case hh => walk_at "hs"); intro _ _) | ((with_reducible refine' Sy.k_add ?hp ?hl ?hh ?q); (case hp => walk_at "hp"); (case hl => walk_at "sz"); (case hh => walk_at "hs"); intro _ _) | ((with_reducible refine' Sy.k_pop ?hp ?hl ?hh ?q); (case hp => walk_at "hp"); (case hl => walk_at "ix"); (case hh => walk_at "hs"); intro _ _) | ((with_reducible refine' Sy.k_sfld ?hp ?hc ?hn ?hl ?he ?hh ?q); (case hp => walk_at "hp"); (case hc => assumption); (case hn => assumption); (case hl => walk_at "fsl"); (case he => walk_at "put"); (case hh => walk_at "hs"); intro _ _) | ((with_reducible refine' Sy.k_cat ?hh ?hp ?hq ?hl ?q); (case hh => assumption); (case hp => walk_at "hp"); (case hq => walk_at "hp"); (case hl => walk_at "sz"); intro _ _ _) | ((with_reducible refine' Sy.k_rep ?hh ?hp ?h0 ?h1 ?q); (case hh => assumption); (case hp => walk_at "hp"); (case h0 => omega); (case h1 => omega); intro _ _ _) | ((with_reducible refine' Sy.k_lstRg ?hh ?h0 ?h1 ?q); (case hh => assumption); (case h0 => omega); (case h1 => omega); intro _ _ _) | ((with_reducible refine' Sy.x_dnewK ?hh ?q); (case hh => assumption); intro _ _ _) | ((with_reducible refine' Sy.x_dnewT ?hh ?q); (case hh => assumption); intro _ _ _) | ((with_reducible refine' Sy.k_dput ?hp ?hl ?hh ?q); (case hp => walk_at "hp"); (case hl => walk_at "sz"); (case hh => walk_at "hs"); intro _ _) | ((with_reducible refine' Sy.k_dputP ?hp ?hb ?hl ?hh ?q); (case hp => walk_at "hp"); (case hb => walk_at "hp"); (case hl => walk_at "sz"); (case hh => walk_at "hs"); intro _ _) | ((with_reducible refine' Sy.k_dpop1 ?hp ?hv ?hh ?q); (case hp => walk_at "hp"); (case hv => walk_at "ix"); (case hh => walk_at "hs"); intro _ _) | ((with_reducible refine' Sy.k_listOf ?hh ?hp ?q); (case hh => assumption); (case hp => walk_at "hp"); intro _ _ _) | ((with_reducible refine' Sy.k_sortI ?hh ?hp ?q); (case hh => assumption); (case hp => walk_at "hp"); intro _ _ _ _ _ _) | ((with_reducible refine' Sy.k_sortD ?hh ?hp ?hl ?q); (case hh => assumption); (case hp => walk_at "hp"); (case hl => first | assumption | omega | walk_at "sz"); intro _ _ _ _ _ _))
local macro_rules | `(tactic| walk_at "go1") => `(tactic| first | walk_at "st1" | walk_at "st2" | walk_at "st3")
local macro_rules | `(tactic| walk_at "go") => `(tactic| repeat walk_at "go1")
namespace La
open PySem L2 Sy
def t_is_whole (K : PySem.W.Frag) : TS :=
  tRet (tAndV (tCB (rIsi K) (tCons (tVar 0) (tCons (tC (.ty "int")) (tNil)))) (tAndV (tNotV (tCB (rIsi K) (tCons (tVar 0) (tCons (tC (.ty "bool")) (tNil))))) (tChain rLeI rLeI (tVar 1) (tVar 0) (tVar 2))))
def t_look_number (K : PySem.W.Frag) (sp_is_whole : Sp) : TS :=
  tIfS (tNot (tB (tCall sp_is_whole [] E0 (tCons (tVar 0) (tCons (tVar 1) (tCons (tVar 2) (tNil))))))) (tNever) (tNext)
def t_Store_init (K : PySem.W.Frag) (sp_look_number : Sp) : TS :=
  tSeq (tDrop (tCall sp_look_number [] E0 (tCons (tVar 1) (tCons (tC (.int 1)) (tCons (tC (.int 6)) (tNil))))))
    (tSeq (tDrop (tCall sp_look_number [] E0 (tCons (tVar 2) (tCons (tC (.int 1)) (tCons (tC (.int 5)) (tNil))))))
    (tSeq (sFld K (tVar 0) (tVar 1) "hands")
    (tSeq (sFld K (tVar 0) (tCB (rDictP K) (tCons (tLc (iRng1 (tCons (tVar 2) (tNil))) (gName 3) tYes (tTup (tCons (tVar 3) (tCons (tC (.int 0)) (tNil)))) [3]) (tNil))) "worth")
    (tSeq (sFld K (tVar 0) (tLstRg (tRg1 (tVar 2))) "cells")
    (sFld K (tVar 0) (tVar 2) "made")))))
def t_Store_look_cell (K : PySem.W.Frag) (sp_is_whole : Sp) : TS :=
  tIfS (tNot (tB (tCall sp_is_whole [] E0 (tCons (tVar 1) (tCons (tC (.int 0)) (tCons (tOp rSubI (tCB (rLenQ K) (tCons (tFld K (tVar 0) "cells") (tNil))) (tC (.int 1))) (tNil))))))) (tNever) (tNext)
def t_Store_after_swap (K : PySem.W.Frag) : TS :=
  tRet (tC .non)
def t_Store_swap (K : PySem.W.Frag) (C_Store : Addr) (sp_Store__Store_look_cell sp_look_number sp_Store__Store_after_swap : Sp) : TS :=
  tSeq (tDrop (tMeth C_Store "look_cell" sp_Store__Store_look_cell [] E0 (tVar 0) (tCons (tVar 1) (tNil))))
    (tSeq (tDrop (tCall sp_look_number [] E0 (tCons (tVar 2) (tCons (tC (.int 0)) (tCons (tC (.int 999)) (tNil))))))
    (tSeq (tAsg (tOp (rIxL K) (tFld K (tVar 0) "cells") (tVar 1)) (gName 3))
    (tSeq (sDPut (tFld K (tVar 0) "worth") (tFld K (tVar 0) "made") (tVar 2))
    (tSeq (tAsg (tFld K (tVar 0) "made") (gSub (tFld K (tVar 0) "cells") (tVar 1) rSetL))
    (tSeq (sFld K (tVar 0) (tOp rAddI (tFld K (tVar 0) "made") (tC (.int 1))) "made")
    (tSeq (tDrop (tMeth C_Store "after_swap" sp_Store__Store_after_swap [] E0 (tVar 0) (tCons (tVar 3) (tNil))))
    (tRet (tVar 3))))))))
def t_Store_now (K : PySem.W.Frag) : TS :=
  tRet (tLc (iList K (tFld K (tVar 0) "cells")) (gName 1) tYes (tDGet (tFld K (tVar 0) "worth") (tVar 1)) [1])
def t_Store_kept (K : PySem.W.Frag) : TS :=
  tRet (tCB rSortD (tCons (tFld K (tVar 0) "worth") (tNil)))
def t__law_town (K : PySem.W.Frag) : TS :=
  tRet (tLst (tCons (tIf (tTest (tOp (rNeD K) (tVar 0) (tLst (tNil)))) (tCB (rListOf K) (tCons (tVar 0) (tNil))) (tLst (tCons (tC (.int 0)) (tNil)))) (tCons (tC (.int 0)) (tNil))))
def t__law_draw (K : PySem.W.Frag) : TS :=
  tSeq (tAsg (tOp (rIxL K) (tVar 0) (tC (.int 0))) (gName 2))
    (tSeq (tAsg (tOp rAddI (tOp (rIxL K) (tVar 0) (tC (.int 1))) (tC (.int 1))) (gSub (tVar 0) (tC (.int 1)) rSetL))
    (tSeq (tAsg (tOp rModI (tOp (rIxL K) (tVar 0) (tC (.int 1))) (tCB (rLenQ K) (tCons (tVar 2) (tNil)))) (gName 3))
    (tSeq (tAsg (tOp (rIxL K) (tVar 2) (tVar 3)) (gName 4))
    (tSeq (tIfS (tTest (tOp rGeI (tVar 4) (tC (.int 1000000000000000000)))) (tSeq (tAsg (tOp rDivI (tVar 4) (tVar 1)) (gSub (tVar 2) (tVar 3) rSetL))
    (tRet (tOp rModI (tVar 4) (tVar 1)))) (tNext))
    (tSeq (tAsg (tOp rModI (tOp rAddI (tVar 4) (tOp rMulI (tC (.int 104729)) (tOp (rIxL K) (tVar 0) (tC (.int 1))))) (tC (.int 4294967291))) (gName 5))
    (tSeq (tAsg (tOp rModI (tOp rPowI (tVar 5) (tC (.int 5))) (tC (.int 4294967279))) (gName 5))
    (tRet (tOp rModI (tOp rDivI (tOp rModI (tOp rAddI (tOp rMulI (tOp rDivI (tVar 5) (tC (.int 64))) (tC (.int 69621))) (tVar 5)) (tC (.int 4294967231))) (tC (.int 8))) (tVar 1)))))))))
def t__law_pick (K : PySem.W.Frag) (sp__law_draw : Sp) : TS :=
  tRet (tOp (rIxL K) (tVar 1) (tCall sp__law_draw [] E0 (tCons (tVar 0) (tCons (tCB (rLenQ K) (tCons (tVar 1) (tNil))) (tNil)))))
def t__law_whole (K : PySem.W.Frag) : TS :=
  tRet (tAndV (tCB (rIsi K) (tCons (tVar 0) (tCons (tC (.ty "int")) (tNil)))) (tNotV (tCB (rIsi K) (tCons (tVar 0) (tCons (tC (.ty "bool")) (tNil))))))
def t__law_whole_list (K : PySem.W.Frag) (sp__law_whole : Sp) : TS :=
  tRet (tAndV (tCB (rIsi K) (tCons (tVar 0) (tCons (tC (.ty "list")) (tNil)))) (tCB (rAll K) (tCons (tLc (iList K (tVar 0)) (gName 1) tYes (tCall sp__law_whole [] E0 (tCons (tVar 1) (tNil))) [1]) (tNil))))
def t__law_value (K : PySem.W.Frag) (sp__law_pick sp__law_draw : Sp) : TS :=
  tRet (tCall sp__law_pick [] E0 (tCons (tVar 0) (tCons (tLst (tCons (tC (.int 0)) (tCons (tC (.int 999)) (tCons (tCall sp__law_draw [] E0 (tCons (tVar 0) (tCons (tC (.int 1000)) (tNil)))) (tCons (tCall sp__law_draw [] E0 (tCons (tVar 0) (tCons (tC (.int 5)) (tNil)))) (tNil)))))) (tNil))))
def t__law_things (K : PySem.W.Frag) : TS :=
  tRet (tLst (tCons (tLstRg (tRg1 (tVar 0))) (tCons (tOp rRep (tLst (tCons (tC (.int 0)) (tNil))) (tVar 0)) (tCons (tLstRg (tRg1 (tVar 0))) (tNil)))))
def t__law_swap (K : PySem.W.Frag) (C_Store : Addr) (sp__law_draw sp__law_value sp_Store__Store_swap : Sp) : TS :=
  tSeq (tAsg (tCall sp__law_draw [] E0 (tCons (tVar 0) (tCons (tCB (rLenQ K) (tCons (tOp (rIxL K) (tVar 2) (tC (.int 0))) (tNil))) (tNil)))) (gName 3))
    (tSeq (tAsg (tCall sp__law_value [] E0 (tCons (tVar 0) (tNil))) (gName 4))
    (tSeq (tAsg (tOp (rIxL K) (tOp (rIxL K) (tVar 2) (tC (.int 0))) (tVar 3)) (gName 5))
    (tSeq (tAsg (tCB (rLenQ K) (tCons (tOp (rIxL K) (tVar 2) (tC (.int 1))) (tNil))) (gSub (tOp (rIxL K) (tVar 2) (tC (.int 0))) (tVar 3) rSetL))
    (tSeq (tDrop (tBM K "list" rAppend (tOp (rIxL K) (tVar 2) (tC (.int 2))) (tCons (tCB (rLenQ K) (tCons (tOp (rIxL K) (tVar 2) (tC (.int 1))) (tNil))) (tNil))))
    (tSeq (tDrop (tBM K "list" rAppend (tOp (rIxL K) (tVar 2) (tC (.int 1))) (tCons (tVar 4) (tNil))))
    (tRet (tIf (tTest (tOp rEq (tMeth C_Store "swap" sp_Store__Store_swap [] E0 (tVar 1) (tCons (tVar 3) (tCons (tVar 4) (tNil)))) (tVar 5))) (tVar 5) (tC .non))))))))
def t__law_fits (K : PySem.W.Frag) (C_Store : Addr) (sp_Store__Store_now sp_Store__Store_kept sp__law_whole_list : Sp) : TS :=
  tSeq (tIfS (tTest (tOp (rNeD K) (tMeth C_Store "now" sp_Store__Store_now [] E0 (tVar 0) tNil) (tLc (iList K (tOp (rIxL K) (tVar 1) (tC (.int 0)))) (gName 2) tYes (tOp (rIxL K) (tOp (rIxL K) (tVar 1) (tC (.int 1))) (tVar 2)) [2]))) (tRet (tC (.bl false))) (tNext))
    (tRet (tAndV (tOp (rEqD K) (tMeth C_Store "kept" sp_Store__Store_kept [] E0 (tVar 0) tNil) (tCB (rSortedI K) (tCons (tOp (rIxL K) (tVar 1) (tC (.int 2))) (tNil)))) (tCall sp__law_whole_list [] E0 (tCons (tMeth C_Store "kept" sp_Store__Store_kept [] E0 (tVar 0) tNil) (tNil)))))
def t_Store_look_hand (K : PySem.W.Frag) (sp_is_whole : Sp) : TS :=
  tIfS (tNot (tB (tCall sp_is_whole [] E0 (tCons (tVar 1) (tCons (tC (.int 0)) (tCons (tOp rSubI (tFld K (tVar 0) "hands") (tC (.int 1))) (tNil))))))) (tNever) (tNext)
def t_Store_is_out (K : PySem.W.Frag) : TS :=
  tRet (tOp (rIn K true) (tVar 1) (tFld K (tVar 0) "cells"))
def t_Store_let_go (K : PySem.W.Frag) : TS :=
  tSeq (tFor (iList K (tVar 1)) (gName 2) (tDrop (tDPop1 (tFld K (tVar 0) "worth") (tVar 2))))
    (tRet (tCB (rSortedI K) (tCons (tVar 1) (tNil))))
def t_Store_value_of (K : PySem.W.Frag) : TS :=
  tSeq (tIfS (tB (tDNotIn (tVar 1) (tFld K (tVar 0) "worth"))) (tNever) (tNext))
    (tRet (tDGet (tFld K (tVar 0) "worth") (tVar 1)))
def t_Rounds_init (K : PySem.W.Frag) (C_Store : Addr) (sp_Rounds__Store_init : Sp) : TS :=
  tSeq (tDrop (tCFn C_Store sp_Rounds__Store_init [] E0 (tC (.ref C_Store)) (tCons (tVar 0) (tCons (tVar 1) (tCons (tVar 2) (tNil))))))
    (tSeq (sFld K (tVar 0) (tC (.int 0)) "era")
    (tSeq (sFld K (tVar 0) (tDNewK) "inside")
    (tSeq (sFld K (tVar 0) (tDNewK) "saw")
    (sFld K (tVar 0) (tDNewK) "waits"))))
def t_Rounds_look_in (K : PySem.W.Frag) (C_Rounds : Addr) (sp_Rounds__Store_look_hand : Sp) : TS :=
  tSeq (tDrop (tMeth C_Rounds "look_hand" sp_Rounds__Store_look_hand [] E0 (tVar 0) (tCons (tVar 1) (tNil))))
    (tIfS (tB (tDNotIn (tVar 1) (tFld K (tVar 0) "inside"))) (tNever) (tNext))
def t_Rounds_read (K : PySem.W.Frag) (C_Rounds : Addr) (sp_Rounds__Rounds_look_in sp_Rounds__Store_value_of : Sp) : TS :=
  tSeq (tDrop (tMeth C_Rounds "look_in" sp_Rounds__Rounds_look_in [] E0 (tVar 0) (tCons (tVar 1) (tNil))))
    (tSeq (tIfS (tOr (tB (tCB (rIsi K) (tCons (tVar 2) (tCons (tC (.ty "bool")) (tNil))))) (tTest (tOp (rIn K true) (tVar 2) (tDGet (tFld K (tVar 0) "saw") (tVar 1))))) (tNever) (tNext))
    (tRet (tMeth C_Rounds "value_of" sp_Rounds__Store_value_of [] E0 (tVar 0) (tCons (tVar 2) (tNil)))))
def t_Rounds_after_swap (K : PySem.W.Frag) : TS :=
  sDPut (tFld K (tVar 0) "waits") (tVar 1) (tFld K (tVar 0) "era")
def t_Rounds_enter (K : PySem.W.Frag) (C_Rounds : Addr) (sp_Rounds__Store_look_hand : Sp) : TS :=
  tSeq (tDrop (tMeth C_Rounds "look_hand" sp_Rounds__Store_look_hand [] E0 (tVar 0) (tCons (tVar 1) (tNil))))
    (tSeq (tIfS (tB (tDIn (tVar 1) (tFld K (tVar 0) "inside"))) (tNever) (tNext))
    (tSeq (sDPut (tFld K (tVar 0) "inside") (tVar 1) (tFld K (tVar 0) "era"))
    (tSeq (sDPut (tFld K (tVar 0) "saw") (tVar 1) (tLst (tNil)))
    (tRet (tFld K (tVar 0) "era")))))
def t_Rounds_leave (K : PySem.W.Frag) (C_Rounds : Addr) (sp_Rounds__Rounds_look_in : Sp) : TS :=
  tSeq (tDrop (tMeth C_Rounds "look_in" sp_Rounds__Rounds_look_in [] E0 (tVar 0) (tCons (tVar 1) (tNil))))
    (tSeq (tDrop (tDPop1 (tFld K (tVar 0) "inside") (tVar 1)))
    (tDrop (tDPop1 (tFld K (tVar 0) "saw") (tVar 1))))
def t_Rounds_look (K : PySem.W.Frag) (C_Rounds : Addr) (sp_Rounds__Rounds_look_in sp_Rounds__Store_look_cell : Sp) : TS :=
  tSeq (tDrop (tMeth C_Rounds "look_in" sp_Rounds__Rounds_look_in [] E0 (tVar 0) (tCons (tVar 1) (tNil))))
    (tSeq (tDrop (tMeth C_Rounds "look_cell" sp_Rounds__Store_look_cell [] E0 (tVar 0) (tCons (tVar 2) (tNil))))
    (tSeq (tDrop (tBM K "list" rAppend (tDGet (tFld K (tVar 0) "saw") (tVar 1)) (tCons (tOp (rIxL K) (tFld K (tVar 0) "cells") (tVar 2)) (tNil))))
    (tRet (tOp (rIxL K) (tFld K (tVar 0) "cells") (tVar 2)))))
def t_Rounds_go_on (K : PySem.W.Frag) (C_Rounds : Addr) (sp_Rounds__Store_let_go : Sp) : TS :=
  tSeq (tIfS (tNot (tB (tCB (rAll K) (tCons (tLockE (tLc (iKeys (tFld K (tVar 0) "inside")) (gName 1) tYes (tOp rEq (tDGet (tFld K (tVar 0) "inside") (tVar 1)) (tFld K (tVar 0) "era")) [1])) (tNil))))) (tRet (tC .non)) (tNext))
    (tSeq (sFld K (tVar 0) (tOp rAddI (tFld K (tVar 0) "era") (tC (.int 1))) "era")
    (tSeq (tLock (tAsg (tLc (iKeys (tFld K (tVar 0) "waits")) (gName 3) (tTest (tOp rLeI (tDGet (tFld K (tVar 0) "waits") (tVar 3)) (tOp rSubI (tFld K (tVar 0) "era") (tC (.int 2))))) (tVar 3) [3]) (gName 2)))
    (tSeq (tFor (iList K (tVar 2)) (gName 3) (tDrop (tDPop1 (tFld K (tVar 0) "waits") (tVar 3))))
    (tRet (tMeth C_Rounds "let_go" sp_Rounds__Store_let_go [] E0 (tVar 0) (tCons (tVar 2) (tNil)))))))
def t__law_read (K : PySem.W.Frag) (C_Rounds : Addr) (sp_Rounds__Rounds_read : Sp) : TS :=
  tSeq (tAsg (tC .non) (gName 3))
    (tSeq (tAsg (tC .non) (gName 4))
    (tSeq (tAsg (tMeth C_Rounds "read" sp_Rounds__Rounds_read [] E0 (tVar 0) (tCons (tVar 1) (tCons (tVar 2) (tNil)))) (gName 3))
    (tRet (tIf (tTest (tOp rIsNo (tVar 4) (tC .non))) (tVar 3) (tC .non)))))
def t_Rounds_round_now (K : PySem.W.Frag) : TS :=
  tRet (tFld K (tVar 0) "era")
def t_Rounds_hands_in (K : PySem.W.Frag) : TS :=
  tRet (tCB rSortD (tCons (tFld K (tVar 0) "inside") (tNil)))
def t__law_gone (K : PySem.W.Frag) : TS :=
  tAsg (tLc (iList K (tOp (rIxL K) (tVar 0) (tC (.int 2)))) (gName 2) (tTest (tOp (rIn K true) (tVar 2) (tVar 1))) (tVar 2) [2]) (gSub (tVar 0) (tC (.int 2)) rSetL)
def t__law_is (K : PySem.W.Frag) : TS :=
  tRet (tAndV (tCB (rIsi K) (tCons (tVar 0) (tCons (tC (.ty "bool")) (tNil)))) (tOp rEq (tVar 0) (tVar 1)))
end La
namespace La
open PySem L2 Sy
/-! ### numbers -/
def sp_is_whole : Sp := fun vs H Q _ => ∃ x lo hi : Int, vs = [.int x, .int lo, .int hi] ∧ Q (.bl (decide (lo ≤ x ∧ x ≤ hi))) H
theorem pure_is_whole {K : PySem.W.Frag} {vs : List V} {H : Hp} {Q : VK} {E : XK} (h : sp_is_whole vs H Q E) : t_is_whole K ⟨fun _ H' => Q .non H', Q, fun _ _ => False, fun _ _ => False⟩ (start ["thing", "low", "high"] vs) H := by
  obtain ⟨x, lo, hi, rfl, q⟩ := h
  unfold t_is_whole
  walk_at "go"
  refine ifD (fun h1 => ?_) (fun h1 => ?_)
  · walk_at "go"
    have e : decide (lo ≤ x ∧ x ≤ hi) = decide (x ≤ hi) := by simp [h1]
    rw [e] at q
    exact q
  · have e : decide (lo ≤ x ∧ x ≤ hi) = false := by simp [h1]
    rw [e] at q
    exact q
def sp_look_number : Sp := fun vs H Q _ => ∃ x lo hi : Int, vs = [.int x, .int lo, .int hi] ∧ lo ≤ x ∧ x ≤ hi ∧ Q .non H
theorem pure_look_number {K : PySem.W.Frag} {vs : List V} {H : Hp} {Q : VK} {E : XK} (h : sp_look_number vs H Q E) : t_look_number K sp_is_whole ⟨fun _ H' => Q .non H', Q, fun _ _ => False, fun _ _ => False⟩ (start ["thing", "low", "high"] vs) H := by
  obtain ⟨x, lo, hi, rfl, h1, h2, q⟩ := h
  unfold t_look_number
  walk_at "go"
  refine ⟨x, lo, hi, rfl, ?_⟩
  rw [decide_eq_true ⟨h1, h2⟩]
  walk_at "go"
  exact q
/-! ### the town: the script's numbers, and how many draws were made -/
structure Town where
  r : Addr
  ns : List Int
  n : Int
@[reducible] def townU (t : Addr) (s : Town) : U := [(t, .lst [.ref s.r, .int s.n]), (s.r, .lst (s.ns.map V.int))]
def Town.ok (s : Town) : Prop := 0 < s.ns.length ∧ s.ns.length ≤ 63
theorem at_ints {ns : List Int} {k : Int} (h0 : 0 ≤ k) (h1 : k < ns.length) : atI (ns.map V.int) k = some (.int (ns.getD k.toNat 0)) := by
  obtain ⟨j, rfl⟩ := Int.eq_ofNat_of_zero_le h0
  have hj : j < ns.length := by omega
  refine atI_nat ?_
  rw [List.getElem?_map]
  simp [hj]
theorem ix_ok {n : Nat} {k : Int} (h0 : 0 ≤ k) (h1 : k < n) : ixN n k = some k.toNat := by
  unfold ixN
  rw [if_pos h0, if_pos h1]
theorem map_set_int (ns : List Int) (k : Nat) (z : Int) : (ns.map V.int).set k (.int z) = (ns.set k z).map V.int := by rw [List.map_set]
def sp__law_draw : Sp := fun vs H Q _ => ∃ (t : Addr) (s : Town) (m : Int) (R : List U), vs = [.ref t, .int m] ∧ 0 < m ∧ m ≤ 100000 ∧ s.ok ∧ Has H (townU t s :: R) ∧
  ∀ (d : Int) (s' : Town) (H' : Hp), 0 ≤ d → d < m → s'.ok → Has H' (townU t s' :: R) → Q (.int d) H'
theorem pure__law_draw {K : PySem.W.Frag} {vs : List V} {H : Hp} {Q : VK} {E : XK} (h : sp__law_draw vs H Q E) : t__law_draw K ⟨fun _ H' => Q .non H', Q, fun _ _ => False, fun _ _ => False⟩ (start ["town", "many", "row", "at", "cell", "mixed"] vs) H := by
  obtain ⟨t, ⟨r, ns, n⟩, m, R, rfl, m0, m1, ⟨l0, l1⟩, hh, q⟩ := h
  replace hh := hh.cut
  have l0' : 0 < ns.length := l0
  have hl : ((ns.map V.int).length : Int) = ns.length := by rw [List.length_map]
  have k0 : 0 ≤ (n + 1) % ((ns.map V.int).length : Int) := Int.emod_nonneg _ (by omega)
  have k1 : (n + 1) % ((ns.map V.int).length : Int) < ns.length := by rw [hl]; exact Int.emod_lt_of_pos _ (by omega)
  have ea := at_ints k0 k1
  have ex : ixN (ns.map V.int).length ((n + 1) % ((ns.map V.int).length : Int)) = some ((n + 1) % ((ns.map V.int).length : Int)).toNat := ix_ok k0 (by omega)
  have lz : (0 : Int) < ((ns.map V.int).length : Int) := by omega
  unfold t__law_draw
  walk_at "go"
  refine ifD (fun hb => ?_) (fun hb => ?_)
  · walk_at "go"
    rename_i H1 h1 H2 h2
    rw [map_set_int] at h2
    exact q _ ⟨r, ns.set _ _, n + 1⟩ _ (Int.emod_nonneg _ (by omega)) (Int.emod_lt_of_pos _ m0) ⟨by show 0 < (ns.set _ _).length; rw [List.length_set]; exact l0, by show (ns.set _ _).length ≤ 63; rw [List.length_set]; exact l1⟩ h2.glue
  · walk_at "go"
    rename_i H1 h1
    exact q _ ⟨r, ns, n + 1⟩ _ (Int.emod_nonneg _ (by omega)) (Int.emod_lt_of_pos _ m0) ⟨l0, l1⟩ h1.glue
/-- a draw, as the caller uses it -/
theorem use_draw {H : Hp} {Q : VK} {E : XK} {L R : List U} {t : Addr} {s : Town} {m : Int} (hh : Has H L) (hs : Sub (townU t s :: R) L) (ok : s.ok) (m0 : 0 < m) (m1 : m ≤ 100000)
    (q : ∀ (d : Int) (s' : Town) (H' : Hp), 0 ≤ d → d < m → s'.ok → Has H' (townU t s' :: R) → Q (.int d) H') : sp__law_draw [.ref t, .int m] H Q E := ⟨t, s, m, R, rfl, m0, m1, ok, hh.sub hs, q⟩
/-! ### the script -/
/-- the script's list, as it stands in any heap that has the unit u -/
def Scr (K : PySem.W.Frag) (a : Addr) (xs : List V) (u : U) : Prop := ∀ H L, Has H (u :: L) → SqL K H a xs
theorem scr_of {K : PySem.W.Frag} {H : Hp} {a : Addr} {xs : List V} (h : SqL K H a xs) : ∃ u, Has H [u] ∧ Scr K a xs u := by
  rcases h with (h | ⟨o, h⟩) | h
  · exact ⟨[(a, .lst xs)], ⟨by simp, fun p hp => by simp at hp; subst hp; exact h⟩, fun H' L hh => .inl (.inl hh.g0)⟩
  · exact ⟨[(a, .frz o (.lst xs))], ⟨by simp, fun p hp => by simp at hp; subst hp; exact h⟩, fun H' L hh => .inl (.inr ⟨o, hh.g0⟩)⟩
  · exact ⟨[], Has.nilU.mpr Has.nil, fun H' L hh => .inr h⟩
def sp__law_town (K : PySem.W.Frag) : Sp := fun vs H Q _ => ∃ (a : Addr) (ns : List Int), vs = [.ref a] ∧ SqL K H a (ns.map V.int) ∧ ns.length ≤ 63 ∧
  ∀ (t : Addr) (s : Town) (H' : Hp), s.ok → Has H' [townU t s] → Q (.ref t) H'
theorem pure__law_town {K : PySem.W.Frag} {vs : List V} {H : Hp} {Q : VK} {E : XK} (h : sp__law_town K vs H Q E) : t__law_town K ⟨fun _ H' => Q .non H', Q, fun _ _ => False, fun _ _ => False⟩ (start ["script"] vs) H := by
  obtain ⟨a, ns, rfl, hs, hl, q⟩ := h
  obtain ⟨u, h0, hu⟩ := scr_of hs
  unfold t__law_town
  walk_at "go"
  rename_i p H1 h1
  have e := eqv_ints ns []
  refine ⟨_, _, .lst (hu H1 _ (by walk_at "has")) (dpAll_ints ns), .lst (SqL.of h1.g0) .nil, shaped_ints ns, by decide +kernel, ?_⟩
  have e : PyData.eqv (.list (ns.map PyData.int)) (.list []) = decide (ns = []) := e
  rw [e]
  walk_at "go"
  refine ifE (fun hn => ?_) (fun hn => ?_)
  · walk_at "go"
    refine k_listOfS h1 (hu H1 _ (by walk_at "has")) fun r H2 h2 => ?_
    walk_at "go"
    rename_i t H3 h3
    refine q t ⟨r, ns, 0⟩ H3 ⟨List.length_pos_iff.mpr hn, hl⟩ (Has.glue ?_)
    walk_at "has"
  · walk_at "go"
    rename_i r H2 h2 t H3 h3
    refine q t ⟨r, [0], 0⟩ H3 ⟨Nat.zero_lt_one, (by show 1 ≤ 63; decide)⟩ (Has.glue ?_)
    walk_at "has"
def sp__law_whole : Sp := fun vs H Q _ => ∃ x : Int, vs = [.int x] ∧ Q (.bl true) H
theorem pure__law_whole {K : PySem.W.Frag} {vs : List V} {H : Hp} {Q : VK} {E : XK} (h : sp__law_whole vs H Q E) : t__law_whole K ⟨fun _ H' => Q .non H', Q, fun _ _ => False, fun _ _ => False⟩ (start ["thing"] vs) H := by
  obtain ⟨x, rfl, q⟩ := h
  unfold t__law_whole
  walk_at "go"
  exact q
def sp__law_pick : Sp := fun vs H Q _ => ∃ (t p : Addr) (s : Town) (xs : List V) (R : List U), vs = [.ref t, .ref p] ∧ Has H (townU t s :: [(p, .lst xs)] :: R) ∧ 0 < xs.length ∧ xs.length ≤ 1000 ∧ s.ok ∧
  ∀ (d : Nat) (v : V) (s' : Town) (H' : Hp), xs[d]? = some v → s'.ok → Has H' (townU t s' :: [(p, .lst xs)] :: R) → Q v H'
theorem pure__law_pick {K : PySem.W.Frag} {vs : List V} {H : Hp} {Q : VK} {E : XK} (h : sp__law_pick vs H Q E) : t__law_pick K sp__law_draw ⟨fun _ H' => Q .non H', Q, fun _ _ => False, fun _ _ => False⟩ (start ["town", "some"] vs) H := by
  obtain ⟨t, p, s, xs, R, rfl, hh, h1, h2, ok, q⟩ := h
  unfold t__law_pick
  walk_at "go"
  refine use_draw hh Sub.rf ok (by omega) (by omega) fun d s' H' d0 d1 ok' hh' => ?_
  have ht : d.toNat < xs.length := by omega
  have e : atI xs d = some xs[d.toNat] := at_n d0 (by simp [ht])
  walk_at "go"
  exact q d.toNat _ s' H' (by simp [ht]) ok' hh'
def sp__law_value : Sp := fun vs H Q _ => ∃ (t : Addr) (s : Town) (R : List U), vs = [.ref t] ∧ s.ok ∧ Has H (townU t s :: R) ∧
  ∀ (d : Int) (s' : Town) (H' : Hp), 0 ≤ d → d ≤ 999 → s'.ok → Has H' (townU t s' :: R) → Q (.int d) H'
theorem pure__law_value {K : PySem.W.Frag} {vs : List V} {H : Hp} {Q : VK} {E : XK} (h : sp__law_value vs H Q E) : t__law_value K sp__law_pick sp__law_draw ⟨fun _ H' => Q .non H', Q, fun _ _ => False, fun _ _ => False⟩ (start ["town"] vs) H := by
  obtain ⟨t, s, R, rfl, ok, hh, q⟩ := h
  unfold t__law_value
  walk_at "go"
  refine use_draw hh Sub.rf ok (by decide) (by decide) fun d s1 H1 d0 d1 ok1 hh1 => ?_
  walk_at "go"
  refine use_draw hh1 Sub.rf ok1 (by decide) (by decide) fun e s2 H2 e0 e1 ok2 hh2 => ?_
  walk_at "go"
  rename_i p H3 hh3
  refine ⟨t, p, s2, _, R, rfl, by walk_at "has", by show 0 < 4; decide, by show 4 ≤ 1000; decide, ok2, fun k v s4 H4 hk ok4 hh4 => ?_⟩
  have hv : ∃ z : Int, v = .int z ∧ 0 ≤ z ∧ z ≤ 999 := by
    match k, hk with
    | 0, hk => exact ⟨0, (Option.some.inj hk).symm, by omega, by omega⟩
    | 1, hk => exact ⟨999, (Option.some.inj hk).symm, by omega, by omega⟩
    | 2, hk => exact ⟨d, (Option.some.inj hk).symm, by omega, by omega⟩
    | 3, hk => exact ⟨e, (Option.some.inj hk).symm, by omega, by omega⟩
  obtain ⟨z, rfl, z0, z1⟩ := hv
  exact q z s4 H4 z0 z1 ok4 (by walk_at "has")
end La
namespace La
open PySem L2 Sy
def stF (v0 : V) (v1 : V) (v2 : V) (v3 : V) (x : List (Str × V)) : List (Str × V) := ("hands", v0) :: ("worth", v1) :: ("cells", v2) :: ("made", v3) :: x
theorem stF_hands {v0 v1 v2 v3 : V} {x : List (Str × V)} : (stF v0 v1 v2 v3 x).lookup ("hands" : Str) = some v0 := by kernel_rfl
theorem stF_put_hands {v0 v1 v2 v3 w : V} {x : List (Str × V)} : putF "hands" w (stF v0 v1 v2 v3 x) = stF w v1 v2 v3 x := by kernel_rfl
theorem stF_worth {v0 v1 v2 v3 : V} {x : List (Str × V)} : (stF v0 v1 v2 v3 x).lookup ("worth" : Str) = some v1 := by kernel_rfl
theorem stF_put_worth {v0 v1 v2 v3 w : V} {x : List (Str × V)} : putF "worth" w (stF v0 v1 v2 v3 x) = stF v0 w v2 v3 x := by kernel_rfl
theorem stF_cells {v0 v1 v2 v3 : V} {x : List (Str × V)} : (stF v0 v1 v2 v3 x).lookup ("cells" : Str) = some v2 := by kernel_rfl
theorem stF_put_cells {v0 v1 v2 v3 w : V} {x : List (Str × V)} : putF "cells" w (stF v0 v1 v2 v3 x) = stF v0 v1 w v3 x := by kernel_rfl
theorem stF_made {v0 v1 v2 v3 : V} {x : List (Str × V)} : (stF v0 v1 v2 v3 x).lookup ("made" : Str) = some v3 := by kernel_rfl
theorem stF_put_made {v0 v1 v2 v3 w : V} {x : List (Str × V)} : putF "made" w (stF v0 v1 v2 v3 x) = stF v0 v1 v2 w x := by kernel_rfl
/-! ### the store -/
theorem look_no {f g : Str} {v : V} {r : List (Str × V)} (h : (f == g) = false) (k : r.lookup f = none) : List.lookup f ((g, v) :: r) = none := by rw [List.lookup_cons, h]; exact k
/-- what holds of a class whose instances are stores -/
structure StoreC (K : PySem.W.Frag) (C : Addr) : Prop where
  cl : Cls K C
  n1 : NoAttr K C "hands"
  n2 : NoAttr K C "worth"
  n3 : NoAttr K C "cells"
  n4 : NoAttr K C "made"
structure StX (x : List (Str × V)) : Prop where
  len : x.length < 900
  m1 : x.lookup ("look_cell" : Str) = none
  m2 : x.lookup ("after_swap" : Str) = none
  m3 : x.lookup ("look_hand" : Str) = none
  m4 : x.lookup ("swap" : Str) = none
  m5 : x.lookup ("now" : Str) = none
  m6 : x.lookup ("kept" : Str) = none
  m7 : x.lookup ("let_go" : Str) = none
  m8 : x.lookup ("value_of" : Str) = none
  m9 : x.lookup ("is_out" : Str) = none
theorem stX_nil : StX [] := ⟨by decide, rfl, rfl, rfl, rfl, rfl, rfl, rfl, rfl, rfl⟩
theorem stF_no {m : Str} {v0 v1 v2 v3 : V} {x : List (Str × V)} (h : x.lookup m = none) (h0 : (m == ("hands" : Str)) = false) (h1 : (m == ("worth" : Str)) = false) (h2 : (m == ("cells" : Str)) = false) (h3 : (m == ("made" : Str)) = false) : (stF v0 v1 v2 v3 x).lookup m = none :=
  look_no h0 (look_no h1 (look_no h2 (look_no h3 h)))
section
variable {v0 v1 v2 v3 : V} {x : List (Str × V)}
theorem StX.f1 (h : StX x) : (stF v0 v1 v2 v3 x).lookup ("look_cell" : Str) = none := stF_no h.m1 (by decide +kernel) (by decide +kernel) (by decide +kernel) (by decide +kernel)
theorem StX.f2 (h : StX x) : (stF v0 v1 v2 v3 x).lookup ("after_swap" : Str) = none := stF_no h.m2 (by decide +kernel) (by decide +kernel) (by decide +kernel) (by decide +kernel)
theorem StX.f3 (h : StX x) : (stF v0 v1 v2 v3 x).lookup ("look_hand" : Str) = none := stF_no h.m3 (by decide +kernel) (by decide +kernel) (by decide +kernel) (by decide +kernel)
theorem StX.f4 (h : StX x) : (stF v0 v1 v2 v3 x).lookup ("swap" : Str) = none := stF_no h.m4 (by decide +kernel) (by decide +kernel) (by decide +kernel) (by decide +kernel)
theorem StX.f5 (h : StX x) : (stF v0 v1 v2 v3 x).lookup ("now" : Str) = none := stF_no h.m5 (by decide +kernel) (by decide +kernel) (by decide +kernel) (by decide +kernel)
theorem StX.f6 (h : StX x) : (stF v0 v1 v2 v3 x).lookup ("kept" : Str) = none := stF_no h.m6 (by decide +kernel) (by decide +kernel) (by decide +kernel) (by decide +kernel)
theorem StX.f7 (h : StX x) : (stF v0 v1 v2 v3 x).lookup ("let_go" : Str) = none := stF_no h.m7 (by decide +kernel) (by decide +kernel) (by decide +kernel) (by decide +kernel)
theorem StX.f8 (h : StX x) : (stF v0 v1 v2 v3 x).lookup ("value_of" : Str) = none := stF_no h.m8 (by decide +kernel) (by decide +kernel) (by decide +kernel) (by decide +kernel)
theorem StX.f9 (h : StX x) : (stF v0 v1 v2 v3 x).lookup ("is_out" : Str) = none := stF_no h.m9 (by decide +kernel) (by decide +kernel) (by decide +kernel) (by decide +kernel)
theorem StX.fl (h : StX x) : (stF v0 v1 v2 v3 x).length < 1000 := by
  have := h.len
  show x.length + 1 + 1 + 1 + 1 < 1000
  omega
end
local macro_rules | `(tactic| walk_at "fl") => `(tactic| first | assumption | exact stF_hands | exact stF_worth | exact stF_cells | exact stF_made | exact StX.f1 (by assumption) | exact StX.f2 (by assumption) | exact StX.f3 (by assumption) | exact StX.f4 (by assumption) | exact StX.f5 (by assumption) | exact StX.f6 (by assumption) | exact StX.f7 (by assumption) | exact StX.f8 (by assumption) | exact StX.f9 (by assumption))
local macro_rules | `(tactic| walk_at "fsl") => `(tactic| first | assumption | exact StX.fl (by assumption))
local macro_rules | `(tactic| walk_at "put") => `(tactic| first | exact stF_put_made | exact stF_put_cells | exact stF_put_worth | exact stF_put_hands)
/-- the store's numbers: hands, the values of all things made, all that is kept, what lies in each cell; where its parts stand -/
structure Sto where
  dx : Addr
  w : Addr
  c : Addr
  hands : Int
  vals : List Int
  kept : List Int
  cells : List Int
def worthOf (vals kept : List Int) : List (Int × V) := kept.map fun k => (k, V.int (vals.getD k.toNat 0))
@[reducible] def stoU (C p : Addr) (x : List (Str × V)) (s : Sto) : U :=
  [(p, .ins C s.dx (stF (.int s.hands) (.ref s.w) (.ref s.c) (.int s.vals.length) x)), (s.w, dI (worthOf s.vals s.kept)), (s.c, .lst (s.cells.map V.int))]
structure Sto.ok (s : Sto) : Prop where
  c0 : 0 < s.cells.length
  c5 : s.cells.length ≤ 5
  v9 : s.vals.length ≤ 1000
  rise : s.kept.Pairwise (· < ·)
  made : ∀ k ∈ s.kept, 0 ≤ k ∧ k < s.vals.length
  here : ∀ k ∈ s.cells, k ∈ s.kept
  cnd : s.cells.Nodup
theorem val_self {f : Int → V} {ks : List Int} {k : Int} (h : k ∈ ks) : valV (ks.map fun k => (k, f k)) k = some (f k) := by
  induction ks with
  | nil => cases h
  | cons a r ih =>
    by_cases e : a = k
    · rw [List.map_cons, valV_pos (p := (a, f a)) e, e]
    · rw [List.map_cons, valV_neg (p := (a, f a)) e]
      exact ih ((List.mem_cons.mp h).resolve_left fun z => e z.symm)
theorem val_none {f : Int → V} {ks : List Int} {k : Int} (h : k ∉ ks) : valV (ks.map fun k => (k, f k)) k = none := by
  induction ks with
  | nil => rfl
  | cons a r ih =>
    obtain ⟨h1, h2⟩ := not_or.mp (fun z => h (List.mem_cons.mpr z))
    rw [List.map_cons, valV_neg (p := (a, f a)) (fun z => h1 z.symm)]
    exact ih h2
theorem worth_val {vals kept : List Int} {k : Int} (h : k ∈ kept) : valV (worthOf vals kept) k = some (.int (vals.getD k.toNat 0)) := val_self (f := fun k => V.int (vals.getD k.toNat 0)) h
theorem worth_keys (vals kept : List Int) : (worthOf vals kept).map (fun x => x.1) = kept := by
  unfold worthOf
  rw [List.map_map]
  exact List.map_id' kept
theorem worth_len (vals kept : List Int) : (worthOf vals kept).length = kept.length := List.length_map ..
theorem rise_len {n : Int} : ∀ {l : List Int} {lo : Int}, l.Pairwise (· < ·) → (∀ k ∈ l, lo ≤ k ∧ k < n) → (l.length : Int) ≤ max (n - lo) 0
  | [], lo, _, _ => by show (0 : Int) ≤ _; omega
  | a :: r, lo, h, hb => by
    obtain ⟨h1, h2⟩ := List.pairwise_cons.mp h
    obtain ⟨b1, b2⟩ := hb a (List.mem_cons.mpr (.inl rfl))
    have ih := rise_len (n := n) (lo := a + 1) h2 fun k hk => ⟨by have := h1 k hk; omega, (hb k (List.mem_cons.mpr (.inr hk))).2⟩
    show ((r.length + 1 : Nat) : Int) ≤ _
    omega
theorem Sto.ok.klen {s : Sto} (h : s.ok) : s.kept.length ≤ s.vals.length := by
  have := rise_len (n := s.vals.length) (lo := 0) h.rise h.made
  omega
def sp_look_cell (C : Addr) : Sp := fun vs H Q _ => ∃ (p : Addr) (x : List (Str × V)) (s : Sto) (c : Int) (R : List U), vs = [.ref p, .int c] ∧ Has H (stoU C p x s :: R) ∧ StX x ∧ 0 ≤ c ∧ c < s.cells.length ∧ Q .non H
theorem pure_look_cell {K : PySem.W.Frag} {C : Addr} (hC : StoreC K C) {vs : List V} {H : Hp} {Q : VK} {E : XK} (h : sp_look_cell C vs H Q E) : t_Store_look_cell K sp_is_whole ⟨fun _ H' => Q .non H', Q, fun _ _ => False, fun _ _ => False⟩ (start ["self", "cell"] vs) H := by
  obtain ⟨p, x, s, c, R, rfl, hh, hx, c0, c1, q⟩ := h
  obtain ⟨cl, n1, n2, n3, n4⟩ := hC
  replace hh := hh.cut2
  unfold t_Store_look_cell
  walk_at "go"
  refine ⟨_, _, _, rfl, ?_⟩
  rw [decide_eq_true ⟨c0, by rw [List.length_map]; omega⟩]
  walk_at "go"
  exact q
/-- behind a swap: a new thing in cell i, the thing that lay there told; then after_swap -/
def Sto.swap (s : Sto) (i v : Int) : Sto := { s with vals := s.vals ++ [v], kept := s.kept ++ [(s.vals.length : Int)], cells := s.cells.set i.toNat (s.vals.length : Int) }
def sp_swap (C : Addr) (sp_as : Sp) : Sp := fun vs H Q E => ∃ (p : Addr) (x : List (Str × V)) (s : Sto) (i v : Int) (R : List U), vs = [.ref p, .int i, .int v] ∧ Has H (stoU C p x s :: R) ∧ StX x ∧ s.ok ∧ s.vals.length < 1000 ∧ 0 ≤ i ∧ i < s.cells.length ∧ 0 ≤ v ∧ v ≤ 999 ∧
  ∀ H' (Q' : VK), Has H' (stoU C p x (s.swap i v) :: R) → (∀ u H2, Q (.int (s.cells.getD i.toNat 0)) H2 → Q' u H2) → sp_as [.ref p, .int (s.cells.getD i.toNat 0)] H' Q' E0
theorem put_new {m : List (Int × V)} {k : Int} {v : V} (h : valV m k = none) : putK m k v = m ++ [(k, v)] := putK_new v h
theorem worth_swap {s : Sto} (ok : s.ok) (v : Int) : putK (worthOf s.vals s.kept) (s.vals.length : Int) (.int v) = worthOf (s.vals ++ [v]) (s.kept ++ [(s.vals.length : Int)]) := by
  have hn : (s.vals.length : Int) ∉ s.kept := fun hk => by
    obtain ⟨_, h1⟩ := ok.made _ hk
    omega
  unfold worthOf
  rw [put_new (val_none (f := fun k => V.int (s.vals.getD k.toNat 0)) hn)]
  rw [List.map_append]
  congr 1
  · refine List.map_congr_left fun k hk => ?_
    obtain ⟨h0, h1⟩ := ok.made k hk
    have : k.toNat < s.vals.length := by omega
    simp [List.getD_eq_getElem?_getD, List.getElem?_append_left this]
  · simp
theorem set_nodup {z : Int} : ∀ {l : List Int} {j : Nat}, l.Nodup → z ∉ l → (l.set j z).Nodup
  | [], _, _, _ => List.nodup_nil
  | a :: r, 0, h, hz => by
    show (z :: r).Nodup
    exact List.nodup_cons.mpr ⟨fun m => hz (List.mem_cons.mpr (.inr m)), (List.nodup_cons.mp h).2⟩
  | a :: r, j + 1, h, hz => by
    show (a :: r.set j z).Nodup
    obtain ⟨h1, h2⟩ := List.nodup_cons.mp h
    refine List.nodup_cons.mpr ⟨fun m => ?_, set_nodup h2 fun m => hz (List.mem_cons.mpr (.inr m))⟩
    rcases List.mem_or_eq_of_mem_set m with q | q
    · exact h1 q
    · exact hz (q ▸ List.mem_cons.mpr (.inl rfl))
/-- the old thing is in no cell any more -/
theorem set_old {z : Int} : ∀ {l : List Int} {j : Nat}, l.Nodup → z ∉ l → j < l.length → l.getD j 0 ∉ l.set j z
  | [], _, _, _, hj => by simp at hj
  | a :: r, 0, h, hz, _ => by
    show a ∉ z :: r
    intro m
    rcases List.mem_cons.mp m with q | q
    · exact hz (q ▸ List.mem_cons.mpr (.inl rfl))
    · exact (List.nodup_cons.mp h).1 q
  | a :: r, j + 1, h, hz, hj => by
    show r.getD j 0 ∉ a :: r.set j z
    obtain ⟨h1, h2⟩ := List.nodup_cons.mp h
    have hj : j < r.length := by simpa using hj
    intro m
    rcases List.mem_cons.mp m with q | q
    · refine h1 (q ▸ ?_)
      rw [List.getD_eq_getElem?_getD, List.getElem?_eq_getElem hj]
      exact List.getElem_mem hj
    · exact set_old h2 (fun m => hz (List.mem_cons.mpr (.inr m))) hj q
theorem getD_mem {l : List Int} {j : Nat} (h : j < l.length) : l.getD j 0 ∈ l := by
  rw [List.getD_eq_getElem?_getD, List.getElem?_eq_getElem h]
  exact List.getElem_mem h
theorem Sto.ok.swap {s : Sto} (ok : s.ok) {i v : Int} (h0 : 0 ≤ i) (h1 : i < s.cells.length) (hv : s.vals.length < 1000) : (s.swap i v).ok where
  c0 := by show 0 < (s.cells.set _ _).length; rw [List.length_set]; exact ok.c0
  c5 := by show (s.cells.set _ _).length ≤ 5; rw [List.length_set]; exact ok.c5
  v9 := by show (s.vals ++ [v]).length ≤ 1000; rw [List.length_append]; exact hv
  rise := by
    show (s.kept ++ [_]).Pairwise (· < ·)
    refine List.pairwise_append.mpr ⟨ok.rise, List.pairwise_singleton _ _, fun a ha b hb => ?_⟩
    rw [List.mem_singleton.mp hb]
    exact (ok.made a ha).2
  made := fun k hk => by
    show 0 ≤ k ∧ k < ((s.vals ++ [v]).length : Int)
    rw [List.length_append]
    rcases List.mem_append.mp hk with q | q
    · obtain ⟨a, b⟩ := ok.made k q
      refine ⟨a, ?_⟩
      show k < ((s.vals.length + 1 : Nat) : Int)
      omega
    · rw [List.mem_singleton.mp q]
      show (0 : Int) ≤ (s.vals.length : Int) ∧ (s.vals.length : Int) < ((s.vals.length + 1 : Nat) : Int)
      omega
  here := fun k hk => by
    have hk : k ∈ s.cells.set i.toNat (s.vals.length : Int) := hk
    show k ∈ s.kept ++ [(s.vals.length : Int)]
    rcases List.mem_or_eq_of_mem_set hk with q | q
    · exact List.mem_append.mpr (.inl (ok.here k q))
    · exact List.mem_append.mpr (.inr (List.mem_singleton.mpr q))
  cnd := by
    show (s.cells.set i.toNat (s.vals.length : Int)).Nodup
    exact set_nodup ok.cnd fun hk => by
      obtain ⟨_, h1⟩ := ok.made _ (ok.here _ hk)
      omega
theorem pure_swap {K : PySem.W.Frag} {C : Addr} {sp_as : Sp} (hC : StoreC K C) {vs : List V} {H : Hp} {Q : VK} {E : XK} (h : sp_swap C sp_as vs H Q E) : t_Store_swap K C (sp_look_cell C) sp_look_number sp_as ⟨fun _ H' => Q .non H', Q, fun _ _ => False, fun _ _ => False⟩ (start ["self", "cell", "value", "old"] vs) H := by
  obtain ⟨p, x, s, i, v, R, rfl, hh, hx, ok, hv, i0, i1, v0, v1, q⟩ := h
  have hC' := hC
  obtain ⟨cl, n1, n2, n3, n4⟩ := hC
  have hp := hh.g0
  have hpl := ok.klen
  have il : i < (s.cells.map V.int).length := by rw [List.length_map]; exact i1
  have ea := at_ints i0 i1
  have ex := ix_ok i0 il
  have sw := worth_swap ok v
  unfold t_Store_swap
  walk_at "go"
  refine ⟨p, x, s, i, R, rfl, hh, hx, i0, i1, ?_⟩
  walk_at "go"
  refine ⟨_, _, _, rfl, v0, v1, ?_⟩
  have hh1 := hh.cut2
  have hw : (worthOf s.vals s.kept).length < sizeLine := by rw [worth_len, sizeLine_eq]; omega
  have fl := hx.fl (v0 := .int s.hands) (v1 := .ref s.w) (v2 := .ref s.c) (v3 := .int s.vals.length)
  walk_at "go"
  rename_i H3 h3
  refine q H3 _ ?_ fun u H4 z => by walk_at "go"; exact z
  rw [sw, map_set_int] at h3
  have e1 : ((s.vals.length : Int) + 1) = ((s.vals ++ [v]).length : Int) := by rw [List.length_append]; rfl
  rw [e1] at h3
  exact h3.glue2
/-- a plain store: nothing more is done -/
def sp_after0 : Sp := fun vs H Q _ => ∃ (p : Addr) (k : Int), vs = [.ref p, .int k] ∧ Q .non H
theorem pure_after0 {K : PySem.W.Frag} {vs : List V} {H : Hp} {Q : VK} {E : XK} (h : sp_after0 vs H Q E) : t_Store_after_swap K ⟨fun _ H' => Q .non H', Q, fun _ _ => False, fun _ _ => False⟩ (start ["self", "thing"] vs) H := by
  obtain ⟨p, k, rfl, q⟩ := h
  unfold t_Store_after_swap
  walk_at "go"
  exact q
/-- the values in all cells -/
def Sto.now (s : Sto) : List Int := s.cells.map fun k => s.vals.getD k.toNat 0
def sp_now (C : Addr) : Sp := fun vs H Q _ => ∃ (p : Addr) (x : List (Str × V)) (s : Sto) (R : List U), vs = [.ref p] ∧ Has H (stoU C p x s :: R) ∧ StX x ∧ s.ok ∧
  ∀ d H', Has H' ([(d, .lst (s.now.map V.int))] :: stoU C p x s :: R) → Q (.ref d) H'
theorem pure_now {K : PySem.W.Frag} {C : Addr} (hC : StoreC K C) {vs : List V} {H : Hp} {Q : VK} {E : XK} (h : sp_now C vs H Q E) : t_Store_now K ⟨fun _ H' => Q .non H', Q, fun _ _ => False, fun _ _ => False⟩ (start ["self", "thing"] vs) H := by
  obtain ⟨p, x, s, R, rfl, hh, hx, ok, q⟩ := h
  obtain ⟨cl, n1, n2, n3, n4⟩ := hC
  have h5 := ok.c5
  replace hh := hh.cut2
  unfold t_Store_now
  walk_at "go"
  refine k_lcM s.cells V.int (fun k => V.int (s.vals.getD k.toNat 0)) hh (fun H' h' => by walk_at "hp") (by omega) (fun z hz D M H' Q' h' q' => ?_) fun D H' h' => ?_
  · have hv := worth_val (vals := s.vals) (ok.here z hz)
    walk_at "go"
    exact q' H' h'
  · refine q D H' ?_
    unfold Sto.now
    rw [List.map_map]
    exact (h'.sub (Sub.p1 (Sub.p1 (Sub.p1 (Sub.p0 Sub.rf))))).glue2.sub (Sub.p1 (Sub.p0 Sub.rf))
/-- all that is kept, rising -/
def sp_kept (C : Addr) : Sp := fun vs H Q _ => ∃ (p : Addr) (x : List (Str × V)) (s : Sto) (R : List U), vs = [.ref p] ∧ Has H (stoU C p x s :: R) ∧ StX x ∧ s.ok ∧ s.vals.length < 64 ∧
  ∀ d H', Has H' ([(d, .lst (s.kept.map V.int))] :: stoU C p x s :: R) → Q (.ref d) H'
theorem sorted_unique : ∀ {xs ys : List Int}, xs.Pairwise (· ≤ ·) → ys.Pairwise (· ≤ ·) → xs.Perm ys → xs = ys := fun {xs ys} h1 h2 p => p.eq_of_pairwise (fun a b _ _ h h' => Int.le_antisymm h h') h1 h2
theorem rise_le {l : List Int} (h : l.Pairwise (· < ·)) : l.Pairwise (· ≤ ·) := h.imp fun h => Int.le_of_lt h
theorem pure_kept {K : PySem.W.Frag} {C : Addr} (hC : StoreC K C) {vs : List V} {H : Hp} {Q : VK} {E : XK} (h : sp_kept C vs H Q E) : t_Store_kept K ⟨fun _ H' => Q .non H', Q, fun _ _ => False, fun _ _ => False⟩ (start ["self"] vs) H := by
  obtain ⟨p, x, s, R, rfl, hh, hx, ok, hv, q⟩ := h
  obtain ⟨cl, n1, n2, n3, n4⟩ := hC
  have hpl := ok.klen
  have hl : (worthOf s.vals s.kept).length < 64 := by rw [worth_len]; omega
  replace hh := hh.cut2
  unfold t_Store_kept
  walk_at "go"
  rename_i ys d H1 h1 h2 h3
  rw [worth_keys] at h1
  have e := sorted_unique h2 (rise_le ok.rise) h1
  subst e
  exact q d H1 ((h3.sub (Sub.p1 (Sub.p1 (Sub.p1 (Sub.p0 Sub.rf))))).glue2.sub (Sub.p1 (Sub.p0 Sub.rf)))
/-! the making of a store -/
def tupsU : Int → List Addr → U
  | _, [] => []
  | i, p :: r => (p, .tup [.int i, .int 0]) :: tupsU (i + 1) r
theorem tupsU_snoc (q : Addr) : ∀ (ps : List Addr) (i : Int), tupsU i (ps ++ [q]) = tupsU i ps ++ [(q, .tup [.int (i + ps.length), .int 0])]
  | [], i => by show [_] = [_]; rw [List.length_nil]; simp
  | p :: r, i => by
    show _ :: tupsU (i + 1) (r ++ [q]) = _ :: (tupsU (i + 1) r ++ _)
    rw [tupsU_snoc q r (i + 1), List.length_cons]
    have e : i + 1 + (r.length : Int) = i + ((r.length + 1 : Nat) : Int) := by omega
    rw [e]
theorem tups_pair {K : PySem.W.Frag} {H : Hp} : ∀ {ps : List Addr} {i : Int} (_ : ∀ c ∈ tupsU i ps, H c.1 = some c.2), Paired (fun p (kv : Key × V) => SqT K H p [kV kv.1, kv.2]) ps (mk g1 ((List.range ps.length).map fun (j : Nat) => (i + (j : Int), V.int 0)))
  | [], i, _ => .nil
  | p :: r, i, h => by
    rw [List.length_cons, List.range_succ_eq_map, List.map_cons, List.map_map]
    refine Paired.cons (show SqT K H p [.int (i + ((0 : Nat) : Int)), .int 0] from ?_) ?_
    · have e := h _ (List.mem_cons.mpr (.inl rfl))
      have e0 : i + ((0 : Nat) : Int) = i := by omega
      rw [e0]
      exact SqT.of e
    · have ih := tups_pair (K := K) (ps := r) (i := i + 1) fun c hc => h c (List.mem_cons.mpr (.inr hc))
      have e : ((fun (j : Nat) => (i + (j : Int), V.int 0)) ∘ Nat.succ) = fun (j : Nat) => (i + 1 + (j : Int), V.int 0) := by
        funext j
        show (i + ((j + 1 : Nat) : Int), V.int 0) = _
        have e2 : i + ((j + 1 : Nat) : Int) = i + 1 + (j : Int) := by omega
        rw [e2]
      rw [e]
      exact ih
theorem merge_new {κ : Type} [DecidableEq κ] : ∀ (more kvs : List (κ × V)), ((kvs ++ more).map (·.1)).Nodup → more.foldl (fun acc kv => putK acc kv.1 kv.2) kvs = kvs ++ more
  | [], kvs, _ => by simp
  | p :: r, kvs, h => by
    have hn : valV kvs p.1 = none := by
      cases e : valV kvs p.1 with
      | none => rfl
      | some v =>
        have hm := valV_in e
        rw [List.map_append, List.nodup_append] at h
        exact absurd rfl (h.2.2 _ hm p.1 (by simp))
    rw [List.foldl_cons, putK_new _ hn, merge_new r (kvs ++ [(p.1, p.2)]) (by simpa using h)]
    simp
theorem rgI_nodup (n : Int) : (rgI n).Nodup := by
  unfold rgI
  refine List.Pairwise.map _ (fun a b h => ?_) List.nodup_range
  intro e
  exact h (by omega)
theorem Has.fam {H : Hp} {u : U} {L : List U} (h : Has H (u :: L)) : ∀ c ∈ u, H c.1 = some c.2 := fun c hc => h.at' c (by simp [hc])
def Sto.new (dx w c : Addr) (hands n : Int) : Sto := ⟨dx, w, c, hands, List.replicate n.toNat 0, rgI n, rgI n⟩
def sp_init (C : Addr) : Sp := fun vs H Q _ => ∃ (p dx : Addr) (h n : Int) (R : List U), vs = [.ref p, .int h, .int n] ∧ Has H ([(p, .ins C dx [])] :: R) ∧ 1 ≤ h ∧ h ≤ 6 ∧ 1 ≤ n ∧ n ≤ 5 ∧
  ∀ w c H', Has H' (stoU C p [] (Sto.new dx w c h n) :: R) → Q .non H'
theorem put_f1 {v : V} : putF "hands" v [] = [(("hands" : Str), v)] := by kernel_rfl
theorem put_f2 {v w : V} : putF "worth" w [(("hands" : Str), v)] = [(("hands" : Str), v), ("worth", w)] := by kernel_rfl
theorem put_f3 {v w u : V} : putF "cells" u [(("hands" : Str), v), ("worth", w)] = [(("hands" : Str), v), ("worth", w), ("cells", u)] := by kernel_rfl
theorem put_f4 {v w u z : V} : putF "made" z [(("hands" : Str), v), ("worth", w), ("cells", u)] = stF v w u z [] := by kernel_rfl
local macro_rules | `(tactic| walk_at "put") => `(tactic| first | exact put_f1 | exact put_f2 | exact put_f3 | exact put_f4)
local macro_rules | `(tactic| walk_at "fsl") => `(tactic| first | assumption | (show 0 < 1000; decide) | (show 1 < 1000; decide) | (show 2 < 1000; decide) | (show 3 < 1000; decide))
theorem Sto.new_ok {dx w c : Addr} {h n : Int} (h1 : 1 ≤ n) (h5 : n ≤ 5) : (Sto.new dx w c h n).ok where
  c0 := by show 0 < (rgI n).length; rw [rgI_len]; omega
  c5 := by show (rgI n).length ≤ 5; rw [rgI_len]; omega
  v9 := by show (List.replicate n.toNat (0 : Int)).length ≤ 1000; rw [List.length_replicate]; omega
  rise := by
    show (rgI n).Pairwise (· < ·)
    unfold rgI
    exact List.Pairwise.map _ (fun a b h => by omega) List.pairwise_lt_range
  made := fun k hk => by
    have hk : k ∈ rgI n := hk
    show 0 ≤ k ∧ k < ((List.replicate n.toNat (0 : Int)).length : Int)
    unfold rgI at hk
    obtain ⟨j, hj, rfl⟩ := List.mem_map.mp hk
    have := List.mem_range.mp hj
    rw [List.length_replicate]
    omega
  here := fun k hk => hk
  cnd := rgI_nodup n
theorem worth_new (n : Int) : worthOf (List.replicate n.toNat 0) (rgI n) = (rgI n).map fun k => (k, V.int 0) := by
  unfold worthOf
  refine List.map_congr_left fun k hk => ?_
  have : (List.replicate n.toNat (0 : Int)).getD k.toNat 0 = 0 := by
    rw [List.getD_eq_getElem?_getD, List.getElem?_replicate]
    split <;> rfl
  rw [this]
theorem pure_init {K : PySem.W.Frag} {C : Addr} (hC : StoreC K C) {vs : List V} {H : Hp} {Q : VK} {E : XK} (h : sp_init C vs H Q E) : t_Store_init K sp_look_number ⟨fun _ H' => Q .non H', Q, fun _ _ => False, fun _ _ => False⟩ (start ["self", "hands", "cells", "thing"] vs) H := by
  obtain ⟨p, dx, h, n, R, rfl, hh, h1, h6, n1', n5, q⟩ := h
  obtain ⟨cl, n1, n2, n3, n4⟩ := hC
  unfold t_Store_init
  walk_at "go"
  refine ⟨_, _, _, rfl, h1, h6, ?_⟩
  walk_at "go"
  refine ⟨_, _, _, rfl, n1', n5, ?_⟩
  walk_at "go"
  rename_i H1 hh1
  refine k_lcR (L := [(p, .ins C dx [("hands", .int h)])] :: R) hh1 (fun D i H' => ∃ ps : List Addr, ps.length = i ∧ Has H' ([(D, .lst (ps.map V.ref))] :: tupsU 0 ps :: [(p, .ins C dx [("hands", .int h)])] :: R)) (by omega) (fun D H' h' => ⟨[], rfl, ?_⟩) ?_ ?_
  · exact (Has.nilU.mpr (h'.sub (Sub.p1 (Sub.p0 Sub.rf)))).sub (Sub.p2 (Sub.p0 (Sub.p0 Sub.rf)))
  · rintro D i H' hi ⟨ps, hl, h'⟩
    refine ⟨rfl, ?_⟩
    walk_at "go"
    rename_i t _ _ H3 h3
    refine ⟨ps ++ [t], by rw [List.length_append, hl]; rfl, ?_⟩
    rw [List.map_append, tupsU_snoc, hl, Int.zero_add]
    exact (Has.op.mpr (h3.sub (Sub.p2 (Sub.p0 (Sub.p0 Sub.rf))))).sub (Sub.p1 (Sub.p0 Sub.rf))
  · rintro D H' ⟨ps, hl, h'⟩
    walk_at "go"
    have hf := Has.fam (h'.sub (Sub.p1 (Sub.p0 Sub.rf)))
    refine ⟨D, ps, _, rfl, SqL.of h'.g0, tups_pair hf, fun w hw => ?_⟩
    have e1 : (List.range ps.length).map (fun (j : Nat) => ((0 : Int) + (j : Int), V.int 0)) = (rgI n).map fun k => (k, V.int 0) := by
      unfold rgI
      rw [List.map_map, hl]
      refine List.map_congr_left fun j _ => ?_
      show ((0 : Int) + (j : Int), V.int 0) = ((j : Int), V.int 0)
      rw [Int.zero_add]
    have e2 : mergeK [] (mk g1 ((rgI n).map fun k => (k, V.int 0))) = mk g1 (worthOf (List.replicate n.toNat 0) (rgI n)) := by
      unfold mergeK
      rw [merge_new _ [] (by
        rw [List.nil_append, mk_keys, List.map_map, List.map_map]
        exact List.Pairwise.map _ (fun a b (h : a ≠ b) => fun e => h (g1_inj _ _ e)) (rgI_nodup n)), worth_new]
      rfl
    rw [e1, e2]
    have h2 := h'.nw (o := dI (worthOf (List.replicate n.toNat 0) (rgI n))) hw
    generalize upd H' w (dI (worthOf (List.replicate n.toNat 0) (rgI n))) = H2 at h2
    walk_at "go"
    rename_i c _ _ _ _ H6 h6
    have el : (List.replicate n.toNat (0 : Int)).length = n.toNat := List.length_replicate
    have e3 : n = ((List.replicate n.toNat (0 : Int)).length : Int) := by rw [el]; omega
    refine q w c H6 (Has.glue2 ?_)
    show Has H6 ([(p, .ins C dx (stF (.int h) (.ref w) (.ref c) (.int ((List.replicate n.toNat (0 : Int)).length : Int)) []))] :: [(w, dI (worthOf (List.replicate n.toNat 0) (rgI n)))] :: [(c, .lst ((rgI n).map V.int))] :: R)
    rw [← e3]
    walk_at "has"
end La
namespace La
open PySem L2 Sy
local macro_rules | `(tactic| walk_at "fl") => `(tactic| first | assumption | exact stF_hands | exact stF_worth | exact stF_cells | exact stF_made | exact StX.f1 (by assumption) | exact StX.f2 (by assumption) | exact StX.f3 (by assumption) | exact StX.f4 (by assumption) | exact StX.f5 (by assumption) | exact StX.f6 (by assumption) | exact StX.f7 (by assumption) | exact StX.f8 (by assumption) | exact StX.f9 (by assumption))
local macro_rules | `(tactic| walk_at "fsl") => `(tactic| first | assumption | exact StX.fl (by assumption))
local macro_rules | `(tactic| walk_at "put") => `(tactic| first | exact stF_put_made | exact stF_put_cells | exact stF_put_worth | exact stF_put_hands)
/-! ### the law's own store -/
structure Own where
  a0 : Addr
  a1 : Addr
  a2 : Addr
  cells : List Int
  vals : List Int
  kept : List Int
@[reducible] def ownU (o : Addr) (s : Own) : U := [(o, .lst [.ref s.a0, .ref s.a1, .ref s.a2]), (s.a0, .lst (s.cells.map V.int)), (s.a1, .lst (s.vals.map V.int)), (s.a2, .lst (s.kept.map V.int))]
def Own.swap (s : Own) (i v : Int) : Own := { s with cells := s.cells.set i.toNat (s.vals.length : Int), vals := s.vals ++ [v], kept := s.kept ++ [(s.vals.length : Int)] }
def sp__law_things : Sp := fun vs H Q _ => ∃ (n : Int) (R : List U), vs = [.int n] ∧ Has H R ∧ 1 ≤ n ∧ n ≤ 5 ∧
  ∀ o a0 a1 a2 H', Has H' (ownU o ⟨a0, a1, a2, rgI n, List.replicate n.toNat 0, rgI n⟩ :: R) → Q (.ref o) H'
theorem pure__law_things {K : PySem.W.Frag} {vs : List V} {H : Hp} {Q : VK} {E : XK} (h : sp__law_things vs H Q E) : t__law_things K ⟨fun _ H' => Q .non H', Q, fun _ _ => False, fun _ _ => False⟩ (start ["size"] vs) H := by
  obtain ⟨n, R, rfl, hh, n1, n5, q⟩ := h
  unfold t__law_things
  walk_at "go"
  rename_i a0 _ _ z _ _ a1 _ _ a2 _ _ o H1 h1
  refine q o a0 a1 a2 H1 (Has.glue3 ?_)
  rw [List.map_replicate]
  walk_at "has"
def sp__law_whole_list : Sp := fun vs H Q _ => ∃ (p : Addr) (ns : List Int) (R : List U), vs = [.ref p] ∧ Has H ([(p, .lst (ns.map V.int))] :: R) ∧ ns.length ≤ 1000 ∧
  ∀ H', Has H' ([(p, .lst (ns.map V.int))] :: R) → Q (.bl true) H'
theorem pure__law_whole_list {K : PySem.W.Frag} {vs : List V} {H : Hp} {Q : VK} {E : XK} (h : sp__law_whole_list vs H Q E) : t__law_whole_list K sp__law_whole ⟨fun _ H' => Q .non H', Q, fun _ _ => False, fun _ _ => False⟩ (start ["thing", "one"] vs) H := by
  obtain ⟨p, ns, R, rfl, hh, hl, q⟩ := h
  unfold t__law_whole_list
  walk_at "go"
  refine k_lcM ns V.int (fun _ => V.bl true) hh (fun H' h' => by walk_at "hp") (by omega) (fun z hz D M H' Q' h' q' => ?_) fun D H' h' => ?_
  · walk_at "go"
    exact ⟨z, rfl, q' H' h'⟩
  · have e : ns.map (fun _ => V.bl true) = (ns.map fun _ => true).map V.bl := by rw [List.map_map]; rfl
    rw [e] at h'
    walk_at "go"
    have e2 : (ns.map fun _ => true).all id = true := by
      rw [List.all_eq_true]
      intro b hb
      obtain ⟨_, _, rfl⟩ := List.mem_map.mp hb
      rfl
    rw [e2]
    refine q H' ?_
    walk_at "has"
/-- a swap at a store of any kind and at the law's own -/
def sp__law_swap {G : Type} (u : Addr → G → U) (cells vals : G → List Int) (sw : G → Int → Int → G) (ok : G → Prop) : Sp := fun vs H Q _ => ∃ (t p o : Addr) (ts : Town) (g : G) (ow : Own) (R : List U), vs = [.ref t, .ref p, .ref o] ∧
  Has H (townU t ts :: u p g :: ownU o ow :: R) ∧ ts.ok ∧ ok g ∧ ow.cells = cells g ∧ ow.vals.length ≤ 999 ∧ ow.kept.length ≤ 999 ∧ 0 < ow.cells.length ∧ ow.cells.length ≤ 5 ∧
  ∀ (i v : Int) (ts' : Town) (H' : Hp), 0 ≤ i → i < (cells g).length → 0 ≤ v → v ≤ 999 → ts'.ok → Has H' (townU t ts' :: u p (sw g i v) :: ownU o (ow.swap i v) :: R) → Q (.int ((cells g).getD i.toNat 0)) H'
theorem pure__law_swap {K : PySem.W.Frag} {C : Addr} {spS : Sp} {G : Type} {u : Addr → G → U} {cells vals : G → List Int} {sw : G → Int → Int → G} {ok : G → Prop}
    (hob : ∀ p g R H, Has H (u p g :: R) → ∃ dx fs, H p = some (.ins C dx fs) ∧ fs.lookup ("swap" : Str) = none)
    (hsw : ∀ p g (i v : Int) R H (Q : VK), Has H (u p g :: R) → ok g → 0 ≤ i → i < (cells g).length → 0 ≤ v → v ≤ 999 → (∀ H', Has H' (u p (sw g i v) :: R) → Q (.int ((cells g).getD i.toNat 0)) H') → spS [.ref p, .int i, .int v] H Q E0)
    {vs : List V} {H : Hp} {Q : VK} {E : XK} (h : sp__law_swap u cells vals sw ok vs H Q E) : t__law_swap K C sp__law_draw sp__law_value spS ⟨fun _ H' => Q .non H', Q, fun _ _ => False, fun _ _ => False⟩ (start ["town", "store", "own", "cell", "value", "old"] vs) H := by
  obtain ⟨t, p, o, ts, g, ⟨a0, a1, a2, cs, vl, kp⟩, R, rfl, hh, tok, gok, hc, hv, hk, c0, c5, q⟩ := h
  dsimp only at hc hv hk c0 c5
  subst hc
  replace hh := (hh.sub (Sub.p2 Sub.rf)).cut3
  dsimp only at hh
  unfold t__law_swap
  walk_at "go"
  refine use_draw hh (by walk_at "sub") tok (by rw [List.length_map]; omega) (by rw [List.length_map]; omega) fun i ts1 H1 i0 i1 tok1 hh1 => ?_
  rw [List.length_map] at i1
  walk_at "go"
  refine ⟨t, ts1, _, rfl, tok1, hh1, fun v ts2 H2 v0 v9 tok2 hh2 => ?_⟩
  have ea := at_ints i0 i1
  have ex : ixN ((cells g).map V.int).length i = some i.toNat := ix_ok i0 (by rw [List.length_map]; exact i1)
  have e1 : (kp.map V.int).length < sizeLine := by rw [List.length_map, sizeLine_eq]; omega
  have e2 : (vl.map V.int).length < sizeLine := by rw [List.length_map, sizeLine_eq]; omega
  walk_at "go"
  rename_i H5 h5
  have h6 := h5.sub (show Sub (u p g :: _) _ by walk_at "sub")
  obtain ⟨dx, fs, hp, hf⟩ := hob p g _ H5 h6
  refine k_meth0 hp hf ?_
  walk_at "go"
  refine hsw p g i v _ H5 _ h6 gok i0 i1 v0 v9 fun H7 h7 => ?_
  walk_at "go"
  refine ifY (decide_eq_true rfl) ?_
  walk_at "go"
  refine q i v ts2 H7 i0 i1 v0 v9 tok2 ?_
  have e3 : (vl.map V.int).length = vl.length := List.length_map ..
  rw [map_set_int, e3] at h7
  have e4 : kp.map V.int ++ [V.int vl.length] = (kp ++ [(vl.length : Int)]).map V.int := by rw [List.map_append]; rfl
  have e5 : vl.map V.int ++ [V.int v] = (vl ++ [v]).map V.int := by rw [List.map_append]; rfl
  rw [e4, e5] at h7
  have h8 := Has.glue3 (h7.sub (Sub.p2 (Sub.p2 (Sub.p2 (Sub.p2 Sub.rf)))))
  walk_at "has"
/-- store and law's own agree -/
def sp__law_fits (C : Addr) : Sp := fun vs H Q _ => ∃ (p o : Addr) (x : List (Str × V)) (s : Sto) (ow : Own) (R : List U), vs = [.ref p, .ref o] ∧ Has H (stoU C p x s :: ownU o ow :: R) ∧ StX x ∧ s.ok ∧ s.vals.length < 64 ∧ ow.cells = s.cells ∧ ow.vals = s.vals ∧ ow.kept.Perm s.kept ∧
  ∀ H', Has H' (stoU C p x s :: ownU o ow :: R) → Q (.bl true) H'
theorem pure__law_fits {K : PySem.W.Frag} {C : Addr} {vs : List V} {H : Hp} {Q : VK} {E : XK} (h : sp__law_fits C vs H Q E) : t__law_fits K C (sp_now C) (sp_kept C) sp__law_whole_list ⟨fun _ H' => Q .non H', Q, fun _ _ => False, fun _ _ => False⟩ (start ["store", "own", "thing"] vs) H := by
  obtain ⟨p, o, x, s, ⟨a0, a1, a2, cs, vl, kp⟩, R, rfl, hh, hx, ok, hv, hc, hl, hk, q⟩ := h
  dsimp only at hc hl hk
  subst hc hl
  have h5 := ok.c5
  have hkl := ok.klen
  have hh1 := (hh.sub (Sub.p1 Sub.rf)).cut3
  dsimp only at hh1
  unfold t__law_fits
  walk_at "go"
  refine ⟨p, x, s, _, rfl, by walk_at "has", hx, ok, fun d H1 h1 => ?_⟩
  walk_at "go"
  refine k_lcM s.cells V.int (fun k => V.int (s.vals.getD k.toNat 0)) h1 (fun H' h' => by walk_at "hp") (by omega) (fun z hz D M H' Q' h' q' => ?_) fun D H2 h2 => ?_
  · obtain ⟨z0, z1⟩ := ok.made z (ok.here z hz)
    have ea := at_ints z0 z1
    walk_at "go"
    exact q' H' h'
  · have e1 : s.cells.map (fun k => V.int (s.vals.getD k.toNat 0)) = s.now.map V.int := by unfold Sto.now; rw [List.map_map]; rfl
    rw [e1] at h2
    walk_at "go"
    refine ifN (by simp) ?_
    walk_at "go"
    refine ⟨p, x, s, _, rfl, by walk_at "has", hx, ok, hv, fun d3 H3 h3 => ?_⟩
    walk_at "go"
    rename_i ys d4 H4 p1 p2 h4
    have e := sorted_unique p2 (rise_le ok.rise) (p1.trans hk)
    subst e
    walk_at "go"
    refine ifY (decide_eq_true rfl) ?_
    walk_at "go"
    refine ⟨p, x, s, _, rfl, by walk_at "has", hx, ok, hv, fun d5 H5 h5 => ?_⟩
    walk_at "go"
    refine ⟨d5, s.kept, _, rfl, h5, by omega, fun H6 h6 => q H6 ?_⟩
    have h7 := Has.glue3 (h6.sub (show Sub ([(o, .lst [.ref a0, .ref a1, .ref a2])] :: [(a0, .lst (s.cells.map V.int))] :: [(a1, .lst (s.vals.map V.int))] :: [(a2, .lst (kp.map V.int))] :: stoU C p x s :: R) _ by walk_at "sub"))
    exact h7.sub (Sub.p1 (Sub.p0 Sub.rf))
end La
namespace La
open PySem L2 Sy
local macro_rules | `(tactic| walk_at "fl") => `(tactic| first | assumption | exact stF_hands | exact stF_worth | exact stF_cells | exact stF_made | exact StX.f1 (by assumption) | exact StX.f2 (by assumption) | exact StX.f3 (by assumption) | exact StX.f4 (by assumption) | exact StX.f5 (by assumption) | exact StX.f6 (by assumption) | exact StX.f7 (by assumption) | exact StX.f8 (by assumption) | exact StX.f9 (by assumption))
local macro_rules | `(tactic| walk_at "fsl") => `(tactic| first | assumption | exact StX.fl (by assumption))
local macro_rules | `(tactic| walk_at "put") => `(tactic| first | exact stF_put_made | exact stF_put_cells | exact stF_put_worth | exact stF_put_hands)
/-! ### dicts with whole-number keys, their values typed -/
section
variable {κ β : Type} [DecidableEq κ]
def mv (f : β → V) (m : List (κ × β)) : List (κ × V) := m.map fun q => (q.1, f q.2)
def fd (m : List (κ × β)) (k : κ) : Option β := (m.find? fun q => decide (q.1 = k)).map (·.2)
def rm (m : List (κ × β)) (k : κ) : List (κ × β) := m.filter fun q => decide (q.1 ≠ k)
def pu (m : List (κ × β)) (k : κ) (b : β) : List (κ × β) := if (fd m k).isSome then m.map (fun q => if q.1 = k then (q.1, b) else q) else m ++ [(k, b)]
theorem fd_nil (k : κ) : fd ([] : List (κ × β)) k = none := rfl
theorem fd_pos {p : κ × β} {r : List (κ × β)} {k : κ} (h : p.1 = k) : fd (p :: r) k = some p.2 := by simp [fd, List.find?_cons, h]
theorem fd_neg {p : κ × β} {r : List (κ × β)} {k : κ} (h : ¬ p.1 = k) : fd (p :: r) k = fd r k := by simp [fd, List.find?_cons, h]
theorem fd_none {m : List (κ × β)} {k : κ} : fd m k = none ↔ k ∉ m.map (·.1) := by
  induction m with
  | nil => simp [fd_nil]
  | cons p r ih =>
    by_cases h : p.1 = k
    · rw [fd_pos h]; simp [h]
    · rw [fd_neg h, ih]
      simp only [List.map_cons, List.mem_cons, not_or]
      exact ⟨fun q => ⟨fun e => h e.symm, q⟩, fun q => q.2⟩
theorem fd_isSome {m : List (κ × β)} {k : κ} : (fd m k).isSome = true ↔ k ∈ m.map (·.1) := by
  cases e : fd m k with
  | none => have := fd_none.mp e; simpa using this
  | some b => simp only [Option.isSome_some, true_iff]; exact Classical.byContradiction fun h => by rw [fd_none.mpr h] at e; cases e
theorem fd_mem {m : List (κ × β)} {k : κ} {b : β} (h : fd m k = some b) : (k, b) ∈ m := by
  unfold fd at h
  obtain ⟨q, hq, e⟩ := Option.map_eq_some_iff.mp h
  have h1 := List.mem_of_find?_eq_some hq
  have h2 := List.find?_some hq
  have h3 : q.1 = k := by simpa using h2
  rw [← h3, ← e]
  exact h1
theorem fd_of {m : List (κ × β)} {k : κ} {b : β} (nd : (m.map (·.1)).Nodup) (h : (k, b) ∈ m) : fd m k = some b := by
  induction m with
  | nil => cases h
  | cons p r ih =>
    obtain ⟨n1, n2⟩ := List.nodup_cons.mp (show (p.1 :: r.map (·.1)).Nodup from nd)
    rcases List.mem_cons.mp h with e | h
    · rw [← e, fd_pos rfl]
    · have : ¬ p.1 = k := fun e => n1 (e ▸ List.mem_map.mpr ⟨(k, b), h, rfl⟩)
      rw [fd_neg this]
      exact ih n2 h
theorem fd_split {m : List (κ × β)} {k : κ} {b : β} (h : fd m k = some b) : ∃ A B, m = A ++ (k, b) :: B ∧ k ∉ A.map (·.1) := by
  induction m with
  | nil => cases h
  | cons p r ih =>
    by_cases e : p.1 = k
    · rw [fd_pos e] at h
      cases h
      exact ⟨[], r, by rw [← e]; rfl, by simp⟩
    · rw [fd_neg e] at h
      obtain ⟨A, B, rfl, hk⟩ := ih h
      refine ⟨p :: A, B, rfl, ?_⟩
      simp only [List.map_cons, List.mem_cons, not_or]
      exact ⟨fun q => e q.symm, hk⟩
theorem mv_len (f : β → V) (m : List (κ × β)) : (mv f m).length = m.length := List.length_map ..
theorem mv_keys (f : β → V) (m : List (κ × β)) : (mv f m).map (fun x => x.1) = m.map (·.1) := by unfold mv; rw [List.map_map]; rfl
theorem mv_val (f : β → V) (m : List (κ × β)) (k : κ) : valV (mv f m) k = (fd m k).map f := by
  induction m with
  | nil => rfl
  | cons p r ih =>
    show valV ((p.1, f p.2) :: mv f r) k = _
    by_cases h : p.1 = k
    · rw [valV_pos (p := (p.1, f p.2)) h, fd_pos h]; rfl
    · rw [valV_neg (p := (p.1, f p.2)) h, fd_neg h, ih]
theorem mv_some {f : β → V} {m : List (κ × β)} {k : κ} {b : β} (h : fd m k = some b) : valV (mv f m) k = some (f b) := by rw [mv_val, h]; rfl
theorem mv_isSome (f : β → V) (m : List (κ × β)) (k : κ) : (valV (mv f m) k).isSome = (fd m k).isSome := by rw [mv_val, Option.isSome_map]
theorem mv_drop (f : β → V) (m : List (κ × β)) (k : κ) : dropK (mv f m) k = mv f (rm m k) := by
  unfold dropK mv rm
  rw [List.filter_map]
  rfl
theorem mv_put (f : β → V) (m : List (κ × β)) (k : κ) (b : β) : putK (mv f m) k (f b) = mv f (pu m k b) := by
  unfold putK pu
  rw [valV_any, mv_isSome]
  by_cases h : (fd m k).isSome = true
  · rw [if_pos h, if_pos h]
    unfold mv
    rw [List.map_map, List.map_map]
    refine List.map_congr_left fun q _ => ?_
    show (if q.1 = k then (q.1, f b) else (q.1, f q.2)) = ((if q.1 = k then (q.1, b) else q).1, f (if q.1 = k then (q.1, b) else q).2)
    split <;> rfl
  · rw [if_neg h, if_neg h]
    unfold mv
    rw [List.map_append]
    rfl
theorem pu_new {m : List (κ × β)} {k : κ} (b : β) (h : fd m k = none) : pu m k b = m ++ [(k, b)] := by unfold pu; rw [h]; rfl
theorem pu_keys_old {m : List (κ × β)} {k : κ} (b : β) (h : (fd m k).isSome = true) : (pu m k b).map (·.1) = m.map (·.1) := by
  unfold pu
  rw [if_pos h, List.map_map]
  refine List.map_congr_left fun q _ => ?_
  show (if q.1 = k then (q.1, b) else q).1 = q.1
  split <;> rfl
theorem fd_append {m n : List (κ × β)} {k : κ} : fd (m ++ n) k = (fd m k).or (fd n k) := by
  induction m with
  | nil => simp [fd_nil]
  | cons p r ih =>
    by_cases h : p.1 = k
    · rw [List.cons_append, fd_pos h, fd_pos h]; rfl
    · rw [List.cons_append, fd_neg h, fd_neg h, ih]
theorem fd_pu (m : List (κ × β)) (k j : κ) (b : β) : fd (pu m k b) j = if j = k then some b else fd m j := by
  unfold pu
  by_cases h : (fd m k).isSome = true
  · rw [if_pos h]
    induction m with
    | nil => cases h
    | cons p r ih =>
      rw [List.map_cons]
      by_cases e : p.1 = k
      · rw [if_pos e]
        by_cases ej : j = k
        · rw [fd_pos (p := (p.1, b)) (e.trans ej.symm), if_pos ej]
        · rw [fd_neg (p := (p.1, b)) (fun z => ej (z.symm.trans e)), if_neg ej, fd_neg (fun z => ej (z.symm.trans e))]
          by_cases hr : (fd r k).isSome = true
          · rw [ih hr, if_neg ej]
          · have hk : k ∉ r.map (·.1) := fun z => hr (fd_isSome.mpr z)
            congr 1
            refine List.map_congr_left (g := id) (fun q hq => ?_) |>.trans (List.map_id r)
            have : ¬ q.1 = k := fun z => hk (z ▸ List.mem_map.mpr ⟨q, hq, rfl⟩)
            rw [if_neg this]; rfl
      · rw [if_neg e]
        rw [fd_neg e] at h
        by_cases ep : p.1 = j
        · rw [fd_pos ep, fd_pos ep, if_neg (fun z => e (ep.trans z))]
        · rw [fd_neg ep, fd_neg ep, ih h]
  · rw [if_neg h, fd_append]
    by_cases ej : j = k
    · subst ej
      have hn : fd m j = none := by cases e : fd m j with
        | none => rfl
        | some v => rw [e] at h; exact absurd rfl h
      rw [hn, if_pos rfl, fd_pos rfl]; rfl
    · rw [if_neg ej, fd_neg (p := (k, b)) (fun z => ej z.symm), fd_nil, Option.or_none]
theorem fd_rm (m : List (κ × β)) (k j : κ) : fd (rm m k) j = if j = k then none else fd m j := by
  induction m with
  | nil => simp [rm, fd_nil]
  | cons p r ih =>
    have ih : fd (List.filter (fun q => decide (q.1 ≠ k)) r) j = _ := ih
    unfold rm
    by_cases e : p.1 = k
    · rw [List.filter_cons, if_neg (by simp [e]), ih]
      by_cases ej : j = k
      · rw [if_pos ej, if_pos ej]
      · rw [if_neg ej, if_neg ej, fd_neg (fun z => ej (z.symm.trans e))]
    · rw [List.filter_cons, if_pos (by simp [e])]
      by_cases ep : p.1 = j
      · rw [fd_pos ep, fd_pos ep, if_neg (fun z => e (ep.trans z))]
      · rw [fd_neg ep, fd_neg ep, ih]
theorem rm_len (m : List (κ × β)) (k : κ) : (rm m k).length ≤ m.length := List.length_filter_le _ _
theorem rm_sub (m : List (κ × β)) (k : κ) : (rm m k).Sublist m := List.filter_sublist
theorem rm_nodup {m : List (κ × β)} {k : κ} (h : (m.map (·.1)).Nodup) : ((rm m k).map (·.1)).Nodup := ((rm_sub m k).map _).nodup h
theorem rm_mem {m : List (κ × β)} {k : κ} {q : κ × β} : q ∈ rm m k ↔ q ∈ m ∧ q.1 ≠ k := by unfold rm; rw [List.mem_filter]; simp
theorem nodup_snoc {l : List Int} {k : Int} (h : l.Nodup) (hk : k ∉ l) : (l ++ [k]).Nodup := nd_snoc h hk
/-- several keys taken out -/
def rms (m : List (Int × β)) (ks : List Int) : List (Int × β) := m.filter fun q => decide (q.1 ∉ ks)
theorem rms_nil (m : List (Int × β)) : rms m [] = m := List.filter_eq_self.mpr fun _ _ => by simp
theorem rms_snoc (m : List (Int × β)) (ks : List Int) (k : Int) : rm (rms m ks) k = rms m (ks ++ [k]) := by
  unfold rm rms
  rw [List.filter_filter]
  refine List.filter_congr fun q _ => ?_
  by_cases h1 : q.1 ∈ ks <;> by_cases h2 : q.1 = k <;> simp [h1, h2]
end
/-! ### families of objects by keys -/
def famU {κ β : Type} (obs : β → U) (m : List (κ × β)) : U := m.flatMap fun q => obs q.2
theorem fam_app {κ β : Type} (obs : β → U) (A B : List (κ × β)) : famU obs (A ++ B) = famU obs A ++ famU obs B := by unfold famU; rw [List.flatMap_append]
theorem fam_out {κ β : Type} {obs : β → U} {A B : List (κ × β)} {k : κ} {b : β} {H : Hp} {L : List U} (h : Has H (famU obs (A ++ (k, b) :: B) :: L)) : Has H (obs b :: famU obs A :: famU obs B :: L) := by
  rw [fam_app, show famU obs ((k, b) :: B) = obs b ++ famU obs B from rfl] at h
  exact (Has.op.mp ((Has.op.mp h).sub (show Sub ((_ ++ _) :: famU obs A :: L) _ from Sub.p1 (Sub.p0 Sub.rf)))).sub (Sub.p0 (Sub.p1 (Sub.p0 Sub.rf)))
theorem fam_in {κ β : Type} {obs : β → U} {A B : List (κ × β)} {k : κ} {b : β} {H : Hp} {L : List U} (h : Has H (obs b :: famU obs A :: famU obs B :: L)) : Has H (famU obs (A ++ (k, b) :: B) :: L) := by
  rw [fam_app, show famU obs ((k, b) :: B) = obs b ++ famU obs B from rfl]
  refine Has.op.mpr ?_
  exact (Has.op.mpr (h.sub (show Sub (obs b :: famU obs B :: famU obs A :: L) _ from Sub.p0 (Sub.p1 (Sub.p0 Sub.rf))))).sub (Sub.p1 (Sub.p0 Sub.rf))
theorem fam_two {κ β : Type} {obs : β → U} {A B : List (κ × β)} {H : Hp} {L : List U} (h : Has H (famU obs A :: famU obs B :: L)) : Has H (famU obs (A ++ B) :: L) := by
  rw [fam_app]
  exact Has.op.mpr h
theorem fam_snoc {κ β : Type} {obs : β → U} {A : List (κ × β)} {k : κ} {b : β} {H : Hp} {L : List U} (h : Has H (obs b :: famU obs A :: L)) : Has H (famU obs (A ++ [(k, b)]) :: L) := by
  rw [fam_app, show famU obs [(k, b)] = obs b from List.append_nil _]
  exact Has.op.mpr (h.sub (Sub.p1 (Sub.p0 Sub.rf)))
theorem pu_split {κ β : Type} [DecidableEq κ] {m : List (κ × β)} {k : κ} {b : β} (nd : (m.map (·.1)).Nodup) (h : fd m k = some b) : ∃ A B, m = A ++ (k, b) :: B ∧ (∀ b', pu m k b' = A ++ (k, b') :: B) ∧ rm m k = A ++ B := by
  obtain ⟨A, B, e, ha⟩ := fd_split h
  have hb : k ∉ B.map (·.1) := by
    rw [e, List.map_append, List.map_cons] at nd
    exact (List.nodup_cons.mp (List.nodup_append.mp nd).2.1).1
  have key : ∀ (l : List (κ × β)), k ∉ l.map (·.1) → (∀ q ∈ l, ¬ q.1 = k) := fun l hl q hq e => hl (e ▸ List.mem_map.mpr ⟨q, hq, rfl⟩)
  have hid : ∀ (l : List (κ × β)) (b' : β), k ∉ l.map (·.1) → l.map (fun q => if q.1 = k then (q.1, b') else q) = l := fun l b' hl => (List.map_congr_left fun q hq => if_neg (key l hl q hq)).trans (List.map_id' l)
  have hfl : ∀ (l : List (κ × β)), k ∉ l.map (·.1) → l.filter (fun q => decide (q.1 ≠ k)) = l := fun l hl => List.filter_eq_self.mpr fun q hq => decide_eq_true (key l hl q hq)
  refine ⟨A, B, e, fun b' => ?_, ?_⟩
  · unfold pu
    rw [if_pos (by rw [h]; rfl), e, List.map_append, List.map_cons, hid A b' ha, hid B b' hb, if_pos rfl]
  · unfold rm
    rw [e, List.filter_append, List.filter_cons, if_neg (by simp), hfl A ha, hfl B hb]
theorem pu_mem {κ β : Type} [DecidableEq κ] {m : List (κ × β)} {k : κ} {b : β} {q : κ × β} (h : q ∈ pu m k b) : q ∈ m ∨ q = (k, b) := by
  unfold pu at h
  split at h
  · obtain ⟨z, hz, e⟩ := List.mem_map.mp h
    by_cases hk : z.1 = k
    · rw [if_pos hk] at e
      exact .inr (by rw [← e, hk])
    · rw [if_neg hk] at e
      exact .inl (e ▸ hz)
  · rcases List.mem_append.mp h with h | h
    · exact .inl h
    · exact .inr (List.mem_singleton.mp h)
theorem pu_nd {κ β : Type} [DecidableEq κ] {m : List (κ × β)} {k : κ} (b : β) (h : (m.map (·.1)).Nodup) : ((pu m k b).map (·.1)).Nodup := by
  by_cases e : (fd m k).isSome = true
  · rw [pu_keys_old b e]
    exact h
  · have hn : fd m k = none := by cases e2 : fd m k with
      | none => rfl
      | some v => rw [e2] at e; exact absurd rfl e
    rw [pu_new b hn, List.map_append]
    refine List.nodup_append.mpr ⟨h, List.pairwise_singleton _ _, fun a ha b hb e3 => ?_⟩
    have hb : b = k := List.mem_singleton.mp hb
    rw [e3, hb] at ha
    exact fd_none.mp hn ha
theorem pu_len' {κ β : Type} [DecidableEq κ] (m : List (κ × β)) (k : κ) (b : β) : (pu m k b).length ≤ m.length + 1 := by
  unfold pu
  split
  · rw [List.length_map]; omega
  · rw [List.length_append]; exact Nat.le_refl _
theorem nodup_sub_len : ∀ {l m : List Int}, l.Nodup → (∀ z ∈ l, z ∈ m) → l.length ≤ m.length
  | [], m, _, _ => Nat.zero_le _
  | a :: r, m, nd, h => by
    have nd2 := List.nodup_cons.mp nd
    have ha : a ∈ m := h a (List.mem_cons.mpr (.inl rfl))
    have ih := nodup_sub_len (l := r) (m := m.erase a) nd2.2 fun z hz => (List.mem_erase_of_ne (show z ≠ a from fun e => nd2.1 (e ▸ hz))).mpr (h z (List.mem_cons_of_mem _ hz))
    have e := List.length_erase_of_mem ha
    have := List.length_pos_of_mem ha
    rw [List.length_cons]
    omega
/-! ### more of the store: hands, letting go, values -/
def sp_look_hand (C : Addr) : Sp := fun vs H Q _ => ∃ (p : Addr) (x : List (Str × V)) (s : Sto) (k : Int) (R : List U), vs = [.ref p, .int k] ∧ Has H (stoU C p x s :: R) ∧ StX x ∧ 0 ≤ k ∧ k < s.hands ∧ Q .non H
theorem pure_look_hand {K : PySem.W.Frag} {C : Addr} (hC : StoreC K C) {vs : List V} {H : Hp} {Q : VK} {E : XK} (h : sp_look_hand C vs H Q E) : t_Store_look_hand K sp_is_whole ⟨fun _ H' => Q .non H', Q, fun _ _ => False, fun _ _ => False⟩ (start ["self", "hand"] vs) H := by
  obtain ⟨p, x, s, k, R, rfl, hh, hx, k0, k1, q⟩ := h
  obtain ⟨cl, n1, n2, n3, n4⟩ := hC
  replace hh := hh.cut2
  unfold t_Store_look_hand
  walk_at "go"
  refine ⟨_, _, _, rfl, ?_⟩
  rw [decide_eq_true ⟨k0, by omega⟩]
  walk_at "go"
  exact q
def sp_value_of (C : Addr) : Sp := fun vs H Q _ => ∃ (p : Addr) (x : List (Str × V)) (s : Sto) (k : Int) (R : List U), vs = [.ref p, .int k] ∧ Has H (stoU C p x s :: R) ∧ StX x ∧ k ∈ s.kept ∧ Q (.int (s.vals.getD k.toNat 0)) H
theorem pure_value_of {K : PySem.W.Frag} {C : Addr} (hC : StoreC K C) {vs : List V} {H : Hp} {Q : VK} {E : XK} (h : sp_value_of C vs H Q E) : t_Store_value_of K ⟨fun _ H' => Q .non H', Q, fun _ _ => False, fun _ _ => False⟩ (start ["self", "thing"] vs) H := by
  obtain ⟨p, x, s, k, R, rfl, hh, hx, hk, q⟩ := h
  obtain ⟨cl, n1, n2, n3, n4⟩ := hC
  replace hh := hh.cut2
  have hv := worth_val (vals := s.vals) hk
  unfold t_Store_value_of
  walk_at "go"
  rw [hv]
  walk_at "go"
  refine ifN (by rfl) ?_
  walk_at "go"
  exact q
/-- things let go -/
def Sto.less (s : Sto) (ks : List Int) : Sto := { s with kept := s.kept.filter fun k => decide (k ∉ ks) }
theorem worth_less (vals kept ks : List Int) (k : Int) : dropK (worthOf vals (kept.filter fun z => decide (z ∉ ks))) k = worthOf vals (kept.filter fun z => decide (z ∉ ks ++ [k])) := by
  unfold dropK worthOf
  rw [List.filter_map, List.filter_filter]
  congr 1
  refine List.filter_congr fun z _ => ?_
  show (decide (z ≠ k) && decide (z ∉ ks)) = _
  by_cases h1 : z ∈ ks <;> by_cases h2 : z = k <;> simp [h1, h2]
theorem Sto.ok.less {s : Sto} (ok : s.ok) {ks : List Int} (h : ∀ k ∈ ks, k ∉ s.cells) : (s.less ks).ok where
  c0 := ok.c0
  c5 := ok.c5
  v9 := ok.v9
  rise := ok.rise.filter _
  made := fun k hk => ok.made k (List.mem_filter.mp hk).1
  here := fun k hk => List.mem_filter.mpr ⟨ok.here k hk, by simpa using fun z => h k z hk⟩
  cnd := ok.cnd
def sp_let_go (C : Addr) : Sp := fun vs H Q _ => ∃ (p f : Addr) (x : List (Str × V)) (s : Sto) (ks : List Int) (R : List U), vs = [.ref p, .ref f] ∧ Has H (stoU C p x s :: [(f, .lst (ks.map V.int))] :: R) ∧ StX x ∧ ks.Nodup ∧ (∀ k ∈ ks, k ∈ s.kept) ∧
  ∀ (ys : List Int) (d : Addr) H', ys.Perm ks → ys.Pairwise (· ≤ ·) → Has H' ([(d, .lst (ys.map V.int))] :: stoU C p x (s.less ks) :: [(f, .lst (ks.map V.int))] :: R) → Q (.ref d) H'
theorem pure_let_go {K : PySem.W.Frag} {C : Addr} (hC : StoreC K C) {vs : List V} {H : Hp} {Q : VK} {E : XK} (h : sp_let_go C vs H Q E) : t_Store_let_go K ⟨fun _ H' => Q .non H', Q, fun _ _ => False, fun _ _ => False⟩ (start ["self", "things", "thing"] vs) H := by
  obtain ⟨p, f, x, s, ks, R, rfl, hh, hx, nd, hk, q⟩ := h
  obtain ⟨cl, n1, n2, n3, n4⟩ := hC
  replace hh := hh.cut2
  unfold t_Store_let_go
  walk_at "go"
  refine k_forL (fun i σ H' => ∃ v : Option V, σ = [some (.ref p), some (.ref f), v] ∧ Has H' ([(p, .ins C s.dx (stF (.int s.hands) (.ref s.w) (.ref s.c) (.int s.vals.length) x))] :: [(s.w, dI (worthOf s.vals (s.kept.filter fun z => decide (z ∉ ks.take i))))] :: [(s.c, .lst (s.cells.map V.int))] :: [(f, .lst (ks.map V.int))] :: R)) (by walk_at "hp") ⟨none, rfl, ?_⟩ ?_ ?_ ?_
  · have e : s.kept.filter (fun z => decide (z ∉ ks.take 0)) = s.kept := List.filter_eq_self.mpr fun _ _ => by simp
    rw [e]
    exact hh
  · rintro i σ H' ⟨v, rfl, h'⟩
    walk_at "hp"
  · rintro i y σ H' hi ⟨v, rfl, h'⟩
    rw [List.getElem?_map] at hi
    obtain ⟨k, hk1, rfl⟩ := Option.map_eq_some_iff.mp hi
    have hm : k ∈ ks := List.mem_of_getElem? hk1
    have et : ks.take (i + 1) = ks.take i ++ [k] := by rw [List.take_add_one, hk1]; rfl
    have hnt : k ∉ ks.take i := fun z => by
      have h2 : (ks.take i ++ [k]).Nodup := et ▸ ((List.take_sublist (i + 1) ks).nodup nd)
      rw [List.nodup_append] at h2
      exact h2.2.2 k z k (List.mem_singleton.mpr rfl) rfl
    have hv : valV (worthOf s.vals (s.kept.filter fun z => decide (z ∉ ks.take i))) k = some (.int (s.vals.getD k.toNat 0)) := worth_val (List.mem_filter.mpr ⟨hk k hm, by simpa using hnt⟩)
    walk_at "go"
    rename_i H2 h2
    refine ⟨_, rfl, ?_⟩
    rw [worth_less, ← et] at h2
    exact h2
  · rintro σ H' ⟨v, rfl, h'⟩
    have e : ks.take (ks.map V.int).length = ks := List.take_of_length_le (by rw [List.length_map]; exact Nat.le_refl _)
    rw [e] at h'
    walk_at "go"
    rename_i ys d H2 p1 p2 h2
    exact q ys d H2 p1 p2 ((h2.sub (Sub.p1 (Sub.p1 (Sub.p1 (Sub.p0 Sub.rf))))).glue2.sub (Sub.p1 (Sub.p0 Sub.rf)))
end La
namespace La
open PySem L2 Sy
local macro_rules | `(tactic| walk_at "fl") => `(tactic| first | assumption | exact stF_hands | exact stF_worth | exact stF_cells | exact stF_made | exact StX.f1 (by assumption) | exact StX.f2 (by assumption) | exact StX.f3 (by assumption) | exact StX.f4 (by assumption) | exact StX.f5 (by assumption) | exact StX.f6 (by assumption) | exact StX.f7 (by assumption) | exact StX.f8 (by assumption) | exact StX.f9 (by assumption))
local macro_rules | `(tactic| walk_at "fsl") => `(tactic| first | assumption | exact StX.fl (by assumption))
local macro_rules | `(tactic| walk_at "put") => `(tactic| first | exact stF_put_made | exact stF_put_cells | exact stF_put_worth | exact stF_put_hands)
def rdX (v0 v1 v2 v3 : V) : List (Str × V) := [("era", v0), ("inside", v1), ("saw", v2), ("waits", v3)]
theorem rd_era {h w c m v0 v1 v2 v3 : V} : (stF h w c m (rdX v0 v1 v2 v3)).lookup ("era" : Str) = some v0 := by kernel_rfl
theorem rd_put_era {h w c m v0 v1 v2 v3 u : V} : putF "era" u (stF h w c m (rdX v0 v1 v2 v3)) = stF h w c m (rdX u v1 v2 v3) := by kernel_rfl
theorem rd_inside {h w c m v0 v1 v2 v3 : V} : (stF h w c m (rdX v0 v1 v2 v3)).lookup ("inside" : Str) = some v1 := by kernel_rfl
theorem rd_put_inside {h w c m v0 v1 v2 v3 u : V} : putF "inside" u (stF h w c m (rdX v0 v1 v2 v3)) = stF h w c m (rdX v0 u v2 v3) := by kernel_rfl
theorem rd_saw {h w c m v0 v1 v2 v3 : V} : (stF h w c m (rdX v0 v1 v2 v3)).lookup ("saw" : Str) = some v2 := by kernel_rfl
theorem rd_put_saw {h w c m v0 v1 v2 v3 u : V} : putF "saw" u (stF h w c m (rdX v0 v1 v2 v3)) = stF h w c m (rdX v0 v1 u v3) := by kernel_rfl
theorem rd_waits {h w c m v0 v1 v2 v3 : V} : (stF h w c m (rdX v0 v1 v2 v3)).lookup ("waits" : Str) = some v3 := by kernel_rfl
theorem rd_put_waits {h w c m v0 v1 v2 v3 u : V} : putF "waits" u (stF h w c m (rdX v0 v1 v2 v3)) = stF h w c m (rdX v0 v1 v2 u) := by kernel_rfl
theorem rd_m_enter {h w c m v0 v1 v2 v3 : V} : (stF h w c m (rdX v0 v1 v2 v3)).lookup ("enter" : Str) = none := by kernel_rfl
theorem rd_m_look_in {h w c m v0 v1 v2 v3 : V} : (stF h w c m (rdX v0 v1 v2 v3)).lookup ("look_in" : Str) = none := by kernel_rfl
theorem rd_m_leave {h w c m v0 v1 v2 v3 : V} : (stF h w c m (rdX v0 v1 v2 v3)).lookup ("leave" : Str) = none := by kernel_rfl
theorem rd_m_look {h w c m v0 v1 v2 v3 : V} : (stF h w c m (rdX v0 v1 v2 v3)).lookup ("look" : Str) = none := by kernel_rfl
theorem rd_m_read {h w c m v0 v1 v2 v3 : V} : (stF h w c m (rdX v0 v1 v2 v3)).lookup ("read" : Str) = none := by kernel_rfl
theorem rd_m_go_on {h w c m v0 v1 v2 v3 : V} : (stF h w c m (rdX v0 v1 v2 v3)).lookup ("go_on" : Str) = none := by kernel_rfl
theorem rd_m_round_now {h w c m v0 v1 v2 v3 : V} : (stF h w c m (rdX v0 v1 v2 v3)).lookup ("round_now" : Str) = none := by kernel_rfl
theorem rd_m_hands_in {h w c m v0 v1 v2 v3 : V} : (stF h w c m (rdX v0 v1 v2 v3)).lookup ("hands_in" : Str) = none := by kernel_rfl
theorem rdX_ok {v0 v1 v2 v3 : V} : StX (rdX v0 v1 v2 v3) := ⟨by show 4 < 900; decide, by kernel_rfl, by kernel_rfl, by kernel_rfl, by kernel_rfl, by kernel_rfl, by kernel_rfl, by kernel_rfl, by kernel_rfl, by kernel_rfl⟩
theorem rd_p1 {h w c m u : V} : putF "era" u (stF h w c m []) = stF h w c m [("era", u)] := by kernel_rfl
theorem rd_p2 {h w c m v0 u : V} : putF "inside" u (stF h w c m [("era", v0)]) = stF h w c m [("era", v0), ("inside", u)] := by kernel_rfl
theorem rd_p3 {h w c m v0 v1 u : V} : putF "saw" u (stF h w c m [("era", v0), ("inside", v1)]) = stF h w c m [("era", v0), ("inside", v1), ("saw", u)] := by kernel_rfl
theorem rd_p4 {h w c m v0 v1 v2 u : V} : putF "waits" u (stF h w c m [("era", v0), ("inside", v1), ("saw", v2)]) = stF h w c m (rdX v0 v1 v2 u) := by kernel_rfl
local macro_rules | `(tactic| walk_at "fl") => `(tactic| first | assumption | exact stF_hands | exact stF_worth | exact stF_cells | exact stF_made | exact rd_era | exact rd_inside | exact rd_saw | exact rd_waits | exact rd_m_enter | exact rd_m_look_in | exact rd_m_leave | exact rd_m_look | exact rd_m_read | exact rd_m_go_on | exact rd_m_round_now | exact rd_m_hands_in | exact StX.f1 rdX_ok | exact StX.f2 rdX_ok | exact StX.f3 rdX_ok | exact StX.f4 rdX_ok | exact StX.f5 rdX_ok | exact StX.f6 rdX_ok | exact StX.f7 rdX_ok | exact StX.f8 rdX_ok | exact StX.f9 rdX_ok)
local macro_rules | `(tactic| walk_at "put") => `(tactic| first | exact rd_put_era | exact rd_put_inside | exact rd_put_saw | exact rd_put_waits)
local macro_rules | `(tactic| walk_at "fsl") => `(tactic| first | assumption | exact StX.fl rdX_ok)
/-! ### rounds -/
structure RndC (K : PySem.W.Frag) (C : Addr) : Prop where
  st : StoreC K C
  n1 : NoAttr K C "era"
  n2 : NoAttr K C "inside"
  n3 : NoAttr K C "saw"
  n4 : NoAttr K C "waits"
structure Rnd where
  sto : Sto
  era : Int
  ia : Addr
  sa : Addr
  wa : Addr
  inside : List (Int × Int)
  saw : List (Int × (Addr × List Int))
  waits : List (Int × Int)
def sawU (m : List (Int × (Addr × List Int))) : U := m.map fun q => (q.2.1, HO.lst (q.2.2.map V.int))
abbrev rdx (r : Rnd) : List (Str × V) := rdX (.int r.era) (.ref r.ia) (.ref r.sa) (.ref r.wa)
def sref (q : Addr × List Int) : V := .ref q.1
def rdU (r : Rnd) : U := (r.ia, dI (mv V.int r.inside)) :: (r.sa, dI (mv sref r.saw)) :: (r.wa, dI (mv V.int r.waits)) :: sawU r.saw
def rndU (C p : Addr) (r : Rnd) : U := stoU C p (rdx r) r.sto ++ rdU r
theorem rnd_two {H : Hp} {C p : Addr} {r : Rnd} {R : List U} : Has H (rndU C p r :: R) ↔ Has H (stoU C p (rdx r) r.sto :: rdU r :: R) := Has.op
theorem rnd_cells {H : Hp} {C p : Addr} {r : Rnd} {R : List U} (h : Has H (rndU C p r :: R)) :
    Has H ([(p, .ins C r.sto.dx (stF (.int r.sto.hands) (.ref r.sto.w) (.ref r.sto.c) (.int r.sto.vals.length) (rdx r)))] :: [(r.sto.w, dI (worthOf r.sto.vals r.sto.kept))] :: [(r.sto.c, .lst (r.sto.cells.map V.int))] ::
      [(r.ia, dI (mv V.int r.inside))] :: [(r.sa, dI (mv sref r.saw))] :: [(r.wa, dI (mv V.int r.waits))] :: sawU r.saw :: R) :=
  ((rnd_two.mp h).cut2.sub (Sub.p3 Sub.rf)).cut3.sub (Sub.p4 (Sub.p4 (Sub.p4 (Sub.p0 (Sub.p0 (Sub.p0 (Sub.p0 Sub.rf)))))))
theorem rnd_of {H : Hp} {C p : Addr} {r : Rnd} {R : List U} (h :
    Has H ([(p, .ins C r.sto.dx (stF (.int r.sto.hands) (.ref r.sto.w) (.ref r.sto.c) (.int r.sto.vals.length) (rdx r)))] :: [(r.sto.w, dI (worthOf r.sto.vals r.sto.kept))] :: [(r.sto.c, .lst (r.sto.cells.map V.int))] ::
      [(r.ia, dI (mv V.int r.inside))] :: [(r.sa, dI (mv sref r.saw))] :: [(r.wa, dI (mv V.int r.waits))] :: sawU r.saw :: R)) : Has H (rndU C p r :: R) :=
  rnd_two.mpr (Has.glue2 (((Has.glue3 (h.sub (Sub.p3 (Sub.p3 (Sub.p3 (Sub.p3 Sub.rf)))))).sub (Sub.p1 (Sub.p1 (Sub.p1 (Sub.p0 Sub.rf)))))))
structure Rnd.wf (r : Rnd) : Prop where
  ok : r.sto.ok
  keys : r.saw.map (·.1) = r.inside.map (·.1)
  nd : (r.inside.map (·.1)).Nodup
  hr : ∀ k ∈ r.inside.map (·.1), 0 ≤ k ∧ k < r.sto.hands
  h6 : r.sto.hands ≤ 6
  nw : (r.waits.map (·.1)).Nodup
  lw : r.waits.length ≤ r.sto.vals.length
  wk : ∀ k ∈ r.waits.map (·.1), k ∈ r.sto.kept ∧ k ∉ r.sto.cells
theorem nodup_len : ∀ {n : Nat} {l : List Int}, l.Nodup → (∀ k ∈ l, 0 ≤ k ∧ k < n) → l.length ≤ n
  | 0, [], _, _ => Nat.le_refl _
  | 0, a :: r, _, h => by have := h a (List.mem_cons.mpr (.inl rfl)); omega
  | n + 1, l, nd, h => by
    by_cases hm : (n : Int) ∈ l
    · have e := List.length_erase_of_mem hm
      have ih := nodup_len (n := n) (l := l.erase (n : Int)) (nd.erase _) fun k hk => by
        have h2 := nd.mem_erase_iff.mp hk
        have h3 := h k h2.2
        have h4 := h2.1
        omega
      have := List.length_pos_of_mem hm
      omega
    · have ih := nodup_len (n := n) (l := l) nd fun k hk => by
        have h3 := h k hk
        have h4 : k ≠ (n : Int) := fun e => hm (e ▸ hk)
        omega
      omega
theorem Rnd.wf.l1 {r : Rnd} (w : r.wf) : r.inside.length ≤ 6 := by
  have h6 := w.h6
  have := nodup_len (n := 6) w.nd fun k hk => by have := w.hr k hk; omega
  rw [List.length_map] at this
  exact this
theorem Rnd.wf.l2 {r : Rnd} (w : r.wf) : r.waits.length ≤ 1000 := Nat.le_trans w.lw w.ok.v9
theorem Rnd.wf.room {r : Rnd} (w : r.wf) {k : Int} (k0 : 0 ≤ k) (k1 : k < r.sto.hands) (h : fd r.inside k = none) : r.inside.length < 6 := by
  have h6 := w.h6
  have := nodup_len (n := 6) (l := k :: r.inside.map (·.1)) (List.nodup_cons.mpr ⟨fd_none.mp h, w.nd⟩) fun j hj => by
    rcases List.mem_cons.mp hj with e | hj
    · subst e; omega
    · have := w.hr j hj; omega
  rw [List.length_cons, List.length_map] at this
  omega
/-- making -/
def Rnd.new (s : Sto) (ia sa wa : Addr) : Rnd := ⟨s, 0, ia, sa, wa, [], [], []⟩
def sp_rinit (C : Addr) : Sp := fun vs H Q _ => ∃ (p dx : Addr) (h n : Int) (R : List U), vs = [.ref p, .int h, .int n] ∧ Has H ([(p, .ins C dx [])] :: R) ∧ 1 ≤ h ∧ h ≤ 6 ∧ 1 ≤ n ∧ n ≤ 5 ∧
  ∀ w c ia sa wa H', Has H' (rndU C p (Rnd.new (Sto.new dx w c h n) ia sa wa) :: R) → Q .non H'
section
local macro_rules | `(tactic| walk_at "put") => `(tactic| first | exact rd_p1 | exact rd_p2 | exact rd_p3 | exact rd_p4)
local macro_rules | `(tactic| walk_at "fsl") => `(tactic| first | assumption | (show 4 < 1000; decide) | (show 5 < 1000; decide) | (show 6 < 1000; decide) | (show 7 < 1000; decide))
theorem pure_rinit {K : PySem.W.Frag} {C CS : Addr} (hC : RndC K C) {vs : List V} {H : Hp} {Q : VK} {E : XK} (h : sp_rinit C vs H Q E) : t_Rounds_init K CS (sp_init C) ⟨fun _ H' => Q .non H', Q, fun _ _ => False, fun _ _ => False⟩ (start ["self", "hands", "cells"] vs) H := by
  obtain ⟨p, dx, h, n, R, rfl, hh, h1, h6, n1', n5, q⟩ := h
  obtain ⟨⟨cl, n1, n2, n3, n4⟩, m1, m2, m3, m4⟩ := hC
  unfold t_Rounds_init
  walk_at "go"
  refine ⟨p, dx, h, n, R, rfl, hh, h1, h6, n1', n5, fun w c H1 hh1 => ?_⟩
  replace hh1 := hh1.cut2
  walk_at "go"
  rename_i H2 h2 ia H3 h3 H4 h4 sa H5 h5 H6 h6 wa H7 h7 H8 h8
  refine q w c ia sa wa H8 (rnd_of (Has.sub (Has.nilU.mpr h8) ?_))
  show Sub ([(p, .ins C dx (stF (.int h) (.ref w) (.ref c) (.int (Sto.new dx w c h n).vals.length) (rdX (.int 0) (.ref ia) (.ref sa) (.ref wa))))] :: [(w, dI (worthOf (Sto.new dx w c h n).vals (rgI n)))] :: [(c, .lst ((rgI n).map V.int))] :: [(ia, dI [])] :: [(sa, dI [])] :: [(wa, dI [])] :: [] :: R) _
  walk_at "sub"
end
theorem Rnd.new_wf {dx w c ia sa wa : Addr} {h n : Int} (h6 : h ≤ 6) (h1 : 1 ≤ n) (h5 : n ≤ 5) : (Rnd.new (Sto.new dx w c h n) ia sa wa).wf :=
  ⟨Sto.new_ok h1 h5, rfl, List.nodup_nil, fun k hk => absurd hk List.not_mem_nil, h6, List.nodup_nil, Nat.zero_le _, fun k hk => absurd hk List.not_mem_nil⟩
def sp_rlook_in (C : Addr) : Sp := fun vs H Q _ => ∃ (p : Addr) (r : Rnd) (k : Int) (R : List U), vs = [.ref p, .int k] ∧ Has H (rndU C p r :: R) ∧ 0 ≤ k ∧ k < r.sto.hands ∧ (fd r.inside k).isSome = true ∧ Q .non H
theorem pure_rlook_in {K : PySem.W.Frag} {C : Addr} (hC : RndC K C) {vs : List V} {H : Hp} {Q : VK} {E : XK} (h : sp_rlook_in C vs H Q E) : t_Rounds_look_in K C (sp_look_hand C) ⟨fun _ H' => Q .non H', Q, fun _ _ => False, fun _ _ => False⟩ (start ["self", "hand"] vs) H := by
  obtain ⟨p, r, k, R, rfl, hh, k0, k1, hi, q⟩ := h
  obtain ⟨⟨cl, n1, n2, n3, n4⟩, m1, m2, m3, m4⟩ := hC
  have h2 := rnd_two.mp hh
  have h3 := rnd_cells hh
  unfold t_Rounds_look_in
  walk_at "go"
  refine ⟨p, _, r.sto, k, _, rfl, h2, rdX_ok, k0, k1, ?_⟩
  walk_at "go"
  rw [mv_isSome, hi]
  walk_at "go"
  exact q
def sp_enter (C : Addr) : Sp := fun vs H Q _ => ∃ (p : Addr) (r : Rnd) (k : Int) (R : List U), vs = [.ref p, .int k] ∧ Has H (rndU C p r :: R) ∧ r.wf ∧ 0 ≤ k ∧ k < r.sto.hands ∧ fd r.inside k = none ∧ r.inside.length < 6 ∧
  ∀ l H', Has H' (rndU C p { r with inside := r.inside ++ [(k, r.era)], saw := r.saw ++ [(k, (l, []))] } :: R) → Q (.int r.era) H'
theorem Rnd.wf.slen {r : Rnd} (w : r.wf) : r.saw.length ≤ 6 := by
  have := congrArg List.length w.keys
  rw [List.length_map, List.length_map] at this
  have := w.l1
  omega
theorem pure_enter {K : PySem.W.Frag} {C : Addr} (hC : RndC K C) {vs : List V} {H : Hp} {Q : VK} {E : XK} (h : sp_enter C vs H Q E) : t_Rounds_enter K C (sp_look_hand C) ⟨fun _ H' => Q .non H', Q, fun _ _ => False, fun _ _ => False⟩ (start ["self", "hand"] vs) H := by
  obtain ⟨p, r, k, R, rfl, hh, w, k0, k1, hi, hl, q⟩ := h
  obtain ⟨⟨cl, n1, n2, n3, n4⟩, m1, m2, m3, m4⟩ := hC
  have h2 := rnd_two.mp hh
  have h3 := rnd_cells hh
  have sl := w.slen
  have e1 : (mv V.int r.inside).length < sizeLine := by rw [mv_len, sizeLine_eq]; omega
  have e2 : (mv sref r.saw).length < sizeLine := by rw [mv_len, sizeLine_eq]; omega
  have hs : fd r.saw k = none := by
    have := fd_none.mp hi
    exact fd_none.mpr (by rw [w.keys]; exact this)
  unfold t_Rounds_enter
  walk_at "go"
  refine ⟨p, _, r.sto, k, _, rfl, h2, rdX_ok, k0, k1, ?_⟩
  clear h2 hh
  walk_at "go"
  have hi' : (fd r.inside k).isSome = false := by rw [hi]; rfl
  rw [mv_isSome, hi']
  walk_at "go"
  rename_i H1 g1 l H2 g2 H3 g3
  refine q l H3 (rnd_of ?_)
  have e4 : putK (mv V.int r.inside) k (.int r.era) = mv V.int (r.inside ++ [(k, r.era)]) := by rw [mv_put, pu_new _ hi]
  have e5 : putK (mv sref r.saw) k (.ref l) = mv sref (r.saw ++ [(k, (l, []))]) := by rw [show V.ref l = sref (l, []) from rfl, mv_put, pu_new _ hs]
  rw [e4, e5] at g3
  have e6 : sawU (r.saw ++ [(k, (l, []))]) = sawU r.saw ++ [(l, .lst [])] := by unfold sawU; rw [List.map_append]; rfl
  show Has H3 ([(p, .ins C r.sto.dx (stF (.int r.sto.hands) (.ref r.sto.w) (.ref r.sto.c) (.int r.sto.vals.length) (rdx r)))] :: [(r.sto.w, dI (worthOf r.sto.vals r.sto.kept))] :: [(r.sto.c, .lst (r.sto.cells.map V.int))] ::
      [(r.ia, dI (mv V.int (r.inside ++ [(k, r.era)])))] :: [(r.sa, dI (mv sref (r.saw ++ [(k, (l, []))])))] :: [(r.wa, dI (mv V.int r.waits))] :: sawU (r.saw ++ [(k, (l, []))]) :: R)
  rw [e6]
  exact (Has.op.mpr (g3.sub (show Sub (sawU r.saw :: [(l, .lst [])] :: _) _ from Sub.p7 (Sub.p0 Sub.rf)))).sub (Sub.p1 (Sub.p1 (Sub.p1 (Sub.p1 (Sub.p1 (Sub.p1 (Sub.p0 Sub.rf)))))))
theorem Has.lessU {H : Hp} {A B : U} {L : List U} (h : Has H (A :: L)) (s : B.Sublist A) : Has H (B :: L) := by
  obtain ⟨n, a⟩ := h
  have sl : (B :: L).flatten.Sublist (A :: L).flatten := by
    show (B ++ L.flatten).Sublist (A ++ L.flatten)
    exact s.append_right _
  exact ⟨(sl.map _).nodup n, fun p hp => a p (sl.subset hp)⟩
def sp_leave (C : Addr) : Sp := fun vs H Q _ => ∃ (p : Addr) (r : Rnd) (k : Int) (R : List U), vs = [.ref p, .int k] ∧ Has H (rndU C p r :: R) ∧ r.wf ∧ 0 ≤ k ∧ k < r.sto.hands ∧ (fd r.inside k).isSome = true ∧
  ∀ H', Has H' (rndU C p { r with inside := rm r.inside k, saw := rm r.saw k } :: R) → Q .non H'
theorem pure_leave {K : PySem.W.Frag} {C : Addr} (hC : RndC K C) {vs : List V} {H : Hp} {Q : VK} {E : XK} (h : sp_leave C vs H Q E) : t_Rounds_leave K C (sp_rlook_in C) ⟨fun _ H' => Q .non H', Q, fun _ _ => False, fun _ _ => False⟩ (start ["self", "hand"] vs) H := by
  obtain ⟨p, r, k, R, rfl, hh, w, k0, k1, hi, q⟩ := h
  obtain ⟨⟨cl, n1, n2, n3, n4⟩, m1, m2, m3, m4⟩ := hC
  have h3 := rnd_cells hh
  obtain ⟨e, he⟩ := Option.isSome_iff_exists.mp hi
  have hs : (fd r.saw k).isSome = true := by
    have := fd_isSome.mp hi
    exact fd_isSome.mpr (by rw [w.keys]; exact this)
  obtain ⟨b, hb⟩ := Option.isSome_iff_exists.mp hs
  have v1 : valV (mv V.int r.inside) k = some (.int e) := mv_some he
  have v2 : valV (mv sref r.saw) k = some (sref b) := mv_some hb
  unfold t_Rounds_leave
  walk_at "go"
  refine ⟨p, r, k, R, rfl, hh, k0, k1, hi, ?_⟩
  walk_at "go"
  rename_i H1 g1 H2 g2
  refine q H2 (rnd_of ?_)
  rw [mv_drop, mv_drop] at g2
  have g3 := Has.lessU (g2.sub (Sub.p6 Sub.rf)) (show (sawU (rm r.saw k)).Sublist (sawU r.saw) from (rm_sub r.saw k).map _)
  exact g3.sub (Sub.p1 (Sub.p1 (Sub.p1 (Sub.p1 (Sub.p1 (Sub.p1 (Sub.p0 Sub.rf)))))))
/-- one list of the family at hand -/
theorem saw_split {m : List (Int × (Addr × List Int))} {k : Int} {l : Addr} {xs : List Int} (h : fd m k = some (l, xs)) : ∃ A B, m = A ++ (k, (l, xs)) :: B ∧ k ∉ A.map (·.1) ∧ sawU m = sawU A ++ (l, .lst (xs.map V.int)) :: sawU B := by
  obtain ⟨A, B, rfl, hk⟩ := fd_split h
  exact ⟨A, B, rfl, hk, by unfold sawU; rw [List.map_append, List.map_cons]⟩
theorem Has.at3 {H : Hp} {A B : U} {c : Addr × HO} {L : List U} : Has H ((A ++ c :: B) :: L) ↔ Has H ([c] :: A :: B :: L) := by
  constructor
  · intro h
    exact (Has.cut ((Has.op.mp h).sub (Sub.p1 Sub.rf))).sub (Sub.p0 (Sub.p1 (Sub.p0 Sub.rf)))
  · intro h
    exact Has.op.mpr ((Has.glue (h.sub (Sub.p0 (Sub.p1 Sub.rf)))).sub (Sub.p1 (Sub.p0 Sub.rf)))
def sawAdd (m : List (Int × (Addr × List Int))) (k x : Int) : List (Int × (Addr × List Int)) := m.map fun q => if q.1 = k then (q.1, (q.2.1, q.2.2 ++ [x])) else q
theorem sawAdd_split {A B : List (Int × (Addr × List Int))} {k x : Int} {l : Addr} {xs : List Int} (nd : ((A ++ (k, (l, xs)) :: B).map (·.1)).Nodup) : sawAdd (A ++ (k, (l, xs)) :: B) k x = A ++ (k, (l, xs ++ [x])) :: B := by
  rw [List.map_append, List.map_cons, List.nodup_append] at nd
  obtain ⟨_, n2, n3⟩ := nd
  have n4 := (List.nodup_cons.mp n2).1
  unfold sawAdd
  rw [List.map_append, List.map_cons]
  have eA : A.map (fun q => if q.1 = k then (q.1, (q.2.1, q.2.2 ++ [x])) else q) = A := (List.map_congr_left (g := id) fun q hq => if_neg (n3 q.1 (List.mem_map.mpr ⟨q, hq, rfl⟩) k (List.mem_cons.mpr (.inl rfl)))).trans (List.map_id A)
  have eB : B.map (fun q => if q.1 = k then (q.1, (q.2.1, q.2.2 ++ [x])) else q) = B := (List.map_congr_left (g := id) fun q hq => if_neg fun e => n4 (List.mem_map.mpr ⟨q, hq, e⟩)).trans (List.map_id B)
  rw [eA, eB, if_pos rfl]
theorem sawAdd_keys (m : List (Int × (Addr × List Int))) (k x : Int) : (sawAdd m k x).map (·.1) = m.map (·.1) := by
  unfold sawAdd
  rw [List.map_map]
  refine List.map_congr_left fun q _ => ?_
  show (if q.1 = k then (q.1, (q.2.1, q.2.2 ++ [x])) else q).1 = q.1
  split <;> rfl
theorem sawAdd_refs (m : List (Int × (Addr × List Int))) (k x : Int) : mv sref (sawAdd m k x) = mv sref m := by
  unfold mv sawAdd
  rw [List.map_map]
  refine List.map_congr_left fun q _ => ?_
  show ((if q.1 = k then (q.1, (q.2.1, q.2.2 ++ [x])) else q).1, sref (if q.1 = k then (q.1, (q.2.1, q.2.2 ++ [x])) else q).2) = (q.1, sref q.2)
  split <;> rfl
theorem sawAdd_fd (m : List (Int × (Addr × List Int))) (k x j : Int) : fd (sawAdd m k x) j = (fd m j).map fun b => if j = k then (b.1, b.2 ++ [x]) else b := by
  induction m with
  | nil => rfl
  | cons p r ih =>
    show fd ((if p.1 = k then (p.1, (p.2.1, p.2.2 ++ [x])) else p) :: sawAdd r k x) j = _
    by_cases e : p.1 = k
    · rw [if_pos e]
      by_cases ej : p.1 = j
      · rw [fd_pos (p := (p.1, (p.2.1, p.2.2 ++ [x]))) ej, fd_pos ej, Option.map_some, if_pos (ej.symm.trans e)]
      · rw [fd_neg (p := (p.1, (p.2.1, p.2.2 ++ [x]))) ej, fd_neg ej, ih]
    · rw [if_neg e]
      by_cases ej : p.1 = j
      · rw [fd_pos ej, fd_pos ej, Option.map_some, if_neg (fun z => e (ej.trans z))]
      · rw [fd_neg ej, fd_neg ej, ih]
def sp_look (C : Addr) : Sp := fun vs H Q _ => ∃ (p : Addr) (r : Rnd) (k c : Int) (R : List U), vs = [.ref p, .int k, .int c] ∧ Has H (rndU C p r :: R) ∧ r.wf ∧ 0 ≤ k ∧ k < r.sto.hands ∧ (fd r.inside k).isSome = true ∧ 0 ≤ c ∧ c < r.sto.cells.length ∧ (∀ q ∈ r.saw, q.2.2.length ≤ 1000) ∧
  ∀ H', Has H' (rndU C p { r with saw := sawAdd r.saw k (r.sto.cells.getD c.toNat 0) } :: R) → Q (.int (r.sto.cells.getD c.toNat 0)) H'
theorem pure_look {K : PySem.W.Frag} {C : Addr} (hC : RndC K C) {vs : List V} {H : Hp} {Q : VK} {E : XK} (h : sp_look C vs H Q E) : t_Rounds_look K C (sp_rlook_in C) (sp_look_cell C) ⟨fun _ H' => Q .non H', Q, fun _ _ => False, fun _ _ => False⟩ (start ["self", "hand", "cell"] vs) H := by
  obtain ⟨p, r, k, c, R, rfl, hh, w, k0, k1, hi, c0, c1, hls, q⟩ := h
  obtain ⟨⟨cl, n1, n2, n3, n4⟩, m1, m2, m3, m4⟩ := hC
  have h2 := rnd_two.mp hh
  have h3 := rnd_cells hh
  have hs : (fd r.saw k).isSome = true := by
    have := fd_isSome.mp hi
    exact fd_isSome.mpr (by rw [w.keys]; exact this)
  obtain ⟨⟨l, xs⟩, hb⟩ := Option.isSome_iff_exists.mp hs
  have v2 : valV (mv sref r.saw) k = some (.ref l) := mv_some hb
  obtain ⟨A, B, em, hkA, eU⟩ := saw_split hb
  have hl := hls _ (fd_mem hb)
  have hl : xs.length ≤ 1000 := hl
  rw [eU] at h3
  have h4 := Has.at3.mp (h3.sub (Sub.p6 Sub.rf))
  have ea := at_ints c0 c1
  have sz : (xs.map V.int).length < sizeLine := by rw [List.length_map, sizeLine_eq]; omega
  unfold t_Rounds_look
  walk_at "go"
  refine ⟨p, r, k, R, rfl, hh, k0, k1, hi, ?_⟩
  walk_at "go"
  refine ⟨p, _, r.sto, c, _, rfl, h2, rdX_ok, c0, c1, ?_⟩
  walk_at "go"
  rename_i H1 g1
  refine q H1 (rnd_of ?_)
  have nd : ((A ++ (k, (l, xs)) :: B).map (·.1)).Nodup := by rw [← em, w.keys]; exact w.nd
  have eS : sawU (sawAdd r.saw k (r.sto.cells.getD c.toNat 0)) = sawU A ++ (l, .lst ((xs ++ [r.sto.cells.getD c.toNat 0]).map V.int)) :: sawU B := by
    rw [em, sawAdd_split nd]
    unfold sawU
    rw [List.map_append, List.map_cons]
  show Has H1 ([(p, .ins C r.sto.dx (stF (.int r.sto.hands) (.ref r.sto.w) (.ref r.sto.c) (.int r.sto.vals.length) (rdx r)))] :: [(r.sto.w, dI (worthOf r.sto.vals r.sto.kept))] :: [(r.sto.c, .lst (r.sto.cells.map V.int))] ::
      [(r.ia, dI (mv V.int r.inside))] :: [(r.sa, dI (mv sref (sawAdd r.saw k (r.sto.cells.getD c.toNat 0))))] :: [(r.wa, dI (mv V.int r.waits))] :: sawU (sawAdd r.saw k (r.sto.cells.getD c.toNat 0)) :: R)
  rw [sawAdd_refs, eS, List.map_append]
  exact (Has.at3.mpr g1).sub (Sub.p1 (Sub.p1 (Sub.p1 (Sub.p1 (Sub.p1 (Sub.p1 (Sub.p0 Sub.rf)))))))
def sp_rread (C : Addr) : Sp := fun vs H Q _ => ∃ (p : Addr) (r : Rnd) (k z : Int) (l : Addr) (xs : List Int) (R : List U), vs = [.ref p, .int k, .int z] ∧ Has H (rndU C p r :: R) ∧ 0 ≤ k ∧ k < r.sto.hands ∧ (fd r.inside k).isSome = true ∧ fd r.saw k = some (l, xs) ∧ z ∈ xs ∧ z ∈ r.sto.kept ∧
  Q (.int (r.sto.vals.getD z.toNat 0)) H
theorem pure_rread {K : PySem.W.Frag} {C : Addr} (hC : RndC K C) {vs : List V} {H : Hp} {Q : VK} {E : XK} (h : sp_rread C vs H Q E) : t_Rounds_read K C (sp_rlook_in C) (sp_value_of C) ⟨fun _ H' => Q .non H', Q, fun _ _ => False, fun _ _ => False⟩ (start ["self", "hand", "thing"] vs) H := by
  obtain ⟨p, r, k, z, l, xs, R, rfl, hh, k0, k1, hi, hb, hz, hk, q⟩ := h
  obtain ⟨⟨cl, n1, n2, n3, n4⟩, m1, m2, m3, m4⟩ := hC
  have h2 := rnd_two.mp hh
  have h3 := rnd_cells hh
  have v2 : valV (mv sref r.saw) k = some (.ref l) := mv_some hb
  obtain ⟨A, B, em, hkA, eU⟩ := saw_split hb
  rw [eU] at h3
  have h4 := Has.at3.mp (h3.sub (Sub.p6 Sub.rf))
  unfold t_Rounds_read
  walk_at "go"
  refine ⟨p, r, k, R, rfl, hh, k0, k1, hi, ?_⟩
  walk_at "go"
  rw [decide_eq_true hz]
  walk_at "go"
  exact ⟨p, _, r.sto, z, _, rfl, h2, rdX_ok, hk, q⟩
/-- a thing put out waits -/
def sp_rafter (C : Addr) : Sp := fun vs H Q _ => ∃ (p : Addr) (r : Rnd) (z : Int) (R : List U), vs = [.ref p, .int z] ∧ Has H (rndU C p r :: R) ∧ r.waits.length ≤ 1000 ∧
  ∀ H', Has H' (rndU C p { r with waits := pu r.waits z r.era } :: R) → Q .non H'
theorem pure_rafter {K : PySem.W.Frag} {C : Addr} (hC : RndC K C) {vs : List V} {H : Hp} {Q : VK} {E : XK} (h : sp_rafter C vs H Q E) : t_Rounds_after_swap K ⟨fun _ H' => Q .non H', Q, fun _ _ => False, fun _ _ => False⟩ (start ["self", "thing"] vs) H := by
  obtain ⟨p, r, z, R, rfl, hh, hl, q⟩ := h
  obtain ⟨⟨cl, n1, n2, n3, n4⟩, m1, m2, m3, m4⟩ := hC
  have h3 := rnd_cells hh
  have e1 : (mv V.int r.waits).length < sizeLine := by rw [mv_len, sizeLine_eq]; omega
  unfold t_Rounds_after_swap
  walk_at "go"
  rename_i H1 g1
  rw [mv_put] at g1
  exact q H1 (rnd_of g1)

/-- rounds go on -/
def Rnd.free (r : Rnd) : Prop := ∀ q ∈ r.inside, q.2 = r.era
def Rnd.gone (r : Rnd) : List Int := (r.waits.map (·.1)).filter fun k => decide ((fd r.waits k).getD 0 ≤ r.era + 1 - 2)
def Rnd.next (r : Rnd) : Rnd := { r with era := r.era + 1, sto := r.sto.less r.gone, waits := rms r.waits r.gone }
def sp_go_on (C : Addr) : Sp := fun vs H Q _ => ∃ (p : Addr) (r : Rnd) (R : List U), vs = [.ref p] ∧ Has H (rndU C p r :: R) ∧ r.wf ∧
  (¬ r.free → ∀ H', Has H' (rndU C p r :: R) → Q .non H') ∧
  (r.free → ∀ (ys : List Int) (d : Addr) H', ys.Perm r.gone → ys.Pairwise (· ≤ ·) → Has H' ([(d, .lst (ys.map V.int))] :: rndU C p r.next :: R) → Q (.ref d) H')
theorem pure_go_on {K : PySem.W.Frag} {C : Addr} (hC : RndC K C) {vs : List V} {H : Hp} {Q : VK} {E : XK} (h : sp_go_on C vs H Q E) : t_Rounds_go_on K C (sp_let_go C) ⟨fun _ H' => Q .non H', Q, fun _ _ => False, fun _ _ => False⟩ (start ["self", "hand", "found", "thing"] vs) H := by
  obtain ⟨p, r, R, rfl, hh, w, q1, q2⟩ := h
  have hC' := hC.st
  obtain ⟨⟨cl, n1, n2, n3, n4⟩, m1, m2, m3, m4⟩ := hC
  have h3 := rnd_cells hh
  have l1 := w.l1
  have l2 := w.l2
  have hin : ∀ z ∈ (mv V.int r.inside).map (·.1), valV (mv V.int r.inside) z = some (.int ((fd r.inside z).getD 0)) := fun z hz => by
    rw [mv_keys] at hz
    obtain ⟨e, he⟩ := Option.isSome_iff_exists.mp (fd_isSome.mpr hz)
    rw [mv_some he, he]
    rfl
  unfold t_Rounds_go_on
  walk_at "go"
  refine x_lcD (d := r.ia) (L := _) (fun z => .bl (decide ((fd r.inside z).getD 0 = r.era))) (fun _ => true) (h3.sub (Sub.p3 Sub.rf)) (by rw [mv_len]; omega) (fun o H' Q' h' q' => ?_) (fun o z hz D M H' Q' h' q' => q' H' h') (fun o z hz _ D M H' Q' h' q' => ?_) fun D H1 h1 => ?_
  · walk_at "go"
    exact q'
  · have hv := hin z hz
    walk_at "go"
    exact q' H' h'
  have eb : ((mv V.int r.inside).map (·.1)).filter (fun _ => true) = r.inside.map (·.1) := by rw [filt_true, mv_keys]
  have eb2 : (r.inside.map (·.1)).map (fun z => V.bl (decide ((fd r.inside z).getD 0 = r.era))) = ((r.inside.map (·.1)).map fun z => decide ((fd r.inside z).getD 0 = r.era)).map V.bl := by rw [List.map_map (g := V.bl)]; rfl
  rw [eb, eb2] at h1
  walk_at "go"
  have ef : (((r.inside.map (·.1)).map fun z => decide ((fd r.inside z).getD 0 = r.era)).all id = true) ↔ r.free := by
    rw [List.all_map, List.all_map, List.all_eq_true]
    constructor
    · intro hA q hq
      have h4 : decide ((fd r.inside q.1).getD 0 = r.era) = true := hA q hq
      rw [fd_of w.nd (show (q.1, q.2) ∈ r.inside from hq)] at h4
      simpa using h4
    · intro hA q hq
      show decide ((fd r.inside q.1).getD 0 = r.era) = true
      rw [fd_of w.nd (show (q.1, q.2) ∈ r.inside from hq)]
      simpa using hA q hq
  refine ifB (fun hb => ?_) (fun hb => ?_)
  · have hnf : ¬ r.free := fun z => by rw [ef.mpr z] at hb; cases hb
    walk_at "go"
    exact q1 hnf H1 (rnd_of (h1.sub (Sub.p2 (Sub.p2 (Sub.p2 (Sub.p1 (Sub.p1 (Sub.p1 (Sub.p1 (Sub.skip Sub.rf))))))))))
  · have hf : r.free := ef.mp (by simpa using hb)
    walk_at "go"
    rename_i H2 h2
    have hwt : ∀ z ∈ (mv V.int r.waits).map (·.1), valV (mv V.int r.waits) z = some (.int ((fd r.waits z).getD 0)) := fun z hz => by
      rw [mv_keys] at hz
      obtain ⟨e, he⟩ := Option.isSome_iff_exists.mp (fd_isSome.mpr hz)
      rw [mv_some he, he]
      rfl
    refine x_asgD (d := r.wa) (fun z => .int z) (fun z => decide ((fd r.waits z).getD 0 ≤ r.era + 1 - 2)) (h2.sub (show Sub ([(r.wa, dI (mv V.int r.waits))] :: _) _ by walk_at "sub")) (by rw [mv_len]; omega) (fun o H' Q' h' q' => ?_) (fun o z hz D M H' Q' h' q' => ?_) (fun o z hz _ D M H' Q' h' q' => ?_) fun f H4 h4 => ?_
    · walk_at "go"
      exact q'
    · have hv := hwt z hz
      walk_at "go"
      exact q' H' h'
    · walk_at "go"
      exact q' H' h'
    · rw [mv_keys] at h4
      have eg : (r.waits.map (·.1)).filter (fun z => decide ((fd r.waits z).getD 0 ≤ r.era + 1 - 2)) = r.gone := rfl
      rw [eg] at h4
      have hgn : r.gone.Nodup := (List.filter_sublist).nodup w.nw
      have hgm : ∀ k ∈ r.gone, k ∈ r.waits.map (·.1) := fun k hk => (List.mem_filter.mp hk).1
      walk_at "go"
      refine k_forL (fun i σ H' => ∃ v : Option V, σ = [some (.ref p), none, some (.ref f), v] ∧ Has H' ([(r.wa, dI (mv V.int (rms r.waits (r.gone.take i))))] :: [(f, .lst (r.gone.map V.int))] :: [(p, .ins C r.sto.dx (stF (.int r.sto.hands) (.ref r.sto.w) (.ref r.sto.c) (.int r.sto.vals.length) (rdX (.int (r.era + 1)) (.ref r.ia) (.ref r.sa) (.ref r.wa))))] :: [(r.sto.w, dI (worthOf r.sto.vals r.sto.kept))] :: [(r.sto.c, .lst (r.sto.cells.map V.int))] :: [(r.ia, dI (mv V.int r.inside))] :: [(r.sa, dI (mv sref r.saw))] :: sawU r.saw :: R)) (by walk_at "hp") ⟨none, rfl, ?_⟩ ?_ ?_ ?_
      · rw [List.take_zero, rms_nil]
        walk_at "has"
      · rintro i σ H' ⟨v, rfl, h'⟩
        walk_at "hp"
      · rintro i y σ H' hi ⟨v, rfl, h'⟩
        rw [List.getElem?_map] at hi
        obtain ⟨k, hk1, rfl⟩ := Option.map_eq_some_iff.mp hi
        have hm : k ∈ r.gone := List.mem_of_getElem? hk1
        have et : r.gone.take (i + 1) = r.gone.take i ++ [k] := by rw [List.take_add_one, hk1]; rfl
        have hnt : k ∉ r.gone.take i := fun z => by
          have h2 : (r.gone.take i ++ [k]).Nodup := et ▸ ((List.take_sublist (i + 1) r.gone).nodup hgn)
          rw [List.nodup_append] at h2
          exact h2.2.2 k z k (List.mem_singleton.mpr rfl) rfl
        have hs : (fd (rms r.waits (r.gone.take i)) k).isSome = true := by
          rw [fd_isSome]
          obtain ⟨qq, hq, e⟩ := List.mem_map.mp (hgm k hm)
          exact List.mem_map.mpr ⟨qq, List.mem_filter.mpr ⟨hq, by rw [e]; simpa using hnt⟩, e⟩
        obtain ⟨b, hb2⟩ := Option.isSome_iff_exists.mp hs
        have hv : valV (mv V.int (rms r.waits (r.gone.take i))) k = some (.int b) := mv_some hb2
        walk_at "go"
        rename_i H5 h5
        refine ⟨_, rfl, ?_⟩
        rw [mv_drop, rms_snoc, ← et] at h5
        exact h5
      · rintro σ H' ⟨v, rfl, h'⟩
        have e : r.gone.take (r.gone.map V.int).length = r.gone := List.take_of_length_le (by rw [List.length_map]; exact Nat.le_refl _)
        rw [e] at h'
        walk_at "go"
        refine ⟨p, f, rdX (.int (r.era + 1)) (.ref r.ia) (.ref r.sa) (.ref r.wa), r.sto, r.gone, [(r.wa, dI (mv V.int (rms r.waits r.gone)))] :: [(r.ia, dI (mv V.int r.inside))] :: [(r.sa, dI (mv sref r.saw))] :: sawU r.saw :: R, rfl, ?_, rdX_ok, hgn, fun k hk => (w.wk k (hgm k hk)).1, fun ys d H6 p1 p2 h6 => ?_⟩
        · refine Has.glue2 ?_
          walk_at "has"
        · refine q2 hf ys d H6 p1 p2 ?_
          have h7 := (h6.sub (Sub.p1 Sub.rf)).cut2
          exact (rnd_of (r := r.next) (h7.sub (show Sub ([(p, _)] :: [(r.sto.w, _)] :: [(r.sto.c, _)] :: [(r.ia, _)] :: [(r.sa, _)] :: [(r.wa, _)] :: sawU r.saw :: [(d, .lst (ys.map V.int))] :: R) _ by walk_at "sub"))).sub (Sub.p1 (Sub.p0 Sub.rf))

/-! what the deeds do to a store by rounds, in numbers -/
def Rnd.enter (r : Rnd) (k : Int) (l : Addr) : Rnd := { r with inside := r.inside ++ [(k, r.era)], saw := r.saw ++ [(k, (l, []))] }
def Rnd.leave (r : Rnd) (k : Int) : Rnd := { r with inside := rm r.inside k, saw := rm r.saw k }
def Rnd.look (r : Rnd) (k c : Int) : Rnd := { r with saw := sawAdd r.saw k (r.sto.cells.getD c.toNat 0) }
def Rnd.swap (r : Rnd) (i v : Int) : Rnd := { r with sto := r.sto.swap i v, waits := pu r.waits (r.sto.cells.getD i.toNat 0) r.era }
theorem rm_keys {β : Type} (m : List (Int × β)) (k : Int) : (rm m k).map (·.1) = (m.map (·.1)).filter fun z => decide (z ≠ k) := by
  unfold rm
  rw [List.filter_map]
  rfl
theorem pu_len {β : Type} (m : List (Int × β)) (k : Int) (b : β) : (pu m k b).length ≤ m.length + 1 := by
  unfold pu
  split
  · rw [List.length_map]; omega
  · rw [List.length_append]; exact Nat.le_refl _
theorem pu_key {β : Type} {m : List (Int × β)} {k j : Int} {b : β} (h : j ∈ (pu m k b).map (·.1)) : j ∈ m.map (·.1) ∨ j = k := by
  unfold pu at h
  split at h
  · rw [List.map_map] at h
    obtain ⟨q, hq, e⟩ := List.mem_map.mp h
    refine .inl (List.mem_map.mpr ⟨q, hq, ?_⟩)
    rw [← e]
    show q.1 = (if q.1 = k then (q.1, b) else q).1
    split <;> rfl
  · rw [List.map_append] at h
    rcases List.mem_append.mp h with q | q
    · exact .inl q
    · exact .inr (List.mem_singleton.mp q)
theorem pu_nodup {β : Type} {m : List (Int × β)} {k : Int} (b : β) (h : (m.map (·.1)).Nodup) : ((pu m k b).map (·.1)).Nodup := by
  by_cases e : (fd m k).isSome = true
  · rw [pu_keys_old b e]; exact h
  · have hn : fd m k = none := by cases e2 : fd m k with
      | none => rfl
      | some v => rw [e2] at e; exact absurd rfl e
    rw [pu_new b hn, List.map_append]
    exact nd_snoc h (fd_none.mp hn)
theorem Rnd.wf.enter {r : Rnd} (w : r.wf) {k : Int} {l : Addr} (k0 : 0 ≤ k) (k1 : k < r.sto.hands) (h : fd r.inside k = none) : (r.enter k l).wf where
  ok := w.ok
  keys := by show (r.saw ++ [_]).map _ = (r.inside ++ [_]).map _; rw [List.map_append, List.map_append, w.keys]; rfl
  nd := by show ((r.inside ++ [_]).map _).Nodup; rw [List.map_append]; exact nd_snoc w.nd (fd_none.mp h)
  hr := fun j hj => by
    have hj : j ∈ (r.inside ++ [(k, r.era)]).map (·.1) := hj
    rw [List.map_append] at hj
    rcases List.mem_append.mp hj with q | q
    · exact w.hr j q
    · rw [List.mem_singleton.mp q]; exact ⟨k0, k1⟩
  h6 := w.h6
  nw := w.nw
  lw := w.lw
  wk := w.wk
theorem Rnd.wf.leave {r : Rnd} (w : r.wf) (k : Int) : (r.leave k).wf where
  ok := w.ok
  keys := by show (rm r.saw k).map _ = (rm r.inside k).map _; rw [rm_keys, rm_keys, w.keys]
  nd := rm_nodup w.nd
  hr := fun j hj => w.hr j (by
    have hj : j ∈ (rm r.inside k).map (·.1) := hj
    rw [rm_keys] at hj
    exact (List.mem_filter.mp hj).1)
  h6 := w.h6
  nw := w.nw
  lw := w.lw
  wk := w.wk
theorem Rnd.wf.look {r : Rnd} (w : r.wf) (k c : Int) : (r.look k c).wf where
  ok := w.ok
  keys := by show (sawAdd _ _ _).map _ = _; rw [sawAdd_keys]; exact w.keys
  nd := w.nd
  hr := w.hr
  h6 := w.h6
  nw := w.nw
  lw := w.lw
  wk := w.wk
theorem Rnd.wf.swap {r : Rnd} (w : r.wf) {i v : Int} (i0 : 0 ≤ i) (i1 : i < r.sto.cells.length) (hv : r.sto.vals.length < 1000) : (r.swap i v).wf where
  ok := w.ok.swap i0 i1 hv
  keys := w.keys
  nd := w.nd
  hr := w.hr
  h6 := w.h6
  nw := pu_nodup _ w.nw
  lw := by
    have h1 := pu_len r.waits (r.sto.cells.getD i.toNat 0) r.era
    have h2 := w.lw
    show (pu _ _ _).length ≤ (r.sto.vals ++ [v]).length
    rw [List.length_append]
    show _ ≤ r.sto.vals.length + 1
    omega
  wk := fun j hj => by
    have hnew : (r.sto.vals.length : Int) ∉ r.sto.kept := fun hk => by
      obtain ⟨_, h1⟩ := w.ok.made _ hk
      omega
    have hnc : (r.sto.vals.length : Int) ∉ r.sto.cells := fun hk => hnew (w.ok.here _ hk)
    show j ∈ r.sto.kept ++ [_] ∧ j ∉ r.sto.cells.set _ _
    rcases pu_key hj with q | q
    · obtain ⟨h1, h2⟩ := w.wk j q
      refine ⟨List.mem_append.mpr (.inl h1), fun z => ?_⟩
      rcases List.mem_or_eq_of_mem_set z with e | e
      · exact h2 e
      · exact hnew (e ▸ h1)
    · have hlt : i.toNat < r.sto.cells.length := by omega
      rw [q]
      exact ⟨List.mem_append.mpr (.inl (w.ok.here _ (getD_mem hlt))), set_old w.ok.cnd hnc hlt⟩
theorem Rnd.wf.next {r : Rnd} (w : r.wf) : r.next.wf where
  ok := w.ok.less fun k hk => (w.wk k ((List.mem_filter.mp hk).1)).2
  keys := w.keys
  nd := w.nd
  hr := w.hr
  h6 := w.h6
  nw := (List.Sublist.map _ (List.filter_sublist (l := r.waits))).nodup w.nw
  lw := Nat.le_trans (List.length_filter_le _ _) w.lw
  wk := fun j hj => by
    have hj : j ∈ (rms r.waits r.gone).map (·.1) := hj
    obtain ⟨q, hq, e⟩ := List.mem_map.mp hj
    obtain ⟨h1, h2⟩ := List.mem_filter.mp hq
    obtain ⟨h3, h4⟩ := w.wk j (e ▸ List.mem_map.mpr ⟨q, h1, rfl⟩)
    exact ⟨List.mem_filter.mpr ⟨h3, by rw [e] at h2; exact h2⟩, h4⟩
/-- a swap, as the laws use it -/
def okR (r : Rnd) : Prop := r.wf ∧ r.sto.vals.length < 1000
abbrev sp_swapR (C : Addr) : Sp := sp_swap C (sp_rafter C)
abbrev sp_law_swapR (C : Addr) : Sp := sp__law_swap (rndU C) (fun r => r.sto.cells) (fun r => r.sto.vals) Rnd.swap okR
theorem hob_R {C : Addr} : ∀ p (r : Rnd) R H, Has H (rndU C p r :: R) → ∃ dx fs, H p = some (.ins C dx fs) ∧ fs.lookup ("swap" : Str) = none := fun p r R H h => ⟨_, _, (rnd_two.mp h).g0, rdX_ok.f4⟩
theorem hsw_R {C : Addr} : ∀ p (r : Rnd) (i v : Int) R H (Q : VK), Has H (rndU C p r :: R) → okR r → 0 ≤ i → i < r.sto.cells.length → 0 ≤ v → v ≤ 999 → (∀ H', Has H' (rndU C p (r.swap i v) :: R) → Q (.int (r.sto.cells.getD i.toNat 0)) H') → sp_swapR C [.ref p, .int i, .int v] H Q E0 :=
  fun p r i v R H Q h ok i0 i1 v0 v1 q => ⟨p, _, r.sto, i, v, _, rfl, rnd_two.mp h, rdX_ok, ok.1.ok, ok.2, i0, i1, v0, v1, fun H' Q' h' k => ⟨p, { r with sto := r.sto.swap i v }, _, R, rfl, rnd_two.mpr h', ok.1.l2, fun H2 h2 => k _ _ (q H2 h2)⟩⟩
def sp_round_now (C : Addr) : Sp := fun vs H Q _ => ∃ (p : Addr) (r : Rnd) (R : List U), vs = [.ref p] ∧ Has H (rndU C p r :: R) ∧ Q (.int r.era) H
theorem pure_round_now {K : PySem.W.Frag} {C : Addr} (hC : RndC K C) {vs : List V} {H : Hp} {Q : VK} {E : XK} (h : sp_round_now C vs H Q E) : t_Rounds_round_now K ⟨fun _ H' => Q .non H', Q, fun _ _ => False, fun _ _ => False⟩ (start ["self"] vs) H := by
  obtain ⟨p, r, R, rfl, hh, q⟩ := h
  obtain ⟨⟨cl, n1, n2, n3, n4⟩, m1, m2, m3, m4⟩ := hC
  have h3 := rnd_cells hh
  unfold t_Rounds_round_now
  walk_at "go"
  exact q
def sp_hands_in (C : Addr) : Sp := fun vs H Q _ => ∃ (p : Addr) (r : Rnd) (R : List U), vs = [.ref p] ∧ Has H (rndU C p r :: R) ∧ r.wf ∧
  ∀ (ys : List Int) (d : Addr) H', ys.Perm (r.inside.map (·.1)) → ys.Pairwise (· ≤ ·) → Has H' ([(d, .lst (ys.map V.int))] :: rndU C p r :: R) → Q (.ref d) H'
theorem pure_hands_in {K : PySem.W.Frag} {C : Addr} (hC : RndC K C) {vs : List V} {H : Hp} {Q : VK} {E : XK} (h : sp_hands_in C vs H Q E) : t_Rounds_hands_in K ⟨fun _ H' => Q .non H', Q, fun _ _ => False, fun _ _ => False⟩ (start ["self"] vs) H := by
  obtain ⟨p, r, R, rfl, hh, w, q⟩ := h
  obtain ⟨⟨cl, n1, n2, n3, n4⟩, m1, m2, m3, m4⟩ := hC
  have h3 := rnd_cells hh
  have hl : (mv V.int r.inside).length < 64 := by rw [mv_len]; have := w.l1; omega
  unfold t_Rounds_hands_in
  walk_at "go"
  rename_i ys d H1 p1 p2 h1
  rw [mv_keys] at p1
  exact q ys d H1 p1 p2 ((rnd_of (h1.sub (Sub.p1 (Sub.p1 (Sub.p1 (Sub.p1 (Sub.p1 (Sub.p1 (Sub.p1 Sub.rf))))))))).sub (Sub.p1 (Sub.p0 Sub.rf)))
end La
namespace La
open PySem L2 Sy
local macro_rules | `(tactic| walk_at "fl") => `(tactic| first | assumption | exact stF_hands | exact stF_worth | exact stF_cells | exact stF_made | exact StX.f1 (by assumption) | exact StX.f2 (by assumption) | exact StX.f3 (by assumption) | exact StX.f4 (by assumption) | exact StX.f5 (by assumption) | exact StX.f6 (by assumption) | exact StX.f7 (by assumption) | exact StX.f8 (by assumption) | exact StX.f9 (by assumption))
local macro_rules | `(tactic| walk_at "fsl") => `(tactic| first | assumption | exact StX.fl (by assumption))
local macro_rules | `(tactic| walk_at "put") => `(tactic| first | exact stF_put_made | exact stF_put_cells | exact stF_put_worth | exact stF_put_hands)
def t_Marks_init (K : PySem.W.Frag) (C_Store : Addr) (sp_Marks__Store_init : Sp) : TS :=
  tSeq (tDrop (tCFn C_Store sp_Marks__Store_init [] E0 (tC (.ref C_Store)) (tCons (tVar 0) (tCons (tVar 1) (tCons (tVar 2) (tNil))))))
    (tSeq (sFld K (tVar 0) (tDNewT) "marks")
    (sFld K (tVar 0) (tLst (tNil)) "waits"))
def t_Marks_look_mark (K : PySem.W.Frag) (C_Marks : Addr) (sp_Marks__Store_look_hand sp_is_whole : Sp) : TS :=
  tSeq (tDrop (tMeth C_Marks "look_hand" sp_Marks__Store_look_hand [] E0 (tVar 0) (tCons (tVar 1) (tNil))))
    (tIfS (tNot (tB (tCall sp_is_whole [] E0 (tCons (tVar 2) (tCons (tC (.int 0)) (tCons (tOp rSubI (tC (.int 2)) (tC (.int 1))) (tNil))))))) (tNever) (tNext))
def t_Marks_state_of (K : PySem.W.Frag) (C_Marks : Addr) (sp_Marks__Marks_look_mark : Sp) : TS :=
  tSeq (tDrop (tMeth C_Marks "look_mark" sp_Marks__Marks_look_mark [] E0 (tVar 0) (tCons (tVar 1) (tCons (tVar 2) (tNil)))))
    (tSeq (tAsg (tDGet2 (tFld K (tVar 0) "marks") (tTup (tCons (tVar 1) (tCons (tVar 2) (tNil)))) (tTup (tCons (tC (.str "free")) (tCons (tC (.int 0)) (tCons (tC (.int 0)) (tNil)))))) (gName 4))
    (tSeq (tIfS (tTest (tOp (rIn K true) (tOp (rIxT K) (tVar 4) (tC (.int 0))) (tVar 3))) (tNever) (tNext))
    (tRet (tVar 4))))
def t_Marks_fetch (K : PySem.W.Frag) (C_Marks : Addr) (sp_Marks__Marks_look_mark sp_Marks__Store_look_cell : Sp) : TS :=
  tSeq (tDrop (tMeth C_Marks "look_mark" sp_Marks__Marks_look_mark [] E0 (tVar 0) (tCons (tVar 1) (tCons (tVar 2) (tNil)))))
    (tSeq (tDrop (tMeth C_Marks "look_cell" sp_Marks__Store_look_cell [] E0 (tVar 0) (tCons (tVar 3) (tNil))))
    (tSeq (sDPut (tFld K (tVar 0) "marks") (tTup (tCons (tVar 1) (tCons (tVar 2) (tNil)))) (tTup (tCons (tC (.str "fetched")) (tCons (tVar 3) (tCons (tOp (rIxL K) (tFld K (tVar 0) "cells") (tVar 3)) (tNil))))))
    (tRet (tOp (rIxL K) (tFld K (tVar 0) "cells") (tVar 3)))))
def t_Marks_set_mark (K : PySem.W.Frag) (C_Marks : Addr) (sp_Marks__Marks_state_of : Sp) : TS :=
  tSeq (tAsg (tMeth C_Marks "state_of" sp_Marks__Marks_state_of [] E0 (tVar 0) (tCons (tVar 1) (tCons (tVar 2) (tCons (tTup (tCons (tC (.str "fetched")) (tNil))) (tNil))))) (gTup K 3 (gCons (gName 3) (gCons (gName 4) (gCons (gName 5) (gNil))))))
    (sDPut (tFld K (tVar 0) "marks") (tTup (tCons (tVar 1) (tCons (tVar 2) (tNil)))) (tTup (tCons (tC (.str "set")) (tCons (tVar 4) (tCons (tVar 5) (tNil))))))
def t_Marks_sure (K : PySem.W.Frag) (C_Marks : Addr) (sp_Marks__Marks_state_of : Sp) : TS :=
  tSeq (tAsg (tMeth C_Marks "state_of" sp_Marks__Marks_state_of [] E0 (tVar 0) (tCons (tVar 1) (tCons (tVar 2) (tCons (tTup (tCons (tC (.str "set")) (tNil))) (tNil))))) (gTup K 3 (gCons (gName 3) (gCons (gName 4) (gCons (gName 5) (gNil))))))
    (tSeq (tIfS (tTest (tOp rNe (tOp (rIxL K) (tFld K (tVar 0) "cells") (tVar 4)) (tVar 5))) (tSeq (tDrop (tDPopT (tFld K (tVar 0) "marks") (tTup (tCons (tVar 1) (tCons (tVar 2) (tNil))))))
    (tRet (tC (.bl false)))) (tNext))
    (tSeq (sDPut (tFld K (tVar 0) "marks") (tTup (tCons (tVar 1) (tCons (tVar 2) (tNil)))) (tTup (tCons (tC (.str "sure")) (tCons (tVar 4) (tCons (tVar 5) (tNil))))))
    (tRet (tC (.bl true)))))
def t_Marks_read (K : PySem.W.Frag) (C_Marks : Addr) (sp_Marks__Marks_state_of sp_Marks__Store_value_of : Sp) : TS :=
  tSeq (tAsg (tMeth C_Marks "state_of" sp_Marks__Marks_state_of [] E0 (tVar 0) (tCons (tVar 1) (tCons (tVar 2) (tCons (tTup (tCons (tC (.str "sure")) (tNil))) (tNil))))) (gTup K 3 (gCons (gName 3) (gCons (gName 4) (gCons (gName 5) (gNil))))))
    (tRet (tMeth C_Marks "value_of" sp_Marks__Store_value_of [] E0 (tVar 0) (tCons (tVar 5) (tNil))))
def t_Marks_clear_mark (K : PySem.W.Frag) (C_Marks : Addr) (sp_Marks__Marks_state_of : Sp) : TS :=
  tSeq (tDrop (tMeth C_Marks "state_of" sp_Marks__Marks_state_of [] E0 (tVar 0) (tCons (tVar 1) (tCons (tVar 2) (tCons (tTup (tCons (tC (.str "fetched")) (tCons (tC (.str "set")) (tCons (tC (.str "sure")) (tNil))))) (tNil))))))
    (tDrop (tDPopT (tFld K (tVar 0) "marks") (tTup (tCons (tVar 1) (tCons (tVar 2) (tNil))))))
def t_Marks_after_swap (K : PySem.W.Frag) : TS :=
  tDrop (tBM K "list" rAppend (tFld K (tVar 0) "waits") (tCons (tVar 1) (tNil)))
def t_Marks_marked (K : PySem.W.Frag) : TS :=
  tSeq (tLock (tAsg (tLc (iKeys (tFld K (tVar 0) "marks")) (gName 2) (tTest (tOp rNe (tOp (rIxT K) (tDGet (tFld K (tVar 0) "marks") (tVar 2)) (tC (.int 0))) (tC (.str "fetched")))) (tOp (rIxT K) (tDGet (tFld K (tVar 0) "marks") (tVar 2)) (tC (.int 2))) [2]) (gName 1)))
    (tRet (tSSet K (tCons (tVar 1) (tNil))))
def t_Marks_sweep (K : PySem.W.Frag) (C_Marks : Addr) (sp_Marks__Marks_marked sp_Marks__Store_let_go : Sp) : TS :=
  tSeq (tAsg (tMeth C_Marks "marked" sp_Marks__Marks_marked [] E0 (tVar 0) tNil) (gName 1))
    (tSeq (tAsg (tLc (iList K (tFld K (tVar 0) "waits")) (gName 3) (tTest (tOp (rIn K true) (tVar 3) (tVar 1))) (tVar 3) [3]) (gName 2))
    (tSeq (sFld K (tVar 0) (tLc (iList K (tFld K (tVar 0) "waits")) (gName 3) (tTest (tOp (rIn K false) (tVar 3) (tVar 1))) (tVar 3) [3]) "waits")
    (tRet (tMeth C_Marks "let_go" sp_Marks__Store_let_go [] E0 (tVar 0) (tCons (tVar 2) (tNil))))))
def mkX (v0 v1 : V) : List (Str × V) := [("marks", v0), ("waits", v1)]
theorem mk_marks {h w c m v0 v1 : V} : (stF h w c m (mkX v0 v1)).lookup ("marks" : Str) = some v0 := by kernel_rfl
theorem mk_put_marks {h w c m v0 v1 u : V} : putF "marks" u (stF h w c m (mkX v0 v1)) = stF h w c m (mkX u v1) := by kernel_rfl
theorem mk_waits {h w c m v0 v1 : V} : (stF h w c m (mkX v0 v1)).lookup ("waits" : Str) = some v1 := by kernel_rfl
theorem mk_put_waits {h w c m v0 v1 u : V} : putF "waits" u (stF h w c m (mkX v0 v1)) = stF h w c m (mkX v0 u) := by kernel_rfl
theorem mk_m_look_mark {h w c m v0 v1 : V} : (stF h w c m (mkX v0 v1)).lookup ("look_mark" : Str) = none := by kernel_rfl
theorem mk_m_state_of {h w c m v0 v1 : V} : (stF h w c m (mkX v0 v1)).lookup ("state_of" : Str) = none := by kernel_rfl
theorem mk_m_fetch {h w c m v0 v1 : V} : (stF h w c m (mkX v0 v1)).lookup ("fetch" : Str) = none := by kernel_rfl
theorem mk_m_set_mark {h w c m v0 v1 : V} : (stF h w c m (mkX v0 v1)).lookup ("set_mark" : Str) = none := by kernel_rfl
theorem mk_m_sure {h w c m v0 v1 : V} : (stF h w c m (mkX v0 v1)).lookup ("sure" : Str) = none := by kernel_rfl
theorem mk_m_read {h w c m v0 v1 : V} : (stF h w c m (mkX v0 v1)).lookup ("read" : Str) = none := by kernel_rfl
theorem mk_m_clear_mark {h w c m v0 v1 : V} : (stF h w c m (mkX v0 v1)).lookup ("clear_mark" : Str) = none := by kernel_rfl
theorem mk_m_marked {h w c m v0 v1 : V} : (stF h w c m (mkX v0 v1)).lookup ("marked" : Str) = none := by kernel_rfl
theorem mk_m_sweep {h w c m v0 v1 : V} : (stF h w c m (mkX v0 v1)).lookup ("sweep" : Str) = none := by kernel_rfl
theorem mkX_ok {v0 v1 : V} : StX (mkX v0 v1) := ⟨by show 2 < 900; decide, by kernel_rfl, by kernel_rfl, by kernel_rfl, by kernel_rfl, by kernel_rfl, by kernel_rfl, by kernel_rfl, by kernel_rfl, by kernel_rfl⟩
theorem mk_p1 {h w c m  u : V} : putF "marks" u (stF h w c m []) = stF h w c m [("marks", u)] := by kernel_rfl
theorem mk_p2 {h w c m v0 u : V} : putF "waits" u (stF h w c m [("marks", v0)]) = stF h w c m (mkX v0 u) := by kernel_rfl
local macro_rules | `(tactic| walk_at "fl") => `(tactic| first | assumption | exact stF_hands | exact stF_worth | exact stF_cells | exact stF_made | exact mk_marks | exact mk_waits | exact mk_m_look_mark | exact mk_m_state_of | exact mk_m_fetch | exact mk_m_set_mark | exact mk_m_sure | exact mk_m_read | exact mk_m_clear_mark | exact mk_m_marked | exact mk_m_sweep | exact StX.f1 mkX_ok | exact StX.f2 mkX_ok | exact StX.f3 mkX_ok | exact StX.f4 mkX_ok | exact StX.f5 mkX_ok | exact StX.f6 mkX_ok | exact StX.f7 mkX_ok | exact StX.f8 mkX_ok | exact StX.f9 mkX_ok)
local macro_rules | `(tactic| walk_at "put") => `(tactic| first | exact mk_put_marks | exact mk_put_waits | exact stF_put_made | exact stF_put_cells | exact stF_put_worth | exact stF_put_hands)
local macro_rules | `(tactic| walk_at "fsl") => `(tactic| first | assumption | exact StX.fl mkX_ok)
/-! ### marks -/
structure MrkC (K : PySem.W.Frag) (C : Addr) : Prop where
  st : StoreC K C
  n1 : NoAttr K C "marks"
  n2 : NoAttr K C "waits"
structure MV where
  a : Addr
  st : Str
  cell : Int
  thing : Int
def mtup (v : MV) : HO := .tup [.str v.st, .int v.cell, .int v.thing]
def mref (v : MV) : V := .ref v.a
abbrev Mks := List ((Int × Int) × MV)
structure Mrk where
  sto : Sto
  ma : Addr
  wa : Addr
  marks : Mks
  waits : List Int
  bag : U
abbrev mkx (r : Mrk) : List (Str × V) := mkX (.ref r.ma) (.ref r.wa)
def mdU (r : Mrk) : U := (r.ma, dP (mv mref r.marks)) :: (r.wa, .lst (r.waits.map V.int)) :: r.bag
def mrkU (C p : Addr) (r : Mrk) : U := stoU C p (mkx r) r.sto ++ mdU r
theorem mrk_two {H : Hp} {C p : Addr} {r : Mrk} {R : List U} : Has H (mrkU C p r :: R) ↔ Has H (stoU C p (mkx r) r.sto :: mdU r :: R) := Has.op
theorem mrk_cells {H : Hp} {C p : Addr} {r : Mrk} {R : List U} (h : Has H (mrkU C p r :: R)) :
    Has H ([(p, .ins C r.sto.dx (stF (.int r.sto.hands) (.ref r.sto.w) (.ref r.sto.c) (.int r.sto.vals.length) (mkx r)))] :: [(r.sto.w, dI (worthOf r.sto.vals r.sto.kept))] :: [(r.sto.c, .lst (r.sto.cells.map V.int))] ::
      [(r.ma, dP (mv mref r.marks))] :: [(r.wa, .lst (r.waits.map V.int))] :: r.bag :: R) :=
  ((mrk_two.mp h).cut2.sub (Sub.p3 Sub.rf)).cut2.sub (Sub.p3 (Sub.p3 (Sub.p3 (Sub.p0 (Sub.p0 (Sub.p0 Sub.rf))))))
theorem mrk_of {H : Hp} {C p : Addr} {r : Mrk} {R : List U} (h :
    Has H ([(p, .ins C r.sto.dx (stF (.int r.sto.hands) (.ref r.sto.w) (.ref r.sto.c) (.int r.sto.vals.length) (mkx r)))] :: [(r.sto.w, dI (worthOf r.sto.vals r.sto.kept))] :: [(r.sto.c, .lst (r.sto.cells.map V.int))] ::
      [(r.ma, dP (mv mref r.marks))] :: [(r.wa, .lst (r.waits.map V.int))] :: r.bag :: R)) : Has H (mrkU C p r :: R) :=
  mrk_two.mpr (Has.glue2 (((Has.glue2 (h.sub (Sub.p3 (Sub.p3 (Sub.p3 Sub.rf))))).sub (Sub.p1 (Sub.p1 (Sub.p1 (Sub.p0 Sub.rf)))))))
structure Mrk.wf (r : Mrk) : Prop where
  ok : r.sto.ok
  nd : (r.marks.map (·.1)).Nodup
  kr : ∀ k ∈ r.marks.map (·.1), (0 ≤ k.1 ∧ k.1 < r.sto.hands) ∧ 0 ≤ k.2 ∧ k.2 < 2
  h6 : r.sto.hands ≤ 6
  bg : ∀ q ∈ r.marks, (q.2.a, mtup q.2) ∈ r.bag
  cr : ∀ q ∈ r.marks, 0 ≤ q.2.cell ∧ q.2.cell < r.sto.cells.length
  su : ∀ q ∈ r.marks, q.2.st = "sure" → q.2.thing ∈ r.sto.kept
  nw : r.waits.Nodup
  wk : ∀ k ∈ r.waits, k ∈ r.sto.kept ∧ k ∉ r.sto.cells
theorem nodup_len2 : ∀ {n : Nat} {l : List Int}, l.Nodup → (∀ k ∈ l, 0 ≤ k ∧ k < n) → l.length ≤ n
  | 0, [], _, _ => Nat.le_refl _
  | 0, a :: r, _, h => by have := h a (List.mem_cons.mpr (.inl rfl)); omega
  | n + 1, l, nd, h => by
    by_cases hm : (n : Int) ∈ l
    · have e := List.length_erase_of_mem hm
      have ih := nodup_len2 (n := n) (l := l.erase (n : Int)) (nd.erase _) fun k hk => by
        have h2 := nd.mem_erase_iff.mp hk
        have h3 := h k h2.2
        have h4 := h2.1
        omega
      have := List.length_pos_of_mem hm
      omega
    · have ih := nodup_len2 (n := n) (l := l) nd fun k hk => by
        have h3 := h k hk
        have h4 : k ≠ (n : Int) := fun e => hm (e ▸ hk)
        omega
      omega
theorem pair_len {l : List (Int × Int)} {h : Int} (nd : l.Nodup) (hr : ∀ k ∈ l, (0 ≤ k.1 ∧ k.1 < h) ∧ 0 ≤ k.2 ∧ k.2 < 2) (h0 : 0 ≤ h) : (l.length : Int) ≤ 2 * h := by
  have n2 : (l.map fun k => 2 * k.1 + k.2).Nodup := by
    show List.Pairwise _ _
    rw [List.pairwise_map]
    refine List.Pairwise.imp_of_mem (fun {a b} ha hb hab e => ?_) nd
    have h1 := hr a ha
    have h2 := hr b hb
    exact hab (Prod.ext (by omega) (by omega))
  have := nodup_len2 (n := (2 * h).toNat) n2 fun k hk => by
    obtain ⟨z, hz, e⟩ := List.mem_map.mp hk
    have h1 := hr z hz
    omega
  rw [List.length_map] at this
  omega
theorem Mrk.wf.l2 {r : Mrk} (w : r.wf) (h0 : 0 ≤ r.sto.hands) : (r.marks.length : Int) ≤ 2 * r.sto.hands := by
  have := pair_len w.nd w.kr h0
  rw [List.length_map] at this
  exact this
theorem Mrk.wf.l1 {r : Mrk} (w : r.wf) : r.marks.length ≤ 12 := by
  have h6 := w.h6
  have := pair_len (h := 6) w.nd (fun k hk => by have := w.kr k hk; omega) (by omega)
  rw [List.length_map] at this
  omega
theorem Mrk.wf.wl {r : Mrk} (w : r.wf) : r.waits.length ≤ r.sto.vals.length := nodup_len2 w.nw fun k hk => w.ok.made k (w.wk k hk).1
/-- making -/
def Mrk.new (s : Sto) (ma wa : Addr) : Mrk := ⟨s, ma, wa, [], [], []⟩
def sp_minit (C : Addr) : Sp := fun vs H Q _ => ∃ (p dx : Addr) (h n : Int) (R : List U), vs = [.ref p, .int h, .int n] ∧ Has H ([(p, .ins C dx [])] :: R) ∧ 1 ≤ h ∧ h ≤ 6 ∧ 1 ≤ n ∧ n ≤ 5 ∧
  ∀ w c ma wa H', Has H' (mrkU C p (Mrk.new (Sto.new dx w c h n) ma wa) :: R) → Q .non H'
section
local macro_rules | `(tactic| walk_at "put") => `(tactic| first | exact mk_p1 | exact mk_p2)
local macro_rules | `(tactic| walk_at "fsl") => `(tactic| first | assumption | (show 4 < 1000; decide) | (show 5 < 1000; decide))
theorem pure_minit {K : PySem.W.Frag} {C CS : Addr} (hC : MrkC K C) {vs : List V} {H : Hp} {Q : VK} {E : XK} (h : sp_minit C vs H Q E) : t_Marks_init K CS (sp_init C) ⟨fun _ H' => Q .non H', Q, fun _ _ => False, fun _ _ => False⟩ (start ["self", "hands", "cells"] vs) H := by
  obtain ⟨p, dx, h, n, R, rfl, hh, h1, h6, n1', n5, q⟩ := h
  obtain ⟨⟨cl, n1, n2, n3, n4⟩, m1, m2⟩ := hC
  unfold t_Marks_init
  walk_at "go"
  refine ⟨p, dx, h, n, R, rfl, hh, h1, h6, n1', n5, fun w c H1 hh1 => ?_⟩
  replace hh1 := hh1.cut2
  walk_at "go"
  rename_i ma H3 h3 H4 h4 wa H5 h5 H6 h6
  refine q w c ma wa H6 (mrk_of (Has.sub (Has.nilU.mpr h6) ?_))
  show Sub ([(p, .ins C dx (stF (.int h) (.ref w) (.ref c) (.int (Sto.new dx w c h n).vals.length) (mkX (.ref ma) (.ref wa))))] :: [(w, dI (worthOf (Sto.new dx w c h n).vals (rgI n)))] :: [(c, .lst ((rgI n).map V.int))] :: [(ma, dP [])] :: [(wa, .lst [])] :: [] :: R) _
  walk_at "sub"
end
theorem Mrk.new_wf {dx w c ma wa : Addr} {h n : Int} (h6 : h ≤ 6) (h1 : 1 ≤ n) (h5 : n ≤ 5) : (Mrk.new (Sto.new dx w c h n) ma wa).wf :=
  ⟨Sto.new_ok h1 h5, List.nodup_nil, fun k hk => absurd hk List.not_mem_nil, h6, fun k hk => absurd hk List.not_mem_nil, fun k hk => absurd hk List.not_mem_nil, fun k hk => absurd hk List.not_mem_nil, List.nodup_nil, fun k hk => absurd hk List.not_mem_nil⟩
def sp_look_mark (C : Addr) : Sp := fun vs H Q _ => ∃ (p : Addr) (r : Mrk) (k m : Int) (R : List U), vs = [.ref p, .int k, .int m] ∧ Has H (mrkU C p r :: R) ∧ 0 ≤ k ∧ k < r.sto.hands ∧ 0 ≤ m ∧ m < 2 ∧ Q .non H
theorem pure_look_mark {K : PySem.W.Frag} {C : Addr} (hC : MrkC K C) {vs : List V} {H : Hp} {Q : VK} {E : XK} (h : sp_look_mark C vs H Q E) : t_Marks_look_mark K C (sp_look_hand C) sp_is_whole ⟨fun _ H' => Q .non H', Q, fun _ _ => False, fun _ _ => False⟩ (start ["self", "hand", "mark"] vs) H := by
  obtain ⟨p, r, k, m, R, rfl, hh, k0, k1, m0, m1', q⟩ := h
  obtain ⟨⟨cl, n1, n2, n3, n4⟩, m1, m2⟩ := hC
  have h2 := mrk_two.mp hh
  have h3 := mrk_cells hh
  unfold t_Marks_look_mark
  walk_at "go"
  refine ⟨p, _, r.sto, k, _, rfl, h2, mkX_ok, k0, k1, ?_⟩
  walk_at "go"
  refine ⟨m, 0, 2 - 1, rfl, ?_⟩
  rw [decide_eq_true (show (0 : Int) ≤ m ∧ m ≤ 2 - 1 from ⟨m0, by omega⟩)]
  walk_at "go"
  exact q
def sp_state_of (C : Addr) : Sp := fun vs H Q _ => ∃ (p sa : Addr) (r : Mrk) (k m : Int) (ss : List Str) (v : MV) (R : List U), vs = [.ref p, .int k, .int m, .ref sa] ∧ Has H (mrkU C p r :: [(sa, .tup (ss.map V.str))] :: R) ∧ r.wf ∧ 0 ≤ k ∧ k < r.sto.hands ∧ 0 ≤ m ∧ m < 2 ∧ fd r.marks (k, m) = some v ∧ v.st ∈ ss ∧
  ∀ H', Has H' (mrkU C p r :: [(sa, .tup (ss.map V.str))] :: R) → H' v.a = some (mtup v) → Q (.ref v.a) H'
theorem pure_state_of {K : PySem.W.Frag} {C : Addr} (hC : MrkC K C) {vs : List V} {H : Hp} {Q : VK} {E : XK} (h : sp_state_of C vs H Q E) : t_Marks_state_of K C (sp_look_mark C) ⟨fun _ H' => Q .non H', Q, fun _ _ => False, fun _ _ => False⟩ (start ["self", "hand", "mark", "states", "found"] vs) H := by
  obtain ⟨p, sa, r, k, m, ss, v, R, rfl, hh, w, k0, k1, m0, m1', hf, hs, q⟩ := h
  obtain ⟨⟨cl, n1, n2, n3, n4⟩, m1, m2⟩ := hC
  have h2 := mrk_two.mp hh
  have h3 := mrk_cells hh
  have hb := w.bg _ (fd_mem hf)
  unfold t_Marks_state_of
  walk_at "go"
  refine ⟨p, r, k, m, _, rfl, hh, k0, k1, m0, m1', ?_⟩
  clear hh h2
  walk_at "go"
  rename_i b1 H1 h1 b2 H2 h2
  have hv : valV (mv mref r.marks) (k, m) = some (.ref v.a) := mv_some hf
  rw [hv]
  have ht : H2 v.a = some (.tup [.str v.st, .int v.cell, .int v.thing]) := Has.fam (h2.sub (show Sub (r.bag :: _) _ by walk_at "sub")) _ hb
  show rIxT K (V.ref v.a) _ _ _
  walk_at "go"
  refine k_inS (by walk_at "hp") ?_
  have e : (if true = true then !decide (v.st ∈ ss) else decide (v.st ∈ ss)) = false := by simp [hs]
  rw [e]
  walk_at "go"
  refine q _ ?_ ht
  have h9 := mrk_of (C := C) (p := p) (r := r) (h2.sub (show Sub ([(p, .ins C r.sto.dx (stF (.int r.sto.hands) (.ref r.sto.w) (.ref r.sto.c) (.int r.sto.vals.length) (mkx r)))] :: [(r.sto.w, dI (worthOf r.sto.vals r.sto.kept))] :: [(r.sto.c, .lst (r.sto.cells.map V.int))] ::
      [(r.ma, dP (mv mref r.marks))] :: [(r.wa, .lst (r.waits.map V.int))] :: r.bag :: [(sa, .tup (ss.map V.str))] :: R) _ by walk_at "sub"))
  exact h9
def Mrk.mark (r : Mrk) (k m : Int) (v : MV) (bag : U) : Mrk := { r with marks := pu r.marks (k, m) v, bag := bag }
def Mrk.unmark (r : Mrk) (k m : Int) : Mrk := { r with marks := rm r.marks (k, m) }
theorem Mrk.wf.mark {r : Mrk} (w : r.wf) {k m : Int} {v : MV} {bag : U} (k0 : 0 ≤ k) (k1 : k < r.sto.hands) (m0 : 0 ≤ m) (m1 : m < 2) (hb : ∀ q ∈ r.bag, q ∈ bag) (hv : (v.a, mtup v) ∈ bag) (hc : 0 ≤ v.cell ∧ v.cell < r.sto.cells.length) (hs : v.st = "sure" → v.thing ∈ r.sto.kept) : (r.mark k m v bag).wf where
  ok := w.ok
  nd := pu_nd v w.nd
  kr := fun z hz => by
    obtain ⟨q, hq, e⟩ := List.mem_map.mp hz
    rcases pu_mem hq with h | h
    · exact w.kr z (e ▸ List.mem_map.mpr ⟨q, h, rfl⟩)
    · rw [h] at e
      rw [← e]
      exact ⟨⟨k0, k1⟩, m0, m1⟩
  h6 := w.h6
  bg := fun q hq => by
    rcases pu_mem hq with h | h
    · exact hb _ (w.bg q h)
    · rw [h]; exact hv
  cr := fun q hq => by
    rcases pu_mem hq with h | h
    · exact w.cr q h
    · rw [h]; exact hc
  su := fun q hq => by
    rcases pu_mem hq with h | h
    · exact w.su q h
    · rw [h]; exact hs
  nw := w.nw
  wk := w.wk
theorem Mrk.wf.unmark {r : Mrk} (w : r.wf) (k m : Int) : (r.unmark k m).wf where
  ok := w.ok
  nd := rm_nodup w.nd
  kr := fun z hz => by
    obtain ⟨q, hq, e⟩ := List.mem_map.mp hz
    exact w.kr z (e ▸ List.mem_map.mpr ⟨q, (rm_mem.mp hq).1, rfl⟩)
  h6 := w.h6
  bg := fun q hq => w.bg q (rm_mem.mp hq).1
  cr := fun q hq => w.cr q (rm_mem.mp hq).1
  su := fun q hq => w.su q (rm_mem.mp hq).1
  nw := w.nw
  wk := w.wk
/-- the cells again as one store, a new tuple in the bag -/
theorem mrk_put {H : Hp} {C p : Addr} {r : Mrk} {k m : Int} {v : MV} {R : List U} (h :
    Has H ([(v.a, mtup v)] :: [(p, .ins C r.sto.dx (stF (.int r.sto.hands) (.ref r.sto.w) (.ref r.sto.c) (.int r.sto.vals.length) (mkx r)))] :: [(r.sto.w, dI (worthOf r.sto.vals r.sto.kept))] :: [(r.sto.c, .lst (r.sto.cells.map V.int))] ::
      [(r.ma, dP (putK (mv mref r.marks) (k, m) (.ref v.a)))] :: [(r.wa, .lst (r.waits.map V.int))] :: r.bag :: R)) : Has H (mrkU C p (r.mark k m v (r.bag ++ [(v.a, mtup v)])) :: R) := by
  refine mrk_of ?_
  show Has H ([(p, .ins C r.sto.dx (stF (.int r.sto.hands) (.ref r.sto.w) (.ref r.sto.c) (.int r.sto.vals.length) (mkx r)))] :: [(r.sto.w, dI (worthOf r.sto.vals r.sto.kept))] :: [(r.sto.c, .lst (r.sto.cells.map V.int))] ::
      [(r.ma, dP (mv mref (pu r.marks (k, m) v)))] :: [(r.wa, .lst (r.waits.map V.int))] :: (r.bag ++ [(v.a, mtup v)]) :: R)
  rw [← mv_put mref]
  have h2 := Has.op.mpr (h.sub (show Sub (r.bag :: [(v.a, mtup v)] :: _) _ from Sub.p6 (Sub.p0 Sub.rf)))
  exact h2.sub (Sub.p1 (Sub.p1 (Sub.p1 (Sub.p1 (Sub.p1 (Sub.p0 Sub.rf))))))
def sp_fetch (C : Addr) : Sp := fun vs H Q _ => ∃ (p : Addr) (r : Mrk) (k m c : Int) (R : List U), vs = [.ref p, .int k, .int m, .int c] ∧ Has H (mrkU C p r :: R) ∧ r.wf ∧ 0 ≤ k ∧ k < r.sto.hands ∧ 0 ≤ m ∧ m < 2 ∧ 0 ≤ c ∧ c < r.sto.cells.length ∧
  ∀ a bag H', (r.mark k m ⟨a, "fetched", c, r.sto.cells.getD c.toNat 0⟩ bag).wf → Has H' (mrkU C p (r.mark k m ⟨a, "fetched", c, r.sto.cells.getD c.toNat 0⟩ bag) :: R) → Q (.int (r.sto.cells.getD c.toNat 0)) H'
theorem pure_fetch {K : PySem.W.Frag} {C : Addr} (hC : MrkC K C) {vs : List V} {H : Hp} {Q : VK} {E : XK} (h : sp_fetch C vs H Q E) : t_Marks_fetch K C (sp_look_mark C) (sp_look_cell C) ⟨fun _ H' => Q .non H', Q, fun _ _ => False, fun _ _ => False⟩ (start ["self", "hand", "mark", "cell"] vs) H := by
  obtain ⟨p, r, k, m, c, R, rfl, hh, w, k0, k1, m0, m1', c0, c1, q⟩ := h
  obtain ⟨⟨cl, n1, n2, n3, n4⟩, m1, m2⟩ := hC
  have h2 := mrk_two.mp hh
  have h3 := mrk_cells hh
  have hl := w.l1
  have e1 : (mv mref r.marks).length < sizeLine := by rw [mv_len, sizeLine_eq]; omega
  have ea := at_ints c0 c1
  unfold t_Marks_fetch
  walk_at "go"
  refine ⟨p, r, k, m, _, rfl, hh, k0, k1, m0, m1', ?_⟩
  walk_at "go"
  refine ⟨p, _, r.sto, c, _, rfl, h2, mkX_ok, c0, c1, ?_⟩
  clear hh h2
  walk_at "go"
  rename_i a H1 h1 b H2 h2 H3 h3
  have hw : (r.mark k m ⟨a, "fetched", c, r.sto.cells.getD c.toNat 0⟩ (r.bag ++ [(a, mtup ⟨a, "fetched", c, r.sto.cells.getD c.toNat 0⟩)])).wf :=
    w.mark k0 k1 m0 m1' (fun q hq => List.mem_append.mpr (.inl hq)) (List.mem_append.mpr (.inr (List.mem_singleton.mpr rfl))) ⟨c0, c1⟩ (fun e => absurd e (show ¬ ("fetched" : Str) = "sure" by decide))
  exact q a _ H3 hw (mrk_put (h3.sub (Sub.p1 (Sub.skip Sub.rf))))
theorem at_mv {H : Hp} {v : MV} {L L' : List U} {bag : U} (h : Has H L) (hs : Sub (bag :: L') L) (hb : (v.a, mtup v) ∈ bag) : H v.a = some (.tup [.str v.st, .int v.cell, .int v.thing]) := Has.fam (h.sub hs) _ hb
def sp_set_mark (C : Addr) : Sp := fun vs H Q _ => ∃ (p : Addr) (r : Mrk) (k m : Int) (v : MV) (R : List U), vs = [.ref p, .int k, .int m] ∧ Has H (mrkU C p r :: R) ∧ r.wf ∧ 0 ≤ k ∧ k < r.sto.hands ∧ 0 ≤ m ∧ m < 2 ∧ fd r.marks (k, m) = some v ∧ v.st = "fetched" ∧
  ∀ a bag H', (r.mark k m ⟨a, "set", v.cell, v.thing⟩ bag).wf → Has H' (mrkU C p (r.mark k m ⟨a, "set", v.cell, v.thing⟩ bag) :: R) → Q .non H'
theorem pure_set_mark {K : PySem.W.Frag} {C : Addr} (hC : MrkC K C) {vs : List V} {H : Hp} {Q : VK} {E : XK} (h : sp_set_mark C vs H Q E) : t_Marks_set_mark K C (sp_state_of C) ⟨fun _ H' => Q .non H', Q, fun _ _ => False, fun _ _ => False⟩ (start ["self", "hand", "mark", "state", "cell", "thing"] vs) H := by
  obtain ⟨p, r, k, m, v, R, rfl, hh, w, k0, k1, m0, m1', hf, hs, q⟩ := h
  obtain ⟨⟨cl, n1, n2, n3, n4⟩, m1, m2⟩ := hC
  have hl := w.l1
  have e1 : (mv mref r.marks).length < sizeLine := by rw [mv_len, sizeLine_eq]; omega
  have hp := (mrk_two.mp hh).g0
  unfold t_Marks_set_mark
  walk_at "go"
  rename_i sa H1 h1
  refine ⟨p, sa, r, k, m, ["fetched"], v, R, rfl, h1.sub (Sub.p1 (Sub.p0 Sub.rf)), w, k0, k1, m0, m1', hf, by rw [hs]; exact List.mem_singleton.mpr rfl, fun H2 h2 ht => ?_⟩
  have ht : H2 v.a = some (.tup [.str v.st, .int v.cell, .int v.thing]) := ht
  have h3 := mrk_cells h2
  clear h1 hh hp
  refine x_gtup ht rfl ?_
  clear h2
  walk_at "go"
  rename_i a H4 h4 b H5 h5 H6 h6
  have hw : (r.mark k m ⟨a, "set", v.cell, v.thing⟩ (r.bag ++ [(a, mtup ⟨a, "set", v.cell, v.thing⟩)])).wf :=
    w.mark k0 k1 m0 m1' (fun q hq => List.mem_append.mpr (.inl hq)) (List.mem_append.mpr (.inr (List.mem_singleton.mpr rfl))) (w.cr _ (fd_mem hf)) (fun e => absurd e (show ¬ ("set" : Str) = "sure" by decide))
  exact q a _ H6 hw (mrk_put (h6.sub (show Sub ([(a, mtup ⟨a, "set", v.cell, v.thing⟩)] :: [(p, _)] :: [(r.sto.w, _)] :: [(r.sto.c, _)] :: [(r.ma, _)] :: [(r.wa, _)] :: r.bag :: R) _ by walk_at "sub")))
def sp_sure (C : Addr) : Sp := fun vs H Q _ => ∃ (p : Addr) (r : Mrk) (k m : Int) (v : MV) (R : List U), vs = [.ref p, .int k, .int m] ∧ Has H (mrkU C p r :: R) ∧ r.wf ∧ 0 ≤ k ∧ k < r.sto.hands ∧ 0 ≤ m ∧ m < 2 ∧ fd r.marks (k, m) = some v ∧ v.st = "set" ∧
  (r.sto.cells.getD v.cell.toNat 0 = v.thing → ∀ a bag H', (r.mark k m ⟨a, "sure", v.cell, v.thing⟩ bag).wf → Has H' (mrkU C p (r.mark k m ⟨a, "sure", v.cell, v.thing⟩ bag) :: R) → Q (.bl true) H') ∧
  (r.sto.cells.getD v.cell.toNat 0 ≠ v.thing → ∀ H', Has H' (mrkU C p (r.unmark k m) :: R) → Q (.bl false) H')
theorem mrk_un {H : Hp} {C p : Addr} {r : Mrk} {k m : Int} {R : List U} (h :
    Has H ([(p, .ins C r.sto.dx (stF (.int r.sto.hands) (.ref r.sto.w) (.ref r.sto.c) (.int r.sto.vals.length) (mkx r)))] :: [(r.sto.w, dI (worthOf r.sto.vals r.sto.kept))] :: [(r.sto.c, .lst (r.sto.cells.map V.int))] ::
      [(r.ma, dP (dropK (mv mref r.marks) (k, m)))] :: [(r.wa, .lst (r.waits.map V.int))] :: r.bag :: R)) : Has H (mrkU C p (r.unmark k m) :: R) := by
  refine mrk_of ?_
  show Has H ([(p, .ins C r.sto.dx (stF (.int r.sto.hands) (.ref r.sto.w) (.ref r.sto.c) (.int r.sto.vals.length) (mkx r)))] :: [(r.sto.w, dI (worthOf r.sto.vals r.sto.kept))] :: [(r.sto.c, .lst (r.sto.cells.map V.int))] ::
      [(r.ma, dP (mv mref (rm r.marks (k, m))))] :: [(r.wa, .lst (r.waits.map V.int))] :: r.bag :: R)
  rw [← mv_drop mref]
  exact h
theorem pure_sure {K : PySem.W.Frag} {C : Addr} (hC : MrkC K C) {vs : List V} {H : Hp} {Q : VK} {E : XK} (h : sp_sure C vs H Q E) : t_Marks_sure K C (sp_state_of C) ⟨fun _ H' => Q .non H', Q, fun _ _ => False, fun _ _ => False⟩ (start ["self", "hand", "mark", "state", "cell", "thing"] vs) H := by
  obtain ⟨p, r, k, m, v, R, rfl, hh, w, k0, k1, m0, m1', hf, hs, q1, q2⟩ := h
  obtain ⟨⟨cl, n1, n2, n3, n4⟩, m1, m2⟩ := hC
  have hl := w.l1
  have e1 : (mv mref r.marks).length < sizeLine := by rw [mv_len, sizeLine_eq]; omega
  have hp := (mrk_two.mp hh).g0
  have c0 : 0 ≤ v.cell := (w.cr _ (fd_mem hf)).1
  have c1 : v.cell < r.sto.cells.length := (w.cr _ (fd_mem hf)).2
  have ea := at_ints c0 c1
  have hv : valV (mv mref r.marks) (k, m) = some (.ref v.a) := mv_some hf
  unfold t_Marks_sure
  walk_at "go"
  rename_i sa H1 h1
  refine ⟨p, sa, r, k, m, ["set"], v, R, rfl, h1.sub (Sub.p1 (Sub.p0 Sub.rf)), w, k0, k1, m0, m1', hf, by rw [hs]; exact List.mem_singleton.mpr rfl, fun H2 h2 ht => ?_⟩
  have ht : H2 v.a = some (.tup [.str v.st, .int v.cell, .int v.thing]) := ht
  have h3 := mrk_cells h2
  clear h1 hh hp
  refine x_gtup ht rfl ?_
  clear h2
  walk_at "go"
  refine ifB (fun b => ?_) (fun b => ?_)
  · have hne : ¬ r.sto.cells.getD v.cell.toNat 0 = v.thing := by simpa using b
    walk_at "go"
    rename_i b1 H4 h4 H5 h5
    exact q2 hne H5 (mrk_un (h5.sub (show Sub ([(p, _)] :: [(r.sto.w, _)] :: [(r.sto.c, _)] :: [(r.ma, _)] :: [(r.wa, _)] :: r.bag :: R) _ by walk_at "sub")))
  · have he : r.sto.cells.getD v.cell.toNat 0 = v.thing := by simpa using b
    walk_at "go"
    rename_i a H4 h4 b H5 h5 H6 h6
    have hw : (r.mark k m ⟨a, "sure", v.cell, v.thing⟩ (r.bag ++ [(a, mtup ⟨a, "sure", v.cell, v.thing⟩)])).wf :=
      w.mark k0 k1 m0 m1' (fun q hq => List.mem_append.mpr (.inl hq)) (List.mem_append.mpr (.inr (List.mem_singleton.mpr rfl))) ⟨c0, c1⟩ (fun _ => by
        show v.thing ∈ r.sto.kept
        rw [← he]
        exact w.ok.here _ (getD_mem (by omega)))
    exact q1 he a _ H6 hw (mrk_put (h6.sub (show Sub ([(a, mtup ⟨a, "sure", v.cell, v.thing⟩)] :: [(p, _)] :: [(r.sto.w, _)] :: [(r.sto.c, _)] :: [(r.ma, _)] :: [(r.wa, _)] :: r.bag :: R) _ by walk_at "sub")))
def sp_mread (C : Addr) : Sp := fun vs H Q _ => ∃ (p : Addr) (r : Mrk) (k m : Int) (v : MV) (R : List U), vs = [.ref p, .int k, .int m] ∧ Has H (mrkU C p r :: R) ∧ r.wf ∧ 0 ≤ k ∧ k < r.sto.hands ∧ 0 ≤ m ∧ m < 2 ∧ fd r.marks (k, m) = some v ∧ v.st = "sure" ∧
  ∀ H', Has H' (mrkU C p r :: R) → Q (.int (r.sto.vals.getD v.thing.toNat 0)) H'
theorem pure_mread {K : PySem.W.Frag} {C : Addr} (hC : MrkC K C) {vs : List V} {H : Hp} {Q : VK} {E : XK} (h : sp_mread C vs H Q E) : t_Marks_read K C (sp_state_of C) (sp_value_of C) ⟨fun _ H' => Q .non H', Q, fun _ _ => False, fun _ _ => False⟩ (start ["self", "hand", "mark", "state", "cell", "thing"] vs) H := by
  obtain ⟨p, r, k, m, v, R, rfl, hh, w, k0, k1, m0, m1', hf, hs, q⟩ := h
  obtain ⟨⟨cl, n1, n2, n3, n4⟩, m1, m2⟩ := hC
  have hp := (mrk_two.mp hh).g0
  unfold t_Marks_read
  walk_at "go"
  rename_i sa H1 h1
  refine ⟨p, sa, r, k, m, ["sure"], v, R, rfl, h1.sub (Sub.p1 (Sub.p0 Sub.rf)), w, k0, k1, m0, m1', hf, by rw [hs]; exact List.mem_singleton.mpr rfl, fun H2 h2 ht => ?_⟩
  have ht : H2 v.a = some (.tup [.str v.st, .int v.cell, .int v.thing]) := ht
  have hp2 := (mrk_two.mp h2).g0
  refine x_gtup ht rfl ?_
  walk_at "go"
  refine ⟨p, _, r.sto, v.thing, _, rfl, mrk_two.mp h2, mkX_ok, w.su _ (fd_mem hf) hs, ?_⟩
  walk_at "go"
  exact q H2 (h2.sub (Sub.p0 (Sub.skip Sub.rf)))
def sp_clear_mark (C : Addr) : Sp := fun vs H Q _ => ∃ (p : Addr) (r : Mrk) (k m : Int) (v : MV) (R : List U), vs = [.ref p, .int k, .int m] ∧ Has H (mrkU C p r :: R) ∧ r.wf ∧ 0 ≤ k ∧ k < r.sto.hands ∧ 0 ≤ m ∧ m < 2 ∧ fd r.marks (k, m) = some v ∧ v.st ∈ (["fetched", "set", "sure"] : List Str) ∧
  ∀ H', Has H' (mrkU C p (r.unmark k m) :: R) → Q .non H'
theorem pure_clear_mark {K : PySem.W.Frag} {C : Addr} (hC : MrkC K C) {vs : List V} {H : Hp} {Q : VK} {E : XK} (h : sp_clear_mark C vs H Q E) : t_Marks_clear_mark K C (sp_state_of C) ⟨fun _ H' => Q .non H', Q, fun _ _ => False, fun _ _ => False⟩ (start ["self", "hand", "mark"] vs) H := by
  obtain ⟨p, r, k, m, v, R, rfl, hh, w, k0, k1, m0, m1', hf, hs, q⟩ := h
  obtain ⟨⟨cl, n1, n2, n3, n4⟩, m1, m2⟩ := hC
  have hp := (mrk_two.mp hh).g0
  have hv : valV (mv mref r.marks) (k, m) = some (.ref v.a) := mv_some hf
  unfold t_Marks_clear_mark
  walk_at "go"
  rename_i sa H1 h1
  refine ⟨p, sa, r, k, m, ["fetched", "set", "sure"], v, R, rfl, h1.sub (Sub.p1 (Sub.p0 Sub.rf)), w, k0, k1, m0, m1', hf, hs, fun H2 h2 ht => ?_⟩
  have h3 := mrk_cells h2
  clear h1 hh hp h2
  walk_at "go"
  rename_i b1 H4 h4 H5 h5
  exact q H5 (mrk_un (h5.sub (show Sub ([(p, _)] :: [(r.sto.w, _)] :: [(r.sto.c, _)] :: [(r.ma, _)] :: [(r.wa, _)] :: r.bag :: R) _ by walk_at "sub")))
def sp_mafter (C : Addr) : Sp := fun vs H Q _ => ∃ (p : Addr) (r : Mrk) (z : Int) (R : List U), vs = [.ref p, .int z] ∧ Has H (mrkU C p r :: R) ∧ r.waits.length ≤ 1000 ∧
  ∀ H', Has H' (mrkU C p { r with waits := r.waits ++ [z] } :: R) → Q .non H'
theorem pure_mafter {K : PySem.W.Frag} {C : Addr} (hC : MrkC K C) {vs : List V} {H : Hp} {Q : VK} {E : XK} (h : sp_mafter C vs H Q E) : t_Marks_after_swap K ⟨fun _ H' => Q .non H', Q, fun _ _ => False, fun _ _ => False⟩ (start ["self", "thing"] vs) H := by
  obtain ⟨p, r, z, R, rfl, hh, hl, q⟩ := h
  obtain ⟨⟨cl, n1, n2, n3, n4⟩, m1, m2⟩ := hC
  have h3 := mrk_cells hh
  have sz : (r.waits.map V.int).length < sizeLine := by rw [List.length_map, sizeLine_eq]; omega
  clear hh
  unfold t_Marks_after_swap
  walk_at "go"
  rename_i H1 h1
  refine q H1 (mrk_of ?_)
  show Has H1 ([(p, .ins C r.sto.dx (stF (.int r.sto.hands) (.ref r.sto.w) (.ref r.sto.c) (.int r.sto.vals.length) (mkx r)))] :: [(r.sto.w, dI (worthOf r.sto.vals r.sto.kept))] :: [(r.sto.c, .lst (r.sto.cells.map V.int))] ::
      [(r.ma, dP (mv mref r.marks))] :: [(r.wa, .lst ((r.waits ++ [z]).map V.int))] :: r.bag :: R)
  rw [List.map_append]
  exact h1
/-- what bears a mark -/
def bears (m : Mks) : List Int := (m.filter fun q => !decide (q.2.st = ("fetched" : Str))).map fun q => q.2.thing
def sp_marked (C : Addr) : Sp := fun vs H Q _ => ∃ (p : Addr) (r : Mrk) (R : List U), vs = [.ref p] ∧ Has H (mrkU C p r :: R) ∧ r.wf ∧
  ∀ (ys : List Int) (d : Addr) H', ys.Pairwise (· < ·) → (∀ k, k ∈ ys ↔ k ∈ bears r.marks) → Has H' ([(d, .lst (ys.map V.int))] :: mrkU C p r :: R) → Q (.ref d) H'
theorem pure_marked {K : PySem.W.Frag} {C : Addr} (hC : MrkC K C) {vs : List V} {H : Hp} {Q : VK} {E : XK} (h : sp_marked C vs H Q E) : t_Marks_marked K ⟨fun _ H' => Q .non H', Q, fun _ _ => False, fun _ _ => False⟩ (start ["self", "found", "one"] vs) H := by
  obtain ⟨p, r, R, rfl, hh, w, q⟩ := h
  obtain ⟨⟨cl, n1, n2, n3, n4⟩, m1, m2⟩ := hC
  have h3 := mrk_cells hh
  have hl := w.l1
  clear hh
  have key : ∀ z ∈ (mv mref r.marks).map (·.1), ∃ v, fd r.marks z = some v ∧ (z, v) ∈ r.marks := fun z hz => by
    rw [mv_keys] at hz
    obtain ⟨v, hv⟩ := Option.isSome_iff_exists.mp (fd_isSome.mpr hz)
    exact ⟨v, hv, fd_mem hv⟩
  unfold t_Marks_marked
  walk_at "go"
  refine x_asgT (d := r.ma) (fun z => .int (((fd r.marks z).map fun v => v.thing).getD 0)) (fun z => !decide (((fd r.marks z).map fun v => v.st).getD ("" : Str) = ("fetched" : Str))) (fun q z => [some (.ref p), none, some (.ref q)]) (h3.sub (Sub.p3 Sub.rf)) (by rw [mv_len]; omega) (fun q z hz => rfl) (fun oo H' Q' h' q' => ?_) (fun oo q z hz D M H' Q' hq h' q' => ?_) (fun oo q z hz D M H' Q' hq h' q' => ?_) (fun oo q z hz _ D M H' Q' hq h' q' => ?_) fun D H2 h2 => ?_
  · walk_at "go"
    exact q'
  · walk_at "go"
    exact q'
  · obtain ⟨v, hv, hm⟩ := key z hz
    have hv2 : valV (mv mref r.marks) (z.1, z.2) = some (.ref v.a) := mv_some hv
    have ht := at_mv h' (by walk_at "sub") (w.bg _ hm)
    walk_at "go"
    rw [hv] at q'
    exact q' H' hq h'
  · obtain ⟨v, hv, hm⟩ := key z hz
    have hv2 : valV (mv mref r.marks) (z.1, z.2) = some (.ref v.a) := mv_some hv
    have ht := at_mv h' (by walk_at "sub") (w.bg _ hm)
    walk_at "go"
    rw [hv] at q'
    exact q' H' h'
  · have e : ((((mv mref r.marks).map (·.1)).filter fun z => !decide (((fd r.marks z).map fun v => v.st).getD ("" : Str) = ("fetched" : Str))).map fun z => V.int (((fd r.marks z).map fun v => v.thing).getD 0)) = (bears r.marks).map V.int := by
      rw [mv_keys, List.filter_map, List.map_map]
      unfold bears
      rw [List.map_map]
      have ev : ∀ q ∈ r.marks, fd r.marks q.1 = some q.2 := fun q hq => fd_of w.nd (show (q.1, q.2) ∈ r.marks from hq)
      have e1 : (r.marks.filter ((fun z => !decide (((fd r.marks z).map fun v => v.st).getD ("" : Str) = ("fetched" : Str))) ∘ fun x => x.1)) = r.marks.filter fun q => !decide (q.2.st = ("fetched" : Str)) := List.filter_congr fun q hq => by
        show (!decide (((fd r.marks q.1).map fun v => v.st).getD ("" : Str) = ("fetched" : Str))) = _
        rw [ev q hq]
        rfl
      rw [e1]
      refine List.map_congr_left fun q hq => ?_
      show V.int (((fd r.marks q.1).map fun v => v.thing).getD 0) = V.int q.2.thing
      rw [ev q (List.mem_filter.mp hq).1]
      rfl
    rw [e] at h2
    have hb : (bears r.marks).length < 64 := by
      unfold bears
      rw [List.length_map]
      have := List.length_filter_le (fun q : (Int × Int) × MV => !decide (q.2.st = ("fetched" : Str))) r.marks
      omega
    walk_at "go"
    rename_i w2 ys d H3 s1 s2 h4
    refine q ys d H3 s1 s2 ?_
    have h5 := mrk_of (C := C) (p := p) (r := r) (h4.sub (show Sub ([(p, _)] :: [(r.sto.w, _)] :: [(r.sto.c, _)] :: [(r.ma, _)] :: [(r.wa, _)] :: r.bag :: _) _ by walk_at "sub"))
    exact h5.sub (by walk_at "sub")
theorem Has.bagless {H : Hp} {A : U} {L : List U} (h : Has H (A :: L)) : Has H L := h.sub (Sub.skip Sub.rf)
def Mrk.gone (r : Mrk) : List Int := r.waits.filter fun z => !decide (z ∈ bears r.marks)
def Mrk.swept (r : Mrk) : Mrk := { r with sto := r.sto.less r.gone, waits := r.waits.filter fun z => decide (z ∈ bears r.marks) }
def Mrk.at (r : Mrk) (wa : Addr) : Mrk := { r with wa := wa }
theorem Mrk.wf.at {r : Mrk} (w : r.wf) (wa : Addr) : (r.at wa).wf := ⟨w.ok, w.nd, w.kr, w.h6, w.bg, w.cr, w.su, w.nw, w.wk⟩
theorem Mrk.wf.swept {r : Mrk} (w : r.wf) : r.swept.wf where
  ok := w.ok.less fun k hk => (w.wk k (List.mem_filter.mp hk).1).2
  nd := w.nd
  kr := w.kr
  h6 := w.h6
  bg := w.bg
  cr := w.cr
  su := fun q hq hs => by
    have h1 := w.su q hq hs
    refine List.mem_filter.mpr ⟨h1, decide_eq_true fun hg => ?_⟩
    have h2 : ¬ q.2.thing ∈ bears r.marks := by simpa using (List.mem_filter.mp hg).2
    refine h2 (List.mem_map.mpr ⟨q, List.mem_filter.mpr ⟨hq, ?_⟩, rfl⟩)
    rw [hs]
    decide
  nw := List.filter_sublist.nodup w.nw
  wk := fun k hk => by
    obtain ⟨h1, h2⟩ := List.mem_filter.mp hk
    obtain ⟨h3, h4⟩ := w.wk k h1
    refine ⟨List.mem_filter.mpr ⟨h3, decide_eq_true fun hg => ?_⟩, h4⟩
    have h5 : ¬ k ∈ bears r.marks := by simpa using (List.mem_filter.mp hg).2
    exact h5 (of_decide_eq_true h2)
def sp_sweep (C : Addr) : Sp := fun vs H Q _ => ∃ (p : Addr) (r : Mrk) (R : List U), vs = [.ref p] ∧ Has H (mrkU C p r :: R) ∧ r.wf ∧
  ∀ (ys : List Int) (d wa : Addr) H', ys.Perm r.gone → ys.Pairwise (· ≤ ·) → Has H' ([(d, .lst (ys.map V.int))] :: mrkU C p (r.swept.at wa) :: R) → Q (.ref d) H'
theorem pure_sweep {K : PySem.W.Frag} {C : Addr} (hC : MrkC K C) {vs : List V} {H : Hp} {Q : VK} {E : XK} (h : sp_sweep C vs H Q E) : t_Marks_sweep K C (sp_marked C) (sp_let_go C) ⟨fun _ H' => Q .non H', Q, fun _ _ => False, fun _ _ => False⟩ (start ["self", "bear", "found", "thing"] vs) H := by
  obtain ⟨p, r, R, rfl, hh, w, q⟩ := h
  obtain ⟨⟨cl, n1, n2, n3, n4⟩, m1, m2⟩ := hC
  have hp := (mrk_two.mp hh).g0
  have hwl := w.wl
  have hv9 := w.ok.v9
  unfold t_Marks_sweep
  walk_at "go"
  refine ⟨p, r, R, rfl, hh, w, fun bs bd H1 b1 b2 h1 => ?_⟩
  have h2 := mrk_cells (h1.sub (Sub.p1 (Sub.p0 Sub.rf)))
  clear hh hp h1
  have eb : ∀ z, decide (z ∈ bs) = decide (z ∈ bears r.marks) := fun z => by
    by_cases h : z ∈ bs
    · rw [decide_eq_true h, decide_eq_true ((b2 z).mp h)]
    · rw [decide_eq_false h, decide_eq_false fun z => h ((b2 _).mpr z)]
  walk_at "go"
  refine k_lcF r.waits V.int V.int (fun z => !decide (z ∈ bears r.marks)) h2 (fun H' h' => by walk_at "hp") (by omega) (fun z hz D M H' Q' h' q' => ?_) (fun z hz _ D M H' Q' h' q' => ?_) fun f H3 h3 => ?_
  · walk_at "go"
    rw [eb]
    exact q' H' h'
  · walk_at "go"
    exact q' H' h'
  walk_at "go"
  refine k_lcF r.waits V.int V.int (fun z => decide (z ∈ bears r.marks)) h3 (fun H' h' => by walk_at "hp") (by omega) (fun z hz D M H' Q' h' q' => ?_) (fun z hz _ D M H' Q' h' q' => ?_) fun wa H4 h4 => ?_
  · walk_at "go"
    rw [eb]
    exact q' H' h'
  · walk_at "go"
    exact q' H' h'
  clear h2 h3
  walk_at "go"
  rename_i H5 h5
  have h6 := Has.glue2 (h5.sub (show Sub ([(p, .ins C r.sto.dx (stF (.int r.sto.hands) (.ref r.sto.w) (.ref r.sto.c) (.int r.sto.vals.length) (mkX (.ref r.ma) (.ref wa))))] :: [(r.sto.w, dI (worthOf r.sto.vals r.sto.kept))] :: [(r.sto.c, .lst (r.sto.cells.map V.int))] :: _) _ by walk_at "sub"))
  refine ⟨p, f, _, r.sto, r.gone, _, rfl, h6.sub (show Sub (stoU C p (mkX (.ref r.ma) (.ref wa)) r.sto :: [(f, .lst (r.gone.map V.int))] :: _) _ by walk_at "sub"), mkX_ok, List.filter_sublist.nodup w.nw, fun k hk => (w.wk k (List.mem_filter.mp hk).1).1, fun ys d H7 p1 p2 h7 => ?_⟩
  walk_at "go"
  refine q ys d wa H7 p1 p2 ?_
  have h8 := Has.glue2 (h7.sub (show Sub ([(r.ma, dP (mv mref r.marks))] :: [(wa, .lst ((r.waits.filter fun z => decide (z ∈ bears r.marks)).map V.int))] :: r.bag :: _) _ by walk_at "sub"))
  have h9 := mrk_two (C := C) (p := p) (r := r.swept.at wa) |>.mpr (h8.sub (show Sub (stoU C p (mkX (.ref r.ma) (.ref wa)) (r.sto.less r.gone) :: _ :: _) _ by walk_at "sub"))
  exact h9.sub (by walk_at "sub")
/-- a swap, as the laws use it -/
def Mrk.swap (r : Mrk) (i v : Int) : Mrk := { r with sto := r.sto.swap i v, waits := r.waits ++ [r.sto.cells.getD i.toNat 0] }
def okM (r : Mrk) : Prop := r.wf ∧ r.sto.vals.length < 1000
abbrev sp_swapM (C : Addr) : Sp := sp_swap C (sp_mafter C)
abbrev sp_law_swapM (C : Addr) : Sp := sp__law_swap (mrkU C) (fun r => r.sto.cells) (fun r => r.sto.vals) Mrk.swap okM
theorem hob_M {C : Addr} : ∀ p (r : Mrk) R H, Has H (mrkU C p r :: R) → ∃ dx fs, H p = some (.ins C dx fs) ∧ fs.lookup ("swap" : Str) = none := fun p r R H h => ⟨_, _, (mrk_two.mp h).g0, mkX_ok.f4⟩
theorem hsw_M {C : Addr} : ∀ p (r : Mrk) (i v : Int) R H (Q : VK), Has H (mrkU C p r :: R) → okM r → 0 ≤ i → i < r.sto.cells.length → 0 ≤ v → v ≤ 999 → (∀ H', Has H' (mrkU C p (r.swap i v) :: R) → Q (.int (r.sto.cells.getD i.toNat 0)) H') → sp_swapM C [.ref p, .int i, .int v] H Q E0 :=
  fun p r i v R H Q h ok i0 i1 v0 v1 q => ⟨p, _, r.sto, i, v, _, rfl, mrk_two.mp h, mkX_ok, ok.1.ok, ok.2, i0, i1, v0, v1, fun H' Q' h' k => ⟨p, { r with sto := r.sto.swap i v }, _, R, rfl, mrk_two.mpr h', Nat.le_trans ok.1.wl (Nat.le_of_lt ok.2), fun H2 h2 => k _ _ (q H2 h2)⟩⟩
theorem Mrk.wf.swap {r : Mrk} (w : r.wf) {i v : Int} (i0 : 0 ≤ i) (i1 : i < r.sto.cells.length) (hv : r.sto.vals.length < 1000) : (r.swap i v).wf where
  ok := w.ok.swap i0 i1 hv
  nd := w.nd
  kr := w.kr
  h6 := w.h6
  bg := w.bg
  cr := fun q hq => by
    show _ ∧ q.2.cell < ((r.sto.cells.set _ _).length : Nat)
    rw [List.length_set]
    exact w.cr q hq
  su := fun q hq hs => List.mem_append.mpr (.inl (w.su q hq hs))
  nw := by
    refine nodup_snoc w.nw fun hm => ?_
    exact (w.wk _ hm).2 (getD_mem (by omega))
  wk := fun j hj => by
    have hnew : (r.sto.vals.length : Int) ∉ r.sto.kept := fun hk => by
      obtain ⟨_, h1⟩ := w.ok.made _ hk
      omega
    have hnc : (r.sto.vals.length : Int) ∉ r.sto.cells := fun hk => hnew (w.ok.here _ hk)
    show j ∈ r.sto.kept ++ [_] ∧ j ∉ r.sto.cells.set _ _
    rcases List.mem_append.mp hj with q | q
    · obtain ⟨h1, h2⟩ := w.wk j q
      refine ⟨List.mem_append.mpr (.inl h1), fun z => ?_⟩
      rcases List.mem_or_eq_of_mem_set z with e | e
      · exact h2 e
      · exact hnew (e ▸ h1)
    · have hlt : i.toNat < r.sto.cells.length := by omega
      rw [List.mem_singleton.mp q]
      exact ⟨List.mem_append.mpr (.inl (w.ok.here _ (getD_mem hlt))), set_old w.ok.cnd hnc hlt⟩
end La
namespace La
open PySem L2 Sy
local macro_rules | `(tactic| walk_at "fl") => `(tactic| first | assumption | exact stF_hands | exact stF_worth | exact stF_cells | exact stF_made | exact StX.f1 (by assumption) | exact StX.f2 (by assumption) | exact StX.f3 (by assumption) | exact StX.f4 (by assumption) | exact StX.f5 (by assumption) | exact StX.f6 (by assumption) | exact StX.f7 (by assumption) | exact StX.f8 (by assumption) | exact StX.f9 (by assumption))
local macro_rules | `(tactic| walk_at "fsl") => `(tactic| first | assumption | exact StX.fl (by assumption))
local macro_rules | `(tactic| walk_at "put") => `(tactic| first | exact stF_put_made | exact stF_put_cells | exact stF_put_worth | exact stF_put_hands)
def t_Counts_init (K : PySem.W.Frag) (C_Store : Addr) (sp_Counts__Store_init : Sp) : TS :=
  tSeq (tDrop (tCFn C_Store sp_Counts__Store_init [] E0 (tC (.ref C_Store)) (tCons (tVar 0) (tCons (tVar 1) (tCons (tVar 2) (tNil))))))
    (sFld K (tVar 0) (tDNewT) "held")
def t_Counts_count_of (K : PySem.W.Frag) : TS :=
  tRet (tCB (rSum K) (tCons (tLockE (tLc (iKeys (tFld K (tVar 0) "held")) (gName 2) (tTest (tOp rEq (tOp (rIxT K) (tVar 2) (tC (.int 1))) (tVar 1))) (tDGet (tFld K (tVar 0) "held") (tVar 2)) [2])) (tNil)))
def t_Counts_hold (K : PySem.W.Frag) (C_Counts : Addr) (sp_Counts__Store_look_hand sp_Counts__Store_look_cell : Sp) : TS :=
  tSeq (tDrop (tMeth C_Counts "look_hand" sp_Counts__Store_look_hand [] E0 (tVar 0) (tCons (tVar 1) (tNil))))
    (tSeq (tDrop (tMeth C_Counts "look_cell" sp_Counts__Store_look_cell [] E0 (tVar 0) (tCons (tVar 2) (tNil))))
    (tSeq (tAsg (tOp (rIxL K) (tFld K (tVar 0) "cells") (tVar 2)) (gName 3))
    (tSeq (sDPut (tFld K (tVar 0) "held") (tTup (tCons (tVar 1) (tCons (tVar 3) (tNil)))) (tOp rAddI (tDGet2 (tFld K (tVar 0) "held") (tTup (tCons (tVar 1) (tCons (tVar 3) (tNil)))) (tC (.int 0))) (tC (.int 1))))
    (tRet (tVar 3)))))
def t_Counts_look_held (K : PySem.W.Frag) (C_Counts : Addr) (sp_Counts__Store_look_hand : Sp) : TS :=
  tSeq (tDrop (tMeth C_Counts "look_hand" sp_Counts__Store_look_hand [] E0 (tVar 0) (tCons (tVar 1) (tNil))))
    (tIfS (tOr (tB (tCB (rIsi K) (tCons (tVar 2) (tCons (tC (.ty "bool")) (tNil))))) (tOr (tNot (tB (tCB (rIsi K) (tCons (tVar 2) (tCons (tC (.ty "int")) (tNil)))))) (tB (tDNotIn (tTup (tCons (tVar 1) (tCons (tVar 2) (tNil)))) (tFld K (tVar 0) "held"))))) (tNever) (tNext))
def t_Counts_read (K : PySem.W.Frag) (C_Counts : Addr) (sp_Counts__Counts_look_held sp_Counts__Store_value_of : Sp) : TS :=
  tSeq (tDrop (tMeth C_Counts "look_held" sp_Counts__Counts_look_held [] E0 (tVar 0) (tCons (tVar 1) (tCons (tVar 2) (tNil)))))
    (tRet (tMeth C_Counts "value_of" sp_Counts__Store_value_of [] E0 (tVar 0) (tCons (tVar 2) (tNil))))
def t_Counts_drop (K : PySem.W.Frag) (C_Counts : Addr) (sp_Counts__Counts_look_held sp_Counts__Counts_loose : Sp) : TS :=
  tSeq (tDrop (tMeth C_Counts "look_held" sp_Counts__Counts_look_held [] E0 (tVar 0) (tCons (tVar 1) (tCons (tVar 2) (tNil)))))
    (tSeq (sDPut (tFld K (tVar 0) "held") (tTup (tCons (tVar 1) (tCons (tVar 2) (tNil)))) (tOp rSubI (tDGet (tFld K (tVar 0) "held") (tTup (tCons (tVar 1) (tCons (tVar 2) (tNil))))) (tC (.int 1))))
    (tSeq (tIfS (tTest (tOp rEq (tDGet (tFld K (tVar 0) "held") (tTup (tCons (tVar 1) (tCons (tVar 2) (tNil))))) (tC (.int 0)))) (tDrop (tDPopT (tFld K (tVar 0) "held") (tTup (tCons (tVar 1) (tCons (tVar 2) (tNil)))))) (tNext))
    (tRet (tMeth C_Counts "loose" sp_Counts__Counts_loose [] E0 (tVar 0) (tCons (tVar 2) (tNil))))))
def t_Counts_loose (K : PySem.W.Frag) (C_Counts : Addr) (sp_Counts__Counts_count_of sp_Counts__Store_is_out sp_Counts__Store_let_go : Sp) : TS :=
  tSeq (tIfS (tOr (tTest (tOp rGtI (tMeth C_Counts "count_of" sp_Counts__Counts_count_of [] E0 (tVar 0) (tCons (tVar 1) (tNil))) (tC (.int 0)))) (tNot (tB (tMeth C_Counts "is_out" sp_Counts__Store_is_out [] E0 (tVar 0) (tCons (tVar 1) (tNil)))))) (tRet (tC (.bl false))) (tNext))
    (tSeq (tDrop (tMeth C_Counts "let_go" sp_Counts__Store_let_go [] E0 (tVar 0) (tCons (tLst (tCons (tVar 1) (tNil))) (tNil))))
    (tRet (tC (.bl true))))
def t_Counts_after_swap (K : PySem.W.Frag) (C_Counts : Addr) (sp_Counts__Counts_loose : Sp) : TS :=
  tDrop (tMeth C_Counts "loose" sp_Counts__Counts_loose [] E0 (tVar 0) (tCons (tVar 1) (tNil)))
def t_Counts_holds (K : PySem.W.Frag) (C_Counts : Addr) (sp_Counts__Store_look_hand : Sp) : TS :=
  tSeq (tDrop (tMeth C_Counts "look_hand" sp_Counts__Store_look_hand [] E0 (tVar 0) (tCons (tVar 1) (tNil))))
    (tRet (tCB (rSortedPO K) (tCons (tLockE (tLc (iKeys (tFld K (tVar 0) "held")) (gTup K 2 (gCons (gName 2) (gCons (gName 3) (gNil)))) (tTest (tOp rEq (tVar 2) (tVar 1))) (tTup (tCons (tVar 3) (tCons (tDGet (tFld K (tVar 0) "held") (tTup (tCons (tVar 2) (tCons (tVar 3) (tNil))))) (tNil)))) [2, 3])) (tNil))))
def ctX (v0 : V) : List (Str × V) := [("held", v0)]
theorem ct_held {h w c m v0 : V} : (stF h w c m (ctX v0)).lookup ("held" : Str) = some v0 := by kernel_rfl
theorem ct_put_held {h w c m v0 u : V} : putF "held" u (stF h w c m (ctX v0)) = stF h w c m (ctX u) := by kernel_rfl
theorem ct_m_count_of {h w c m v0 : V} : (stF h w c m (ctX v0)).lookup ("count_of" : Str) = none := by kernel_rfl
theorem ct_m_hold {h w c m v0 : V} : (stF h w c m (ctX v0)).lookup ("hold" : Str) = none := by kernel_rfl
theorem ct_m_look_held {h w c m v0 : V} : (stF h w c m (ctX v0)).lookup ("look_held" : Str) = none := by kernel_rfl
theorem ct_m_read {h w c m v0 : V} : (stF h w c m (ctX v0)).lookup ("read" : Str) = none := by kernel_rfl
theorem ct_m_drop {h w c m v0 : V} : (stF h w c m (ctX v0)).lookup ("drop" : Str) = none := by kernel_rfl
theorem ct_m_loose {h w c m v0 : V} : (stF h w c m (ctX v0)).lookup ("loose" : Str) = none := by kernel_rfl
theorem ct_m_holds {h w c m v0 : V} : (stF h w c m (ctX v0)).lookup ("holds" : Str) = none := by kernel_rfl
theorem ctX_ok {v0 : V} : StX (ctX v0) := ⟨by show 1 < 900; decide, by kernel_rfl, by kernel_rfl, by kernel_rfl, by kernel_rfl, by kernel_rfl, by kernel_rfl, by kernel_rfl, by kernel_rfl, by kernel_rfl⟩
theorem ct_p1 {h w c m  u : V} : putF "held" u (stF h w c m []) = stF h w c m (ctX u) := by kernel_rfl
local macro_rules | `(tactic| walk_at "fl") => `(tactic| first | assumption | exact stF_hands | exact stF_worth | exact stF_cells | exact stF_made | exact ct_held | exact ct_m_count_of | exact ct_m_hold | exact ct_m_look_held | exact ct_m_read | exact ct_m_drop | exact ct_m_loose | exact ct_m_holds | exact StX.f1 ctX_ok | exact StX.f2 ctX_ok | exact StX.f3 ctX_ok | exact StX.f4 ctX_ok | exact StX.f5 ctX_ok | exact StX.f6 ctX_ok | exact StX.f7 ctX_ok | exact StX.f8 ctX_ok | exact StX.f9 ctX_ok)
local macro_rules | `(tactic| walk_at "put") => `(tactic| first | exact ct_put_held | exact stF_put_made | exact stF_put_cells | exact stF_put_worth | exact stF_put_hands)
local macro_rules | `(tactic| walk_at "fsl") => `(tactic| first | assumption | exact StX.fl ctX_ok)
/-! ### counts -/
structure CntC (K : PySem.W.Frag) (C : Addr) : Prop where
  st : StoreC K C
  n1 : NoAttr K C "held"
abbrev Hld := List ((Int × Int) × Int)
structure Cnt where
  sto : Sto
  ha : Addr
  held : Hld
abbrev ctx (r : Cnt) : List (Str × V) := ctX (.ref r.ha)
def cdU (r : Cnt) : U := [(r.ha, dP (mv V.int r.held))]
def cntU (C p : Addr) (r : Cnt) : U := stoU C p (ctx r) r.sto ++ cdU r
theorem cnt_two {H : Hp} {C p : Addr} {r : Cnt} {R : List U} : Has H (cntU C p r :: R) ↔ Has H (stoU C p (ctx r) r.sto :: cdU r :: R) := Has.op
theorem cnt_cells {H : Hp} {C p : Addr} {r : Cnt} {R : List U} (h : Has H (cntU C p r :: R)) :
    Has H ([(p, .ins C r.sto.dx (stF (.int r.sto.hands) (.ref r.sto.w) (.ref r.sto.c) (.int r.sto.vals.length) (ctx r)))] :: [(r.sto.w, dI (worthOf r.sto.vals r.sto.kept))] :: [(r.sto.c, .lst (r.sto.cells.map V.int))] :: [(r.ha, dP (mv V.int r.held))] :: R) := (cnt_two.mp h).cut2
theorem cnt_of {H : Hp} {C p : Addr} {r : Cnt} {R : List U} (h :
    Has H ([(p, .ins C r.sto.dx (stF (.int r.sto.hands) (.ref r.sto.w) (.ref r.sto.c) (.int r.sto.vals.length) (ctx r)))] :: [(r.sto.w, dI (worthOf r.sto.vals r.sto.kept))] :: [(r.sto.c, .lst (r.sto.cells.map V.int))] :: [(r.ha, dP (mv V.int r.held))] :: R)) : Has H (cntU C p r :: R) := cnt_two.mpr (Has.glue2 h)
/-- what is held of a thing in all -/
def tot (m : Hld) (z : Int) : Int := ((m.filter fun q => decide (q.1.2 = z)).map (·.2)).sum
structure Cnt.wf (r : Cnt) : Prop where
  ok : r.sto.ok
  nd : (r.held.map (·.1)).Nodup
  kr : ∀ q ∈ r.held, 0 ≤ q.1.1 ∧ q.1.1 < r.sto.hands
  ps : ∀ q ∈ r.held, 1 ≤ q.2
  hk : ∀ q ∈ r.held, q.1.2 ∈ r.sto.kept
  ll : r.held.length ≤ 1000
theorem tot_pos {m : Hld} (ps : ∀ q ∈ m, 1 ≤ q.2) (z : Int) : (0 < tot m z ↔ ∃ q ∈ m, q.1.2 = z) ∧ 0 ≤ tot m z := by
  induction m with
  | nil => exact ⟨⟨fun h => absurd h (show ¬ (0 : Int) < 0 by decide), fun ⟨q, hq, _⟩ => absurd hq List.not_mem_nil⟩, Int.le_refl _⟩
  | cons a r ih =>
    obtain ⟨i1, i2⟩ := ih fun q hq => ps q (List.mem_cons_of_mem _ hq)
    have h1 := ps a (List.mem_cons.mpr (.inl rfl))
    unfold tot at i1 i2 ⊢
    by_cases e : a.1.2 = z
    · rw [List.filter_cons, if_pos (decide_eq_true e), List.map_cons, List.sum_cons]
      exact ⟨⟨fun _ => ⟨a, List.mem_cons.mpr (.inl rfl), e⟩, fun _ => by omega⟩, by omega⟩
    · rw [List.filter_cons, if_neg (by simp [e])]
      refine ⟨i1.trans ⟨fun ⟨q, hq, h⟩ => ⟨q, List.mem_cons_of_mem _ hq, h⟩, fun ⟨q, hq, h⟩ => ?_⟩, i2⟩
      rcases List.mem_cons.mp hq with h2 | h2
      · exact absurd (h2 ▸ h) e
      · exact ⟨q, h2, h⟩
def Cnt.new (s : Sto) (ha : Addr) : Cnt := ⟨s, ha, []⟩
def sp_cinit (C : Addr) : Sp := fun vs H Q _ => ∃ (p dx : Addr) (h n : Int) (R : List U), vs = [.ref p, .int h, .int n] ∧ Has H ([(p, .ins C dx [])] :: R) ∧ 1 ≤ h ∧ h ≤ 6 ∧ 1 ≤ n ∧ n ≤ 5 ∧
  ∀ w c ha H', Has H' (cntU C p (Cnt.new (Sto.new dx w c h n) ha) :: R) → Q .non H'
section
local macro_rules | `(tactic| walk_at "put") => `(tactic| first | exact ct_p1)
local macro_rules | `(tactic| walk_at "fsl") => `(tactic| first | assumption | (show 4 < 1000; decide))
theorem pure_cinit {K : PySem.W.Frag} {C CS : Addr} (hC : CntC K C) {vs : List V} {H : Hp} {Q : VK} {E : XK} (h : sp_cinit C vs H Q E) : t_Counts_init K CS (sp_init C) ⟨fun _ H' => Q .non H', Q, fun _ _ => False, fun _ _ => False⟩ (start ["self", "hands", "cells"] vs) H := by
  obtain ⟨p, dx, h, n, R, rfl, hh, h1, h6, n1', n5, q⟩ := h
  obtain ⟨⟨cl, n1, n2, n3, n4⟩, m1⟩ := hC
  unfold t_Counts_init
  walk_at "go"
  refine ⟨p, dx, h, n, R, rfl, hh, h1, h6, n1', n5, fun w c H1 hh1 => ?_⟩
  replace hh1 := hh1.cut2
  walk_at "go"
  rename_i ha H3 h3 H4 h4
  refine q w c ha H4 (cnt_of (Has.sub h4 ?_))
  show Sub ([(p, .ins C dx (stF (.int h) (.ref w) (.ref c) (.int (Sto.new dx w c h n).vals.length) (ctX (.ref ha))))] :: [(w, dI (worthOf (Sto.new dx w c h n).vals (rgI n)))] :: [(c, .lst ((rgI n).map V.int))] :: [(ha, dP [])] :: R) _
  walk_at "sub"
end
theorem Cnt.new_wf {dx w c ha : Addr} {h n : Int} (h1 : 1 ≤ n) (h5 : n ≤ 5) : (Cnt.new (Sto.new dx w c h n) ha).wf :=
  ⟨Sto.new_ok h1 h5, List.nodup_nil, fun k hk => absurd hk List.not_mem_nil, fun k hk => absurd hk List.not_mem_nil, fun k hk => absurd hk List.not_mem_nil, Nat.zero_le _⟩
def sp_is_out (C : Addr) : Sp := fun vs H Q _ => ∃ (p : Addr) (x : List (Str × V)) (s : Sto) (z : Int) (R : List U), vs = [.ref p, .int z] ∧ Has H (stoU C p x s :: R) ∧ StX x ∧ Q (.bl (!decide (z ∈ s.cells))) H
section
local macro_rules | `(tactic| walk_at "fl") => `(tactic| first | assumption | exact stF_hands | exact stF_worth | exact stF_cells | exact stF_made)
theorem pure_is_out {K : PySem.W.Frag} {C : Addr} (hC : StoreC K C) {vs : List V} {H : Hp} {Q : VK} {E : XK} (h : sp_is_out C vs H Q E) : t_Store_is_out K ⟨fun _ H' => Q .non H', Q, fun _ _ => False, fun _ _ => False⟩ (start ["self", "thing"] vs) H := by
  obtain ⟨p, x, s, z, R, rfl, hh, hx, q⟩ := h
  obtain ⟨cl, n1, n2, n3, n4⟩ := hC
  replace hh := hh.cut2
  unfold t_Store_is_out
  walk_at "go"
  exact q
end
def sp_count_of (C : Addr) : Sp := fun vs H Q _ => ∃ (p : Addr) (r : Cnt) (z : Int) (R : List U), vs = [.ref p, .int z] ∧ Has H (cntU C p r :: R) ∧ (r.held.map (·.1)).Nodup ∧ r.held.length ≤ 1000 ∧
  ∀ H', Has H' (cntU C p r :: R) → Q (.int (tot r.held z)) H'
theorem pure_count_of {K : PySem.W.Frag} {C : Addr} (hC : CntC K C) {vs : List V} {H : Hp} {Q : VK} {E : XK} (h : sp_count_of C vs H Q E) : t_Counts_count_of K ⟨fun _ H' => Q .non H', Q, fun _ _ => False, fun _ _ => False⟩ (start ["self", "thing", "one"] vs) H := by
  obtain ⟨p, r, z, R, rfl, hh, nd, hl, q⟩ := h
  obtain ⟨⟨cl, n1, n2, n3, n4⟩, m1⟩ := hC
  have h3 := cnt_cells hh
  clear hh
  unfold t_Counts_count_of
  walk_at "go"
  refine x_lcT (d := r.ha) (fun k => .int ((fd r.held k).getD 0)) (fun k => decide (k.2 = z)) (fun q k => [some (.ref p), some (.int z), some (.ref q)]) (h3.sub (Sub.p3 Sub.rf)) (by rw [mv_len]; omega) (fun q z hz => rfl) (fun oo H' Q' h' q' => ?_) (fun oo q k hz D M H' Q' hq h' q' => ?_) (fun oo q k hz D M H' Q' hq h' q' => ?_) (fun oo q k hz _ D M H' Q' hq h' q' => ?_) fun D H2 h2 => ?_
  · walk_at "go"
    exact q'
  · walk_at "go"
    exact q'
  · walk_at "go"
    exact q' H' hq h'
  · rw [mv_keys] at hz
    obtain ⟨v, hv⟩ := Option.isSome_iff_exists.mp (fd_isSome.mpr hz)
    have hv2 : valV (mv V.int r.held) (k.1, k.2) = some (.int v) := mv_some hv
    walk_at "go"
    rw [hv] at q'
    exact q' H' h'
  · have e : ((((mv V.int r.held).map (·.1)).filter fun k => decide (k.2 = z)).map fun k => V.int ((fd r.held k).getD 0)) = ((r.held.filter fun q => decide (q.1.2 = z)).map (·.2)).map V.int := by
      rw [mv_keys, List.filter_map, List.map_map, List.map_map]
      refine List.map_congr_left fun q hq => ?_
      show V.int ((fd r.held q.1).getD 0) = V.int q.2
      rw [fd_of nd (show (q.1, q.2) ∈ r.held from (List.mem_filter.mp hq).1)]
      rfl
    rw [e] at h2
    walk_at "go"
    refine q H2 ?_
    exact cnt_of (h2.sub (show Sub ([(p, _)] :: [(r.sto.w, _)] :: [(r.sto.c, _)] :: [(r.ha, _)] :: R) _ by walk_at "sub"))
def sp_hold (C : Addr) : Sp := fun vs H Q _ => ∃ (p : Addr) (r : Cnt) (k c : Int) (R : List U), vs = [.ref p, .int k, .int c] ∧ Has H (cntU C p r :: R) ∧ r.held.length < 1000 ∧ 0 ≤ k ∧ k < r.sto.hands ∧ 0 ≤ c ∧ c < r.sto.cells.length ∧
  ∀ H', Has H' (cntU C p { r with held := pu r.held (k, r.sto.cells.getD c.toNat 0) ((fd r.held (k, r.sto.cells.getD c.toNat 0)).getD 0 + 1) } :: R) → Q (.int (r.sto.cells.getD c.toNat 0)) H'
theorem pure_hold {K : PySem.W.Frag} {C : Addr} (hC : CntC K C) {vs : List V} {H : Hp} {Q : VK} {E : XK} (h : sp_hold C vs H Q E) : t_Counts_hold K C (sp_look_hand C) (sp_look_cell C) ⟨fun _ H' => Q .non H', Q, fun _ _ => False, fun _ _ => False⟩ (start ["self", "hand", "cell", "thing"] vs) H := by
  obtain ⟨p, r, k, c, R, rfl, hh, hl, k0, k1, c0, c1, q⟩ := h
  obtain ⟨⟨cl, n1, n2, n3, n4⟩, m1⟩ := hC
  have h2 := cnt_two.mp hh
  have h3 := cnt_cells hh
  have e1 : (mv V.int r.held).length < sizeLine := by rw [mv_len, sizeLine_eq]; omega
  have ea := at_ints c0 c1
  unfold t_Counts_hold
  walk_at "go"
  refine ⟨p, _, r.sto, k, _, rfl, h2, ctX_ok, k0, k1, ?_⟩
  walk_at "go"
  refine ⟨p, _, r.sto, c, _, rfl, h2, ctX_ok, c0, c1, ?_⟩
  clear hh h2
  walk_at "go"
  rename_i b1 H1 g1
  have ev : (valV (mv V.int r.held) (k, r.sto.cells.getD c.toNat 0)).getD (.int 0) = .int ((fd r.held (k, r.sto.cells.getD c.toNat 0)).getD 0) := by
    rw [mv_val]
    cases fd r.held (k, r.sto.cells.getD c.toNat 0) <;> rfl
  rw [ev]
  walk_at "go"
  rename_i b2 H2 g2 H3 g3
  refine q H3 (cnt_of ?_)
  rw [show V.int ((fd r.held (k, r.sto.cells.getD c.toNat 0)).getD 0 + 1) = V.int ((fd r.held (k, r.sto.cells.getD c.toNat 0)).getD 0 + 1) from rfl, mv_put] at g3
  exact g3.sub (show Sub ([(p, _)] :: [(r.sto.w, _)] :: [(r.sto.c, _)] :: [(r.ha, _)] :: R) _ by walk_at "sub")
def sp_look_held (C : Addr) : Sp := fun vs H Q _ => ∃ (p : Addr) (r : Cnt) (k z : Int) (R : List U), vs = [.ref p, .int k, .int z] ∧ Has H (cntU C p r :: R) ∧ 0 ≤ k ∧ k < r.sto.hands ∧ (fd r.held (k, z)).isSome = true ∧ ∀ H', Has H' (cntU C p r :: R) → Q .non H'
theorem pure_look_held {K : PySem.W.Frag} {C : Addr} (hC : CntC K C) {vs : List V} {H : Hp} {Q : VK} {E : XK} (h : sp_look_held C vs H Q E) : t_Counts_look_held K C (sp_look_hand C) ⟨fun _ H' => Q .non H', Q, fun _ _ => False, fun _ _ => False⟩ (start ["self", "hand", "thing"] vs) H := by
  obtain ⟨p, r, k, z, R, rfl, hh, k0, k1, hi, q⟩ := h
  obtain ⟨⟨cl, n1, n2, n3, n4⟩, m1⟩ := hC
  have h2 := cnt_two.mp hh
  have h3 := cnt_cells hh
  unfold t_Counts_look_held
  walk_at "go"
  refine ⟨p, _, r.sto, k, _, rfl, h2, ctX_ok, k0, k1, ?_⟩
  clear hh h2
  walk_at "go"
  rename_i b1 H1 g1
  rw [mv_isSome, hi]
  walk_at "go"
  exact q H1 (cnt_of (g1.sub (Sub.skip Sub.rf)))
def sp_cread (C : Addr) : Sp := fun vs H Q _ => ∃ (p : Addr) (r : Cnt) (k z : Int) (R : List U), vs = [.ref p, .int k, .int z] ∧ Has H (cntU C p r :: R) ∧ 0 ≤ k ∧ k < r.sto.hands ∧ (fd r.held (k, z)).isSome = true ∧ z ∈ r.sto.kept ∧ ∀ H', Has H' (cntU C p r :: R) → Q (.int (r.sto.vals.getD z.toNat 0)) H'
theorem pure_cread {K : PySem.W.Frag} {C : Addr} (hC : CntC K C) {vs : List V} {H : Hp} {Q : VK} {E : XK} (h : sp_cread C vs H Q E) : t_Counts_read K C (sp_look_held C) (sp_value_of C) ⟨fun _ H' => Q .non H', Q, fun _ _ => False, fun _ _ => False⟩ (start ["self", "hand", "thing"] vs) H := by
  obtain ⟨p, r, k, z, R, rfl, hh, k0, k1, hi, hz, q⟩ := h
  obtain ⟨⟨cl, n1, n2, n3, n4⟩, m1⟩ := hC
  have hp := (cnt_two.mp hh).g0
  unfold t_Counts_read
  walk_at "go"
  refine ⟨p, r, k, z, _, rfl, hh, k0, k1, hi, fun H1 h1 => ?_⟩
  have hp := (cnt_two.mp h1).g0
  walk_at "go"
  refine ⟨p, _, r.sto, z, _, rfl, cnt_two.mp h1, ctX_ok, hz, ?_⟩
  walk_at "go"
  exact q H1 h1
def sp_loose (C : Addr) : Sp := fun vs H Q _ => ∃ (p : Addr) (r : Cnt) (z : Int) (R : List U), vs = [.ref p, .int z] ∧ Has H (cntU C p r :: R) ∧ (r.held.map (·.1)).Nodup ∧ r.held.length ≤ 1000 ∧ (∀ q ∈ r.held, 1 ≤ q.2) ∧ z ∈ r.sto.kept ∧
  (((∃ q ∈ r.held, q.1.2 = z) ∨ z ∈ r.sto.cells) → ∀ H', Has H' (cntU C p r :: R) → Q (.bl false) H') ∧
  (¬ ((∃ q ∈ r.held, q.1.2 = z) ∨ z ∈ r.sto.cells) → ∀ H', Has H' (cntU C p { r with sto := r.sto.less [z] } :: R) → Q (.bl true) H')
theorem pure_loose {K : PySem.W.Frag} {C : Addr} (hC : CntC K C) {vs : List V} {H : Hp} {Q : VK} {E : XK} (h : sp_loose C vs H Q E) : t_Counts_loose K C (sp_count_of C) (sp_is_out C) (sp_let_go C) ⟨fun _ H' => Q .non H', Q, fun _ _ => False, fun _ _ => False⟩ (start ["self", "thing"] vs) H := by
  obtain ⟨p, r, z, R, rfl, hh, nd, hl, ps, hz, q1, q2⟩ := h
  obtain ⟨⟨cl, n1, n2, n3, n4⟩, m1⟩ := hC
  have hp := (cnt_two.mp hh).g0
  obtain ⟨t1, t2⟩ := tot_pos ps z
  unfold t_Counts_loose
  walk_at "go"
  refine ⟨p, r, z, _, rfl, hh, nd, hl, fun H1 h1 => ?_⟩
  have hp := (cnt_two.mp h1).g0
  walk_at "go"
  refine ifD (fun b1 => ?_) (fun b1 => ?_)
  · walk_at "go"
    exact q1 (.inl (t1.mp b1)) H1 h1
  · walk_at "go"
    refine ⟨p, _, r.sto, z, _, rfl, cnt_two.mp h1, ctX_ok, ?_⟩
    by_cases hc : z ∈ r.sto.cells
    · rw [decide_eq_true hc, show (!true) = false from rfl]
      walk_at "go"
      exact q1 (.inr hc) H1 h1
    · rw [decide_eq_false hc, show (!false) = true from rfl]
      walk_at "go"
      rename_i f H2 h2
      have h3 := cnt_two.mp (h2.sub (show Sub (cntU C p r :: _) _ by walk_at "sub"))
      refine ⟨p, f, _, r.sto, [z], _, rfl, h3.sub (show Sub (stoU C p (ctx r) r.sto :: [(f, _)] :: _) _ by walk_at "sub"), ctX_ok, List.pairwise_singleton _ _, fun k hk => by rw [List.mem_singleton.mp hk]; exact hz, fun ys d H4 _ _ h4 => ?_⟩
      walk_at "go"
      refine q2 (fun h => ?_) H4 ?_
      · rcases h with h | h
        · exact b1 (t1.mpr h)
        · exact hc h
      · have h5 := (cnt_two (C := C) (p := p) (r := { r with sto := r.sto.less [z] })).mpr (h4.sub (show Sub (stoU C p (ctx r) (r.sto.less [z]) :: cdU r :: R) _ by walk_at "sub"))
        exact h5
def sp_cafter (C : Addr) : Sp := fun vs H Q E => ∃ (p : Addr) (z : Int), vs = [.ref p, .int z] ∧ sp_loose C vs H (fun _ H' => Q .non H') E
theorem pure_cafter {K : PySem.W.Frag} {C : Addr} (hC : CntC K C) {vs : List V} {H : Hp} {Q : VK} {E : XK} (h : sp_cafter C vs H Q E) : t_Counts_after_swap K C (sp_loose C) ⟨fun _ H' => Q .non H', Q, fun _ _ => False, fun _ _ => False⟩ (start ["self", "thing"] vs) H := by
  obtain ⟨p0, z0, e, p, r, z, R, rfl, hh, nd, hl, ps, hz, q1, q2⟩ := h
  have hp := (cnt_two.mp hh).g0
  unfold t_Counts_after_swap
  walk_at "go"
  refine ⟨p, r, z, R, rfl, hh, nd, hl, ps, hz, fun h H' h' => ?_, fun h H' h' => ?_⟩
  · walk_at "go"
    exact q1 h H' h'
  · walk_at "go"
    exact q2 h H' h'
theorem rm_pu {κ β : Type} [DecidableEq κ] (m : List (κ × β)) (k : κ) (b : β) : rm (pu m k b) k = rm m k := by
  unfold pu
  split
  · unfold rm
    induction m with
    | nil => rfl
    | cons a r ih =>
      rename_i h
      rw [List.map_cons]
      by_cases e : a.1 = k
      · rw [if_pos e, List.filter_cons, if_neg (by simp [e]), List.filter_cons, if_neg (by simp [e])]
        by_cases hr : (fd r k).isSome = true
        · exact ih hr
        · have hk : k ∉ r.map (·.1) := fun z => hr (fd_isSome.mpr z)
          congr 1
          refine (List.map_congr_left (g := id) fun q hq => ?_).trans (List.map_id r)
          rw [if_neg (show ¬ q.1 = k from fun z => hk (z ▸ List.mem_map.mpr ⟨q, hq, rfl⟩))]
          rfl
      · rw [if_neg e, List.filter_cons, if_pos (by simp [e]), List.filter_cons, if_pos (by simp [e])]
        rw [fd_neg e] at h
        rw [ih h]
  · unfold rm
    rw [List.filter_append, List.filter_cons, if_neg (by simp)]
    simp
def dn (m : Hld) (k z n : Int) : Hld := if n = 1 then rm m (k, z) else pu m (k, z) (n - 1)
theorem dn_nd {m : Hld} {k z n : Int} (h : (m.map (·.1)).Nodup) : ((dn m k z n).map (·.1)).Nodup := by
  unfold dn
  split
  · exact rm_nodup h
  · exact pu_nd _ h
theorem dn_mem {m : Hld} {k z n : Int} {q : (Int × Int) × Int} (h : q ∈ dn m k z n) : q ∈ m ∨ (q = ((k, z), n - 1) ∧ n ≠ 1) := by
  unfold dn at h
  split at h
  · exact .inl (rm_mem.mp h).1
  · rename_i hn
    rcases pu_mem h with h | h
    · exact .inl h
    · exact .inr ⟨h, hn⟩
theorem pu_len'' {κ β : Type} [DecidableEq κ] {m : List (κ × β)} {k : κ} (b : β) (h : (fd m k).isSome = true) : (pu m k b).length = m.length := by
  unfold pu
  rw [if_pos h, List.length_map]
def sp_drop (C : Addr) : Sp := fun vs H Q _ => ∃ (p : Addr) (r : Cnt) (k z n : Int) (R : List U), vs = [.ref p, .int k, .int z] ∧ Has H (cntU C p r :: R) ∧ r.wf ∧ 0 ≤ k ∧ k < r.sto.hands ∧ fd r.held (k, z) = some n ∧
  (((∃ q ∈ dn r.held k z n, q.1.2 = z) ∨ z ∈ r.sto.cells) → ∀ H', Has H' (cntU C p { r with held := dn r.held k z n } :: R) → Q (.bl false) H') ∧
  (¬ ((∃ q ∈ dn r.held k z n, q.1.2 = z) ∨ z ∈ r.sto.cells) → ∀ H', Has H' (cntU C p { r with held := dn r.held k z n, sto := r.sto.less [z] } :: R) → Q (.bl true) H')
theorem pure_drop {K : PySem.W.Frag} {C : Addr} (hC : CntC K C) {vs : List V} {H : Hp} {Q : VK} {E : XK} (h : sp_drop C vs H Q E) : t_Counts_drop K C (sp_look_held C) (sp_loose C) ⟨fun _ H' => Q .non H', Q, fun _ _ => False, fun _ _ => False⟩ (start ["self", "hand", "thing"] vs) H := by
  obtain ⟨p, r, k, z, n, R, rfl, hh, w, k0, k1, hf, q1, q2⟩ := h
  obtain ⟨⟨cl, n1, n2, n3, n4⟩, m1⟩ := hC
  have hp := (cnt_two.mp hh).g0
  have hl := w.ll
  have e1 : (mv V.int r.held).length < sizeLine := by rw [mv_len, sizeLine_eq]; omega
  have hv : valV (mv V.int r.held) (k, z) = some (.int n) := mv_some hf
  have hs : (fd r.held (k, z)).isSome = true := by rw [hf]; rfl
  have hz : z ∈ r.sto.kept := w.hk _ (fd_mem hf)
  have hn : 1 ≤ n := w.ps _ (fd_mem hf)
  unfold t_Counts_drop
  walk_at "go"
  refine ⟨p, r, k, z, _, rfl, hh, k0, k1, hs, fun H1 h1 => ?_⟩
  have h2 := cnt_cells h1
  clear hh h1 hp
  walk_at "go"
  rename_i b1 H2 g1 b2 H3 g2 H4 g3 b3 H5 g4
  have hv2 : valV (putK (mv V.int r.held) (k, z) (.int (n - 1))) (k, z) = some (.int (n - 1)) := by rw [mv_put, mv_val, fd_pu, if_pos rfl]; rfl
  clear h2 g1 g2 g3
  walk_at "go"
  refine ifD (fun c1 => ?_) (fun c1 => ?_)
  · walk_at "go"
    rename_i b4 H6 g5 H7 g6
    have e : n = 1 := by omega
    have ed : dn r.held k z n = rm r.held (k, z) := by unfold dn; rw [if_pos e]
    rw [mv_put, mv_drop, rm_pu, ← ed] at g6
    have h8 := cnt_of (C := C) (p := p) (r := { r with held := dn r.held k z n }) (g6.sub (show Sub ([(p, _)] :: [(r.sto.w, _)] :: [(r.sto.c, _)] :: [(r.ha, _)] :: R) _ by walk_at "sub"))
    have hp := (cnt_two.mp h8).g0
    clear g4 g5 g6
    walk_at "go"
    refine ⟨p, { r with held := dn r.held k z n }, z, R, rfl, h8, dn_nd w.nd, ?_, fun q hq => ?_, hz, fun h H' h' => ?_, fun h H' h' => ?_⟩
    · show (dn r.held k z n).length ≤ 1000
      rw [ed]
      exact Nat.le_trans (rm_len _ _) hl
    · rcases dn_mem hq with h | h
      · exact w.ps q h
      · exact absurd e h.2
    · walk_at "go"
      exact q1 h H' h'
    · walk_at "go"
      exact q2 h H' h'
  · have e : ¬ n = 1 := by omega
    have ed : dn r.held k z n = pu r.held (k, z) (n - 1) := by unfold dn; rw [if_neg e]
    rw [mv_put, ← ed] at g4
    have h8 := cnt_of (C := C) (p := p) (r := { r with held := dn r.held k z n }) (g4.sub (show Sub ([(p, _)] :: [(r.sto.w, _)] :: [(r.sto.c, _)] :: [(r.ha, _)] :: R) _ by walk_at "sub"))
    have hp := (cnt_two.mp h8).g0
    clear g4
    walk_at "go"
    refine ⟨p, { r with held := dn r.held k z n }, z, R, rfl, h8, dn_nd w.nd, ?_, fun q hq => ?_, hz, fun h H' h' => ?_, fun h H' h' => ?_⟩
    · show (dn r.held k z n).length ≤ 1000
      rw [ed, pu_len'' _ hs]
      exact hl
    · rcases dn_mem hq with h | h
      · exact w.ps q h
      · rw [h.1]
        show 1 ≤ n - 1
        omega
    · walk_at "go"
      exact q1 h H' h'
    · walk_at "go"
      exact q2 h H' h'
theorem Has.unitPerm {H : Hp} {A B : U} {L : List U} (h : Has H (A :: L)) (p : A.Perm B) : Has H (B :: L) := by
  obtain ⟨n, a⟩ := h
  have p2 : (A :: L).flatten.Perm (B :: L).flatten := List.Perm.append_right _ p
  exact ⟨(p2.map _).nodup_iff.mp n, fun q hq => a q (p2.mem_iff.mpr hq)⟩
/-- what a hand holds: the thing, how often -/
def mine (m : Hld) (k : Int) : List (Int × Int) := (m.filter fun q => decide (q.1.1 = k)).map fun q => (q.1.2, q.2)
def sp_holds (C : Addr) : Sp := fun vs H Q _ => ∃ (p : Addr) (r : Cnt) (k : Int) (R : List U), vs = [.ref p, .int k] ∧ Has H (cntU C p r :: R) ∧ (r.held.map (·.1)).Nodup ∧ r.held.length ≤ 1000 ∧ 0 ≤ k ∧ k < r.sto.hands ∧
  ∀ (ys : Prs) (d : Addr) H', (ys.map (·.2)).Perm (mine r.held k) → (ys.map (·.2)).Pairwise leP → Has H' ([(d, .lst (prR ys))] :: prU ys :: cntU C p r :: R) → Q (.ref d) H'
theorem pure_holds {K : PySem.W.Frag} {C : Addr} (hC : CntC K C) {vs : List V} {H : Hp} {Q : VK} {E : XK} (h : sp_holds C vs H Q E) : t_Counts_holds K C (sp_look_hand C) ⟨fun _ H' => Q .non H', Q, fun _ _ => False, fun _ _ => False⟩ (start ["self", "hand", "one", "thing"] vs) H := by
  obtain ⟨p, r, k, R, rfl, hh, nd, hl, k0, k1, q⟩ := h
  obtain ⟨⟨cl, n1, n2, n3, n4⟩, m1⟩ := hC
  have h2 := cnt_two.mp hh
  have h3 := cnt_cells hh
  unfold t_Counts_holds
  walk_at "go"
  refine ⟨p, _, r.sto, k, _, rfl, h2, ctX_ok, k0, k1, ?_⟩
  clear hh h2
  walk_at "go"
  refine x_lcTN (d := r.ha) obP (fun z => (z.2, (fd r.held z).getD 0)) (fun z => decide (z.1 = k)) (fun q z => [some (.ref p), some (.int k), some (.int z.1), some (.int z.2)]) (h3.sub (Sub.p3 Sub.rf)) (by rw [mv_len]; omega) (fun q z hz => rfl) (fun oo H' Q' h' q' => ?_) (fun oo q z hz D m H' Q' hq h' q' => ?_) (fun oo q z hz D m H' Q' hq h' q' => ?_) (fun oo q z hz _ D m H' Q' hq h' q' => ?_) fun D m H2 em h2 => ?_
  · walk_at "go"
    exact q'
  · refine x_gtup hq rfl ?_
    walk_at "go"
    exact q'
  · walk_at "go"
    exact q' H' hq h'
  · rw [mv_keys] at hz
    obtain ⟨v, hv⟩ := Option.isSome_iff_exists.mp (fd_isSome.mpr hz)
    have hv2 : valV (mv V.int r.held) (z.1, z.2) = some (.int v) := mv_some hv
    walk_at "go"
    rename_i b1 H3 g3 b2 H4 g4
    rw [hv] at q'
    exact q' b2 H4 (g4.sub (Sub.p0 (Sub.skip Sub.rf)))
  · have e : ((((mv V.int r.held).map (·.1)).filter fun z => decide (z.1 = k)).map fun z => (z.2, (fd r.held z).getD 0)) = mine r.held k := by
      unfold mine
      rw [mv_keys, List.filter_map, List.map_map]
      refine List.map_congr_left fun q hq => ?_
      show (q.1.2, (fd r.held q.1).getD 0) = (q.1.2, q.2)
      rw [fd_of nd (show (q.1, q.2) ∈ r.held from (List.mem_filter.mp hq).1)]
      rfl
    rw [e] at em
    walk_at "go"
    refine k_sortP (h2.sub (show Sub (prU m :: _) _ by walk_at "sub")) h2.g0 fun ys d H4 py sy h4 => ?_
    refine q ys d H4 (by rw [← em]; exact py.map _) sy ?_
    have h5 := Has.unitPerm (h4.sub (show Sub (prU m :: _) _ by walk_at "sub")) (show (prU m).Perm (prU ys) from (py.map _).symm)
    have h6 := cnt_of (C := C) (p := p) (r := r) (h5.sub (show Sub ([(p, _)] :: [(r.sto.w, _)] :: [(r.sto.c, _)] :: [(r.ha, _)] :: _) _ by walk_at "sub"))
    exact h6.sub (show Sub ([(d, _)] :: prU ys :: cntU C p r :: R) _ by walk_at "sub")
def Cnt.hasd (r : Cnt) (z : Int) : Bool := r.held.any fun q => decide (q.1.2 = z)
def Cnt.swap (r : Cnt) (i v : Int) : Cnt := { r with sto := if r.hasd (r.sto.cells.getD i.toNat 0) then r.sto.swap i v else (r.sto.swap i v).less [r.sto.cells.getD i.toNat 0] }
def okC (r : Cnt) : Prop := r.wf ∧ r.sto.vals.length < 1000
abbrev sp_swapC (C : Addr) : Sp := sp_swap C (sp_cafter C)
abbrev sp_law_swapC (C : Addr) : Sp := sp__law_swap (cntU C) (fun r => r.sto.cells) (fun r => r.sto.vals) Cnt.swap okC
theorem hob_C {C : Addr} : ∀ p (r : Cnt) R H, Has H (cntU C p r :: R) → ∃ dx fs, H p = some (.ins C dx fs) ∧ fs.lookup ("swap" : Str) = none := fun p r R H h => ⟨_, _, (cnt_two.mp h).g0, ctX_ok.f4⟩
theorem hasd_iff {r : Cnt} {z : Int} : r.hasd z = true ↔ ∃ q ∈ r.held, q.1.2 = z := by
  unfold Cnt.hasd
  rw [List.any_eq_true]
  exact ⟨fun ⟨q, h1, h2⟩ => ⟨q, h1, of_decide_eq_true h2⟩, fun ⟨q, h1, h2⟩ => ⟨q, h1, decide_eq_true h2⟩⟩
theorem swap_out {s : Sto} (ok : s.ok) {i v : Int} (i0 : 0 ≤ i) (i1 : i < s.cells.length) : s.cells.getD i.toNat 0 ∉ (s.swap i v).cells := by
  have hnew : (s.vals.length : Int) ∉ s.kept := fun hk => by
    obtain ⟨_, h1⟩ := ok.made _ hk
    omega
  exact set_old ok.cnd (fun hk => hnew (ok.here _ hk)) (by omega)
theorem hsw_C {C : Addr} : ∀ p (r : Cnt) (i v : Int) R H (Q : VK), Has H (cntU C p r :: R) → okC r → 0 ≤ i → i < r.sto.cells.length → 0 ≤ v → v ≤ 999 → (∀ H', Has H' (cntU C p (r.swap i v) :: R) → Q (.int (r.sto.cells.getD i.toNat 0)) H') → sp_swapC C [.ref p, .int i, .int v] H Q E0 :=
  fun p r i v R H Q h ok i0 i1 v0 v1 q => ⟨p, _, r.sto, i, v, _, rfl, cnt_two.mp h, ctX_ok, ok.1.ok, ok.2, i0, i1, v0, v1, fun H' Q' h' k =>
    ⟨p, r.sto.cells.getD i.toNat 0, rfl, p, { r with sto := r.sto.swap i v }, r.sto.cells.getD i.toNat 0, R, rfl, cnt_two.mpr h', ok.1.nd, ok.1.ll, ok.1.ps, List.mem_append.mpr (.inl (ok.1.ok.here _ (getD_mem (by omega)))), fun hc H2 h2 => k _ _ (q H2 (by
        have hx : r.hasd (r.sto.cells.getD i.toNat 0) = true := hasd_iff.mpr (hc.resolve_right (swap_out ok.1.ok i0 i1))
        unfold Cnt.swap
        rw [hx]
        exact h2)), fun hc H2 h2 => k _ _ (q H2 (by
        have hx : r.hasd (r.sto.cells.getD i.toNat 0) = false := by
          cases e : r.hasd (r.sto.cells.getD i.toNat 0) with
          | false => rfl
          | true => exact absurd (.inl (hasd_iff.mp e)) hc
        unfold Cnt.swap
        rw [hx]
        exact h2))⟩⟩
end La
namespace La
open PySem L2 Sy
def t_Versions_init (K : PySem.W.Frag) (sp_look_number : Sp) : TS :=
  tSeq (tDrop (tCall sp_look_number [] E0 (tCons (tVar 1) (tCons (tC (.int 1)) (tCons (tC (.int 6)) (tNil))))))
    (tSeq (tDrop (tCall sp_look_number [] E0 (tCons (tVar 2) (tCons (tC (.int 1)) (tCons (tC (.int 5)) (tNil))))))
    (tSeq (sFld K (tVar 0) (tVar 1) "hands")
    (tSeq (sFld K (tVar 0) (tLc (iRng1 (tCons (tVar 2) (tNil))) (gName 3) tYes (tLst (tCons (tTup (tCons (tC (.int 0)) (tCons (tC (.int 0)) (tNil)))) (tNil))) [3]) "rows")
    (tSeq (sFld K (tVar 0) (tC (.int 0)) "version")
    (tSeq (sFld K (tVar 0) (tDNewK) "begun")
    (sFld K (tVar 0) (tDNewK) "asked"))))))
def t_Versions_look_hand (K : PySem.W.Frag) (sp_is_whole : Sp) : TS :=
  tIfS (tNot (tB (tCall sp_is_whole [] E0 (tCons (tVar 1) (tCons (tC (.int 0)) (tCons (tOp rSubI (tFld K (tVar 0) "hands") (tC (.int 1))) (tNil))))))) (tNever) (tNext)
def t_Versions_look_in (K : PySem.W.Frag) (C_Versions : Addr) (sp_Versions__Versions_look_hand : Sp) : TS :=
  tSeq (tDrop (tMeth C_Versions "look_hand" sp_Versions__Versions_look_hand [] E0 (tVar 0) (tCons (tVar 1) (tNil))))
    (tIfS (tB (tDNotIn (tVar 1) (tFld K (tVar 0) "begun"))) (tNever) (tNext))
def t_Versions_look_cell (K : PySem.W.Frag) (sp_is_whole : Sp) : TS :=
  tIfS (tNot (tB (tCall sp_is_whole [] E0 (tCons (tVar 1) (tCons (tC (.int 0)) (tCons (tOp rSubI (tCB (rLenQ K) (tCons (tFld K (tVar 0) "rows") (tNil))) (tC (.int 1))) (tNil))))))) (tNever) (tNext)
def t_Versions_look_pairs (K : PySem.W.Frag) (sp_is_whole : Sp) : TS :=
  tSeq (tAsg (tAndV (tCB (rIsi K) (tCons (tVar 1) (tCons (tC (.ty "list")) (tNil)))) (tOp (rNeD K) (tVar 1) (tLst (tNil)))) (gName 2))
    (tSeq (tIfS (tOr (tNot (tB (tVar 2))) (tNot (tB (tCB (rAll K) (tCons (tLc (iList K (tVar 1)) (gName 3) tYes (tAndV (tCB (rIsi K) (tCons (tVar 3) (tCons (tC (.ty "tuple")) (tNil)))) (tOp rEq (tCB (rLenQ K) (tCons (tVar 3) (tNil))) (tC (.int 2)))) [3]) (tNil)))))) (tNever) (tNext))
    (tSeq (tIfS (tNot (tB (tCB (rAll K) (tCons (tLc (iList K (tVar 1)) (gName 3) tYes (tAndV (tCall sp_is_whole [] E0 (tCons (tOp (rIxT K) (tVar 3) (tC (.int 0))) (tCons (tC (.int 0)) (tCons (tOp rSubI (tCB (rLenQ K) (tCons (tFld K (tVar 0) "rows") (tNil))) (tC (.int 1))) (tNil))))) (tCall sp_is_whole [] E0 (tCons (tOp (rIxT K) (tVar 3) (tC (.int 1))) (tCons (tC (.int 0)) (tCons (tC (.int 999)) (tNil)))))) [3]) (tNil))))) (tNever) (tNext))
    (tSeq (tAsg (tLc (iList K (tVar 1)) (gTup K 2 (gCons (gName 5) (gCons (gName 6) (gNil)))) tYes (tVar 5) [5, 6]) (gName 4))
    (tIfS (tTest (tOp (rNeD K) (tSSet K (tCons (tVar 4) (tNil))) (tVar 4))) (tNever) (tNext)))))
def t_Versions_begin (K : PySem.W.Frag) (C_Versions : Addr) (sp_Versions__Versions_look_hand : Sp) : TS :=
  tSeq (tDrop (tMeth C_Versions "look_hand" sp_Versions__Versions_look_hand [] E0 (tVar 0) (tCons (tVar 1) (tNil))))
    (tSeq (tIfS (tB (tDIn (tVar 1) (tFld K (tVar 0) "begun"))) (tNever) (tNext))
    (tSeq (sDPut (tFld K (tVar 0) "begun") (tVar 1) (tFld K (tVar 0) "version"))
    (tSeq (sDPut (tFld K (tVar 0) "asked") (tVar 1) (tLst (tNil)))
    (tRet (tFld K (tVar 0) "version")))))
def t_Versions_finish (K : PySem.W.Frag) (C_Versions : Addr) (sp_Versions__Versions_look_in : Sp) : TS :=
  tSeq (tDrop (tMeth C_Versions "look_in" sp_Versions__Versions_look_in [] E0 (tVar 0) (tCons (tVar 1) (tNil))))
    (tSeq (tDrop (tDPop1 (tFld K (tVar 0) "begun") (tVar 1)))
    (tDrop (tDPop1 (tFld K (tVar 0) "asked") (tVar 1))))
def t_Versions_value_at (K : PySem.W.Frag) : TS :=
  tRet (tOp (rIxL K) (tLc (iList K (tOp (rIxL K) (tFld K (tVar 0) "rows") (tVar 1))) (gTup K 2 (gCons (gName 3) (gCons (gName 4) (gNil)))) (tTest (tOp rLeI (tVar 3) (tVar 2))) (tVar 4) [3, 4]) (tUn (rU fun i => .int (-i)) (tC (.int 1))))
def t_Versions_read (K : PySem.W.Frag) (C_Versions : Addr) (sp_Versions__Versions_look_in sp_Versions__Versions_look_cell sp_Versions__Versions_value_at : Sp) : TS :=
  tSeq (tDrop (tMeth C_Versions "look_in" sp_Versions__Versions_look_in [] E0 (tVar 0) (tCons (tVar 1) (tNil))))
    (tSeq (tDrop (tMeth C_Versions "look_cell" sp_Versions__Versions_look_cell [] E0 (tVar 0) (tCons (tVar 2) (tNil))))
    (tSeq (tDrop (tBM K "list" rAppend (tDGet (tFld K (tVar 0) "asked") (tVar 1)) (tCons (tVar 2) (tNil))))
    (tRet (tMeth C_Versions "value_at" sp_Versions__Versions_value_at [] E0 (tVar 0) (tCons (tVar 2) (tCons (tDGet (tFld K (tVar 0) "begun") (tVar 1)) (tNil)))))))
def t_Versions_write (K : PySem.W.Frag) (C_Versions : Addr) (sp_Versions__Versions_look_pairs : Sp) : TS :=
  tSeq (tDrop (tMeth C_Versions "look_pairs" sp_Versions__Versions_look_pairs [] E0 (tVar 0) (tCons (tVar 1) (tNil))))
    (tSeq (sFld K (tVar 0) (tOp rAddI (tFld K (tVar 0) "version") (tC (.int 1))) "version")
    (tSeq (tFor (iList K (tVar 1)) (gTup K 2 (gCons (gName 2) (gCons (gName 3) (gNil)))) (tDrop (tBM K "list" rAppend (tOp (rIxL K) (tFld K (tVar 0) "rows") (tVar 2)) (tCons (tTup (tCons (tFld K (tVar 0) "version") (tCons (tVar 3) (tNil)))) (tNil)))))
    (tRet (tFld K (tVar 0) "version"))))
def t_Versions_trim (K : PySem.W.Frag) : TS :=
  tSeq (tAsg (tSSet K (tCons (tOp rCat (tListVals (tFld K (tVar 0) "begun")) (tLst (tCons (tFld K (tVar 0) "version") (tNil)))) (tNil))) (gName 1))
    (tSeq (tAsg (tC (.int 0)) (gName 2))
    (tSeq (tFor (iRng1 (tCons (tCB (rLenQ K) (tCons (tFld K (tVar 0) "rows") (tNil))) (tNil))) (gName 3) (tSeq (tAsg (tOp (rIxL K) (tFld K (tVar 0) "rows") (tVar 3)) (gName 4))
    (tSeq (tAsg (tLc (iList K (tVar 1)) (gName 8) tYes (tCB (rMax K) (tCons (tLc (iList K (tVar 4)) (gTup K 2 (gCons (gName 6) (gCons (gName 7) (gNil)))) (tTest (tOp rLeI (tVar 6) (tVar 8))) (tVar 6) [6, 7]) (tNil))) [8]) (gName 5))
    (tSeq (tAsg (tLc (iList K (tVar 4)) (gName 9) (tTest (tOp (rIn K false) (tOp (rIxT K) (tVar 9) (tC (.int 0))) (tVar 5))) (tVar 9) [9]) (gSub (tFld K (tVar 0) "rows") (tVar 3) rSetL))
    (tAsg (tOp rSubI (tOp rAddI (tVar 2) (tCB (rLenQ K) (tCons (tVar 4) (tNil)))) (tCB (rLenQ K) (tCons (tOp (rIxL K) (tFld K (tVar 0) "rows") (tVar 3)) (tNil)))) (gName 2))))))
    (tRet (tVar 2))))
def t_Versions_kept (K : PySem.W.Frag) (C_Versions : Addr) (sp_Versions__Versions_look_cell : Sp) : TS :=
  tSeq (tDrop (tMeth C_Versions "look_cell" sp_Versions__Versions_look_cell [] E0 (tVar 0) (tCons (tVar 1) (tNil))))
    (tRet (tLc (iList K (tOp (rIxL K) (tFld K (tVar 0) "rows") (tVar 1))) (gTup K 2 (gCons (gName 2) (gCons (gName 3) (gNil)))) tYes (tVar 2) [2, 3]))
def t_Versions_now (K : PySem.W.Frag) : TS :=
  tRet (tLc (iList K (tFld K (tVar 0) "rows")) (gName 1) tYes (tOp (rIxT K) (tOp (rIxL K) (tVar 1) (tUn (rU fun i => .int (-i)) (tC (.int 1)))) (tC (.int 1))) [1])
def t_Versions_version_now (K : PySem.W.Frag) : TS :=
  tRet (tFld K (tVar 0) "version")
def veF (v0 v1 v2 v3 v4 : V) : List (Str × V) := [("hands", v0), ("rows", v1), ("version", v2), ("begun", v3), ("asked", v4)]
theorem ve_hands {v0 v1 v2 v3 v4 : V} : (veF v0 v1 v2 v3 v4).lookup ("hands" : Str) = some v0 := by kernel_rfl
theorem ve_put_hands {v0 v1 v2 v3 v4 u : V} : putF "hands" u (veF v0 v1 v2 v3 v4) = veF u v1 v2 v3 v4 := by kernel_rfl
theorem ve_rows {v0 v1 v2 v3 v4 : V} : (veF v0 v1 v2 v3 v4).lookup ("rows" : Str) = some v1 := by kernel_rfl
theorem ve_put_rows {v0 v1 v2 v3 v4 u : V} : putF "rows" u (veF v0 v1 v2 v3 v4) = veF v0 u v2 v3 v4 := by kernel_rfl
theorem ve_version {v0 v1 v2 v3 v4 : V} : (veF v0 v1 v2 v3 v4).lookup ("version" : Str) = some v2 := by kernel_rfl
theorem ve_put_version {v0 v1 v2 v3 v4 u : V} : putF "version" u (veF v0 v1 v2 v3 v4) = veF v0 v1 u v3 v4 := by kernel_rfl
theorem ve_begun {v0 v1 v2 v3 v4 : V} : (veF v0 v1 v2 v3 v4).lookup ("begun" : Str) = some v3 := by kernel_rfl
theorem ve_put_begun {v0 v1 v2 v3 v4 u : V} : putF "begun" u (veF v0 v1 v2 v3 v4) = veF v0 v1 v2 u v4 := by kernel_rfl
theorem ve_asked {v0 v1 v2 v3 v4 : V} : (veF v0 v1 v2 v3 v4).lookup ("asked" : Str) = some v4 := by kernel_rfl
theorem ve_put_asked {v0 v1 v2 v3 v4 u : V} : putF "asked" u (veF v0 v1 v2 v3 v4) = veF v0 v1 v2 v3 u := by kernel_rfl
theorem ve_m_look_hand {v0 v1 v2 v3 v4 : V} : (veF v0 v1 v2 v3 v4).lookup ("look_hand" : Str) = none := by kernel_rfl
theorem ve_m_look_in {v0 v1 v2 v3 v4 : V} : (veF v0 v1 v2 v3 v4).lookup ("look_in" : Str) = none := by kernel_rfl
theorem ve_m_look_cell {v0 v1 v2 v3 v4 : V} : (veF v0 v1 v2 v3 v4).lookup ("look_cell" : Str) = none := by kernel_rfl
theorem ve_m_look_pairs {v0 v1 v2 v3 v4 : V} : (veF v0 v1 v2 v3 v4).lookup ("look_pairs" : Str) = none := by kernel_rfl
theorem ve_m_begin {v0 v1 v2 v3 v4 : V} : (veF v0 v1 v2 v3 v4).lookup ("begin" : Str) = none := by kernel_rfl
theorem ve_m_finish {v0 v1 v2 v3 v4 : V} : (veF v0 v1 v2 v3 v4).lookup ("finish" : Str) = none := by kernel_rfl
theorem ve_m_value_at {v0 v1 v2 v3 v4 : V} : (veF v0 v1 v2 v3 v4).lookup ("value_at" : Str) = none := by kernel_rfl
theorem ve_m_read {v0 v1 v2 v3 v4 : V} : (veF v0 v1 v2 v3 v4).lookup ("read" : Str) = none := by kernel_rfl
theorem ve_m_write {v0 v1 v2 v3 v4 : V} : (veF v0 v1 v2 v3 v4).lookup ("write" : Str) = none := by kernel_rfl
theorem ve_m_commit {v0 v1 v2 v3 v4 : V} : (veF v0 v1 v2 v3 v4).lookup ("commit" : Str) = none := by kernel_rfl
theorem ve_m_trim {v0 v1 v2 v3 v4 : V} : (veF v0 v1 v2 v3 v4).lookup ("trim" : Str) = none := by kernel_rfl
theorem ve_m_kept {v0 v1 v2 v3 v4 : V} : (veF v0 v1 v2 v3 v4).lookup ("kept" : Str) = none := by kernel_rfl
theorem ve_m_now {v0 v1 v2 v3 v4 : V} : (veF v0 v1 v2 v3 v4).lookup ("now" : Str) = none := by kernel_rfl
theorem ve_m_version_now {v0 v1 v2 v3 v4 : V} : (veF v0 v1 v2 v3 v4).lookup ("version_now" : Str) = none := by kernel_rfl
theorem ve_p1 { u : V} : putF "hands" u ([] : List (Str × V)) = ([("hands", u)] : List (Str × V)) := by kernel_rfl
theorem ve_p2 {v0 u : V} : putF "rows" u ([("hands", v0)] : List (Str × V)) = ([("hands", v0), ("rows", u)] : List (Str × V)) := by kernel_rfl
theorem ve_p3 {v0 v1 u : V} : putF "version" u ([("hands", v0), ("rows", v1)] : List (Str × V)) = ([("hands", v0), ("rows", v1), ("version", u)] : List (Str × V)) := by kernel_rfl
theorem ve_p4 {v0 v1 v2 u : V} : putF "begun" u ([("hands", v0), ("rows", v1), ("version", v2)] : List (Str × V)) = ([("hands", v0), ("rows", v1), ("version", v2), ("begun", u)] : List (Str × V)) := by kernel_rfl
theorem ve_p5 {v0 v1 v2 v3 u : V} : putF "asked" u ([("hands", v0), ("rows", v1), ("version", v2), ("begun", v3)] : List (Str × V)) = ((veF v0 v1 v2 v3 u) : List (Str × V)) := by kernel_rfl
theorem ve_len {v0 v1 v2 v3 v4 : V} : (veF v0 v1 v2 v3 v4).length < 1000 := by show 5 < 1000; decide
local macro_rules | `(tactic| walk_at "fl") => `(tactic| first | assumption | exact ve_hands | exact ve_rows | exact ve_version | exact ve_begun | exact ve_asked | kernel_rfl)
local macro_rules | `(tactic| walk_at "put") => `(tactic| first | exact ve_put_hands | exact ve_put_rows | exact ve_put_version | exact ve_put_begun | exact ve_put_asked | exact ve_p1 | exact ve_p2 | exact ve_p3 | exact ve_p4 | exact ve_p5)
local macro_rules | `(tactic| walk_at "fsl") => `(tactic| first | assumption | exact ve_len | (show 0 < 1000; decide) | (show 1 < 1000; decide) | (show 2 < 1000; decide) | (show 3 < 1000; decide) | (show 4 < 1000; decide))
/-! ### versions -/
structure VeC (K : PySem.W.Frag) (C : Addr) : Prop where
  cl : Cls K C
  n1 : NoAttr K C "hands"
  n2 : NoAttr K C "rows"
  n3 : NoAttr K C "version"
  n4 : NoAttr K C "begun"
  n5 : NoAttr K C "asked"
def obA (q : Addr × List Int) : U := [(q.1, .lst (q.2.map V.int))]
def asR (q : Addr × List Int) : V := .ref q.1
def obRow (m : Prs) : HO := .lst (fmR m)
abbrev VRows := List (Addr × Prs)
structure Ver where
  dx : Addr
  ra : Addr
  ba : Addr
  qa : Addr
  hands : Int
  version : Int
  rows : VRows
  begun : List (Int × Int)
  asked : List (Int × (Addr × List Int))
  bag : Prs
def veO (C : Addr) (s : Ver) : HO := .ins C s.dx (veF (.int s.hands) (.ref s.ra) (.int s.version) (.ref s.ba) (.ref s.qa))
def verU (C p : Addr) (s : Ver) : U := (p, .ins C s.dx (veF (.int s.hands) (.ref s.ra) (.int s.version) (.ref s.ba) (.ref s.qa))) :: (s.ra, .lst (fmR s.rows)) :: (s.ba, dI (mv V.int s.begun)) :: (s.qa, dI (mv asR s.asked)) :: (fmU obRow s.rows ++ (famU obA s.asked ++ prU s.bag))
theorem ve_cut {H : Hp} {C p : Addr} {s : Ver} {R : List U} (h : Has H (verU C p s :: R)) : Has H ([(p, .ins C s.dx (veF (.int s.hands) (.ref s.ra) (.int s.version) (.ref s.ba) (.ref s.qa)))] :: [(s.ra, .lst (fmR s.rows))] :: [(s.ba, dI (mv V.int s.begun))] :: [(s.qa, dI (mv asR s.asked))] :: fmU obRow s.rows :: famU obA s.asked :: prU s.bag :: R) := by
  have h1 := Has.cut3 h
  have h2 := Has.cut (h1.sub (Sub.p3 Sub.rf))
  have h3 := Has.op.mp (h2.sub (Sub.p1 Sub.rf))
  have h4 := Has.op.mp (h3.sub (Sub.p1 Sub.rf))
  exact h4.sub (Sub.p4 (Sub.p4 (Sub.p4 (Sub.p3 (Sub.p2 (Sub.p0 (Sub.p0 Sub.rf)))))))
theorem ve_in {H : Hp} {C p : Addr} {s : Ver} {R : List U} (h : Has H ([(p, .ins C s.dx (veF (.int s.hands) (.ref s.ra) (.int s.version) (.ref s.ba) (.ref s.qa)))] :: [(s.ra, .lst (fmR s.rows))] :: [(s.ba, dI (mv V.int s.begun))] :: [(s.qa, dI (mv asR s.asked))] :: fmU obRow s.rows :: famU obA s.asked :: prU s.bag :: R)) : Has H (verU C p s :: R) := by
  have h1 := Has.op.mpr (h.sub (show Sub (famU obA s.asked :: prU s.bag :: fmU obRow s.rows :: _) _ from Sub.p5 (Sub.p5 (Sub.p4 Sub.rf))))
  have h2 := Has.op.mpr (h1.sub (show Sub (fmU obRow s.rows :: (_ ++ _) :: _) _ from Sub.p1 (Sub.p0 Sub.rf)))
  have h3 := Has.glue (h2.sub (show Sub ([(s.qa, _)] :: (_ ++ _) :: _) _ from Sub.p4 (Sub.p0 Sub.rf)))
  exact Has.glue3 (h3.sub (show Sub ([(p, _)] :: [(s.ra, _)] :: [(s.ba, _)] :: _ :: R) _ from Sub.p1 (Sub.p1 (Sub.p1 (Sub.p0 Sub.rf)))))
/-- what stands in the rows -/
def absR (rows : VRows) : List (List (Int × Int)) := rows.map fun r => r.2.map (·.2)
structure Ver.wf (s : Ver) : Prop where
  l0 : 0 < s.rows.length
  l5 : s.rows.length ≤ 5
  bg : ∀ r ∈ s.rows, ∀ q ∈ r.2, q ∈ s.bag
  v0 : 0 ≤ s.version
  v9 : s.version ≤ 500
  rl : ∀ r ∈ s.rows, (r.2.length : Int) ≤ s.version + 1
  kb : s.asked.map (·.1) = s.begun.map (·.1)
  nd : (s.begun.map (·.1)).Nodup
  bl : s.begun.length ≤ 500
def sp_vinit (C : Addr) : Sp := fun vs H Q _ => ∃ (p dx : Addr) (h n : Int) (R : List U), vs = [.ref p, .int h, .int n] ∧ Has H ([(p, .ins C dx [])] :: R) ∧ 1 ≤ h ∧ h ≤ 6 ∧ 1 ≤ n ∧ n ≤ 5 ∧
  ∀ (s : Ver) H', s.hands = h → s.version = 0 → s.begun = [] → s.asked = [] → absR s.rows = List.replicate n.toNat [(0, 0)] → s.wf → Has H' (verU C p s :: R) → Q .non H'
theorem pure_vinit {K : PySem.W.Frag} {C : Addr} (hC : VeC K C) {vs : List V} {H : Hp} {Q : VK} {E : XK} (h : sp_vinit C vs H Q E) : t_Versions_init K sp_look_number ⟨fun _ H' => Q .non H', Q, fun _ _ => False, fun _ _ => False⟩ (start ["self", "hands", "cells", "cell"] vs) H := by
  obtain ⟨p, dx, h, n, R, rfl, hh, h1, h6, m1, m5, q⟩ := h
  obtain ⟨cl, n1, n2, n3, n4, n5⟩ := hC
  unfold t_Versions_init
  walk_at "go"
  refine ⟨h, 1, 6, rfl, h1, h6, ?_⟩
  walk_at "go"
  refine ⟨n, 1, 5, rfl, m1, m5, ?_⟩
  walk_at "go"
  rename_i H1 g1
  refine k_lcR (L := [(p, .ins C dx [("hands", .int h)])] :: R) g1 (fun D i H' => ∃ (rows : VRows) (bag : Prs), rows.length = i ∧ absR rows = List.replicate i [(0, 0)] ∧ (∀ r ∈ rows, ∀ q ∈ r.2, q ∈ bag) ∧ Has H' ([(D, .lst (fmR rows))] :: fmU obRow rows :: prU bag :: [(p, .ins C dx [("hands", .int h)])] :: R)) (by omega) (fun D H' h' => ⟨[], [], rfl, rfl, fun r hr => absurd hr List.not_mem_nil, ?_⟩) (fun D i H' hi h' => ?_) (fun D H' h' => ?_)
  · exact (Has.nilU.mpr (Has.nilU.mpr h')).sub (show Sub ([(D, .lst [])] :: [] :: [] :: _) _ from Sub.p2 (Sub.p0 (Sub.p0 Sub.rf)))
  · obtain ⟨rows, bag, e1, e2, e3, h'⟩ := h'
    refine x_gname ⟨rfl, x_yes (ifT ?_)⟩
    walk_at "go"
    rename_i tp H2 g2 la H3 g3
    refine ⟨_, g3.g2, by rw [sizeLine_eq]; unfold fmR; rw [List.length_map]; omega, rows ++ [(la, [(tp, (0, 0))])], bag ++ [(tp, (0, 0))], ?_, ?_, fun r hr q hq => ?_, ?_⟩
    · rw [List.length_append, e1]; rfl
    · unfold absR at e2 ⊢
      rw [List.map_append, e2, List.replicate_succ']
      rfl
    · rcases List.mem_append.mp hr with hr | hr
      · exact List.mem_append.mpr (.inl (e3 r hr q hq))
      · rw [List.mem_singleton.mp hr] at hq
        exact List.mem_append.mpr (.inr hq)
    · have g4 : Has (upd H3 D (.lst (fmR rows ++ [.ref la]))) ([(la, obRow [(tp, (0, 0))])] :: [(tp, obP (0, 0))] :: [(D, .lst (fmR rows ++ [.ref la]))] :: fmU obRow rows :: prU bag :: _) := g3.s2
      rw [fmR_snoc, fmU_snoc]
      unfold prU
      rw [fmU_snoc]
      have g5 := Has.op.mpr (g4.sub (show Sub (fmU obRow rows :: [(la, obRow [(tp, (0, 0))])] :: _) _ from Sub.p3 (Sub.p0 Sub.rf)))
      have g6 := Has.op.mpr (g5.sub (show Sub (prU bag :: [(tp, obP (0, 0))] :: _) _ from Sub.p3 (Sub.p1 Sub.rf)))
      exact g6.sub (show Sub ([(D, _)] :: (_ ++ _) :: (_ ++ _) :: _) _ from Sub.p2 (Sub.p1 (Sub.p0 Sub.rf)))
  · obtain ⟨rows, bag, e1, e2, e3, h'⟩ := h'
    walk_at "go"
    rename_i H2 g2 H3 g3 ba H4 g4 H5 g5 qa H6 g6 H7 g7
    refine q ⟨dx, D, ba, qa, h, 0, rows, [], [], bag⟩ H7 rfl rfl rfl rfl e2 ⟨?_, ?_, e3, Int.le_refl _, (by show (0 : Int) ≤ 500; omega), fun r hr => ?_, rfl, List.nodup_nil, Nat.zero_le _⟩ (ve_in ?_)
    · show 0 < rows.length; omega
    · show rows.length ≤ 5; omega
    · have hm : r.2.map (·.2) ∈ absR rows := List.mem_map.mpr ⟨r, hr, rfl⟩
      rw [e2] at hm
      have := congrArg List.length (List.eq_of_mem_replicate hm)
      rw [List.length_map] at this
      show (r.2.length : Int) ≤ 0 + 1
      rw [this]
      show (1 : Int) ≤ 0 + 1
      omega
    · have g8 := Has.nilU.mpr g7
      exact g8.sub (show Sub ([(p, _)] :: [(D, _)] :: [(ba, dI (mv V.int []))] :: [(qa, dI (mv asR []))] :: fmU obRow rows :: famU obA [] :: prU bag :: R) _ by walk_at "sub")
def sp_vlook_hand (C : Addr) : Sp := fun vs H Q _ => ∃ (p : Addr) (s : Ver) (k : Int) (R : List U), vs = [.ref p, .int k] ∧ Has H (verU C p s :: R) ∧ 0 ≤ k ∧ k < s.hands ∧ Q .non H
theorem pure_vlook_hand {K : PySem.W.Frag} {C : Addr} (hC : VeC K C) {vs : List V} {H : Hp} {Q : VK} {E : XK} (h : sp_vlook_hand C vs H Q E) : t_Versions_look_hand K sp_is_whole ⟨fun _ H' => Q .non H', Q, fun _ _ => False, fun _ _ => False⟩ (start ["self", "hand"] vs) H := by
  obtain ⟨p, s, k, R, rfl, hh, c0, c1, q⟩ := h
  obtain ⟨cl, n1, n2, n3, n4, n5⟩ := hC
  replace hh := ve_cut hh
  unfold t_Versions_look_hand
  walk_at "go"
  refine ⟨k, 0, _, rfl, ?_⟩
  rw [decide_eq_true (by omega)]
  walk_at "go"
  exact q
def sp_vlook_in (C : Addr) : Sp := fun vs H Q _ => ∃ (p : Addr) (s : Ver) (k : Int) (R : List U), vs = [.ref p, .int k] ∧ Has H (verU C p s :: R) ∧ 0 ≤ k ∧ k < s.hands ∧ (fd s.begun k).isSome = true ∧ Q .non H
theorem pure_vlook_in {K : PySem.W.Frag} {C : Addr} (hC : VeC K C) {vs : List V} {H : Hp} {Q : VK} {E : XK} (h : sp_vlook_in C vs H Q E) : t_Versions_look_in K C (sp_vlook_hand C) ⟨fun _ H' => Q .non H', Q, fun _ _ => False, fun _ _ => False⟩ (start ["self", "hand"] vs) H := by
  obtain ⟨p, s, k, R, rfl, h0, c0, c1, hf, q⟩ := h
  obtain ⟨cl, n1, n2, n3, n4, n5⟩ := hC
  have hh := ve_cut h0
  unfold t_Versions_look_in
  walk_at "go"
  refine ⟨p, s, k, R, rfl, h0, c0, c1, ?_⟩
  walk_at "go"
  rw [mv_isSome, hf]
  walk_at "go"
  exact q
def sp_vlook_cell (C : Addr) : Sp := fun vs H Q _ => ∃ (p : Addr) (s : Ver) (c : Int) (R : List U), vs = [.ref p, .int c] ∧ Has H (verU C p s :: R) ∧ 0 ≤ c ∧ c < s.rows.length ∧ Q .non H
theorem fmR_len {β : Type} (m : List (Addr × β)) : (fmR m).length = m.length := List.length_map ..
theorem pure_vlook_cell {K : PySem.W.Frag} {C : Addr} (hC : VeC K C) {vs : List V} {H : Hp} {Q : VK} {E : XK} (h : sp_vlook_cell C vs H Q E) : t_Versions_look_cell K sp_is_whole ⟨fun _ H' => Q .non H', Q, fun _ _ => False, fun _ _ => False⟩ (start ["self", "cell"] vs) H := by
  obtain ⟨p, s, c, R, rfl, hh, c0, c1, q⟩ := h
  obtain ⟨cl, n1, n2, n3, n4, n5⟩ := hC
  replace hh := ve_cut hh
  unfold t_Versions_look_cell
  walk_at "go"
  refine ⟨c, 0, _, rfl, ?_⟩
  rw [decide_eq_true (by rw [fmR_len]; omega)]
  walk_at "go"
  exact q
/-- pairs of cells and values, rising -/
structure PrOk (ps : Prs) (n : Nat) : Prop where
  ne : ps ≠ []
  l : ps.length ≤ 50
  rise : (ps.map (·.2.1)).Pairwise (· < ·)
  cr : ∀ q ∈ ps, 0 ≤ q.2.1 ∧ q.2.1 < n
  vr : ∀ q ∈ ps, 0 ≤ q.2.2 ∧ q.2.2 ≤ 999
def sp_vlook_pairs (C : Addr) : Sp := fun vs H Q _ => ∃ (p pa : Addr) (s : Ver) (ps : Prs) (R : List U), vs = [.ref p, .ref pa] ∧ Has H (verU C p s :: [(pa, .lst (prR ps))] :: prU ps :: R) ∧ PrOk ps s.rows.length ∧
  ∀ H', Has H' (verU C p s :: [(pa, .lst (prR ps))] :: prU ps :: R) → Q .non H'
theorem all_true {α : Type} (l : List α) : ((l.map fun _ => true).all id) = true := by rw [List.all_map]; exact List.all_eq_true.mpr fun _ _ => rfl
theorem pure_vlook_pairs {K : PySem.W.Frag} {C : Addr} (hC : VeC K C) {vs : List V} {H : Hp} {Q : VK} {E : XK} (h : sp_vlook_pairs C vs H Q E) : t_Versions_look_pairs K sp_is_whole ⟨fun _ H' => Q .non H', Q, fun _ _ => False, fun _ _ => False⟩ (start ["self", "pairs", "fine", "one", "cells", "cell", "value"] vs) H := by
  obtain ⟨p, pa, s, ps, R, rfl, hh, ok, q⟩ := h
  obtain ⟨cl, n1, n2, n3, n4, n5⟩ := hC
  have hl := ok.l
  have fin : ∀ H', Has H' ([(p, .ins C s.dx (veF (.int s.hands) (.ref s.ra) (.int s.version) (.ref s.ba) (.ref s.qa)))] :: [(s.ra, .lst (fmR s.rows))] :: [(s.ba, dI (mv V.int s.begun))] :: [(s.qa, dI (mv asR s.asked))] :: fmU obRow s.rows :: famU obA s.asked :: prU s.bag :: [(pa, .lst (prR ps))] :: prU ps :: R) → Q .non H' := fun H' h' => q H' (ve_in h')
  replace hh := ve_cut hh
  clear q
  unfold t_Versions_look_pairs
  walk_at "go"
  rename_i d0 H0 h0
  refine k_neLP (zs := ps) (ws := []) (by walk_at "hp") (by walk_at "hp") (Has.prs (h0.sub (show Sub (prU ps :: _) _ by walk_at "sub"))) (fun q hq => absurd hq List.not_mem_nil) ?_
  have ene : (!decide (ps.map (·.2) = ([] : Prs).map (·.2))) = true := by
    have : ¬ ps.map (·.2) = ([] : Prs).map (·.2) := fun e => ok.ne (List.map_eq_nil_iff.mp e)
    simp [this, ok.ne]
  rw [ene]
  have h0 := h0.sub (Sub.skip Sub.rf)
  clear hh
  walk_at "go"
  refine k_lcM ps (fun q => V.ref q.1) (fun _ => V.bl true) h0 (fun H' h' => by walk_at "hp") (by omega) (fun z hz D M H' Q' h' q' => ?_) fun D H1 h1 => ?_
  · have hz2 : H' z.1 = some (.tup [.int z.2.1, .int z.2.2]) := Has.prs (h'.sub (show Sub (prU ps :: _) _ by walk_at "sub")) z hz
    walk_at "go"
    exact q' H' h'
  rw [show ps.map (fun _ => V.bl true) = (ps.map fun _ => true).map V.bl by rw [List.map_map]; rfl] at h1
  walk_at "go"
  rw [all_true]
  walk_at "go"
  have h1 := h1.sub (Sub.skip Sub.rf)
  clear h0
  refine k_lcM ps (fun q => V.ref q.1) (fun _ => V.bl true) h1 (fun H' h' => by walk_at "hp") (by omega) (fun z hz D M H' Q' h' q' => ?_) fun D2 H2 h2 => ?_
  · have hz2 : H' z.1 = some (.tup [.int z.2.1, .int z.2.2]) := Has.prs (h'.sub (show Sub (prU ps :: _) _ by walk_at "sub")) z hz
    obtain ⟨c0, c1⟩ := ok.cr z hz
    obtain ⟨v0, v1⟩ := ok.vr z hz
    walk_at "go"
    refine ⟨z.2.1, 0, _, rfl, ?_⟩
    rw [decide_eq_true (by rw [fmR_len]; omega)]
    walk_at "go"
    refine ⟨z.2.2, 0, _, rfl, ?_⟩
    rw [decide_eq_true (by omega)]
    exact q' H' h'
  rw [show ps.map (fun _ => V.bl true) = (ps.map fun _ => true).map V.bl by rw [List.map_map]; rfl] at h2
  walk_at "go"
  rw [all_true]
  walk_at "go"
  have h2 := h2.sub (Sub.skip Sub.rf)
  clear h1
  refine k_lcG ps (fun q => V.ref q.1) (fun q => V.int q.2.1) (fun _ => true) (fun q => [some (.ref p), some (.ref pa), some (.bl true), none, none, some (.int q.2.1), some (.int q.2.2)]) h2 (fun H' h' => by walk_at "hp") (by omega) (fun z hz => rfl) (fun z hz D M H' Q' h' q' => ?_) (fun z hz D M H' Q' h' q' => ?_) (fun z hz _ D M H' Q' h' q' => ?_) fun D3 H3 h3 => ?_
  · have hz2 : H' z.1 = some (.tup [.int z.2.1, .int z.2.2]) := Has.prs (h'.sub (show Sub (prU ps :: _) _ by walk_at "sub")) z hz
    walk_at "go"
    exact q'
  · walk_at "go"
    exact q' H' h'
  · walk_at "go"
    exact q' H' h'
  rw [filt_true, show ps.map (fun q => V.int q.2.1) = (ps.map (·.2.1)).map V.int by rw [List.map_map]; rfl] at h3
  have hl3 : (ps.map (·.2.1)).length < 64 := by rw [List.length_map]; omega
  walk_at "go"
  rename_i w4 ys d4 H4 y1 y2 h4
  have ey : ys = ps.map (·.2.1) := rise_eq y1 ok.rise y2
  subst ey
  walk_at "go"
  refine ifN (by simp) ?_
  walk_at "go"
  exact fin _ (h4.sub (Sub.skip (Sub.skip Sub.rf)))
theorem Ver.wf.ask {s : Ver} (w : s.wf) (k : Int) : (fd s.asked k).isSome = (fd s.begun k).isSome := by
  rw [Bool.eq_iff_iff, fd_isSome, fd_isSome, w.kb]
theorem Ver.wf.nda {s : Ver} (w : s.wf) : (s.asked.map (·.1)).Nodup := by rw [w.kb]; exact w.nd
theorem isNone_of {α : Type} {o : Option α} (h : o.isSome = false) : o = none := by
  cases o with
  | none => rfl
  | some x => cases h
def Ver.begin (s : Ver) (k : Int) (l : Addr) : Ver := { s with begun := pu s.begun k s.version, asked := pu s.asked k (l, []) }
def sp_vbegin (C : Addr) : Sp := fun vs H Q _ => ∃ (p : Addr) (s : Ver) (k : Int) (R : List U), vs = [.ref p, .int k] ∧ Has H (verU C p s :: R) ∧ s.wf ∧ 0 ≤ k ∧ k < s.hands ∧ fd s.begun k = none ∧
  ∀ l H', Has H' (verU C p (s.begin k l) :: R) → Q (.int s.version) H'
theorem pure_vbegin {K : PySem.W.Frag} {C : Addr} (hC : VeC K C) {vs : List V} {H : Hp} {Q : VK} {E : XK} (h : sp_vbegin C vs H Q E) : t_Versions_begin K C (sp_vlook_hand C) ⟨fun _ H' => Q .non H', Q, fun _ _ => False, fun _ _ => False⟩ (start ["self", "hand"] vs) H := by
  obtain ⟨p, s, k, R, rfl, h0, w, c0, c1, hf, q⟩ := h
  obtain ⟨cl, n1, n2, n3, n4, n5⟩ := hC
  have hbl := w.bl
  have hal : s.asked.length = s.begun.length := by have := congrArg List.length w.kb; rw [List.length_map, List.length_map] at this; exact this
  have e1 : (mv V.int s.begun).length < sizeLine := by rw [mv_len, sizeLine_eq]; omega
  have e2 : (mv asR s.asked).length < sizeLine := by rw [mv_len, sizeLine_eq]; omega
  have hfa : fd s.asked k = none := isNone_of (by rw [w.ask, hf]; rfl)
  have hh := ve_cut h0
  unfold t_Versions_begin
  walk_at "go"
  refine ⟨p, s, k, R, rfl, h0, c0, c1, ?_⟩
  walk_at "go"
  rw [mv_isSome, hf]
  refine ifF ?_
  clear h0
  walk_at "go"
  rename_i H1 h1 l H2 h2 H3 h3
  rw [mv_put, show V.ref l = asR (l, []) from rfl, mv_put] at h3
  clear hh h1 h2
  walk_at "go"
  refine q l H3 (ve_in ?_)
  have h4 := fam_snoc (k := k) (b := (l, ([] : List Int))) (h3.sub (show Sub (obA (l, []) :: famU obA s.asked :: _) _ by walk_at "sub"))
  rw [← pu_new (m := s.asked) (k := k) (l, []) hfa] at h4
  exact h4.sub (show Sub ([(p, _)] :: [(s.ra, _)] :: [(s.ba, _)] :: [(s.qa, _)] :: fmU obRow s.rows :: famU obA (pu s.asked k (l, [])) :: prU s.bag :: R) _ by walk_at "sub")
theorem Ver.wf.begin {s : Ver} (w : s.wf) {k : Int} {l : Addr} (hf : fd s.begun k = none) (hl : s.begun.length < 500) : (s.begin k l).wf where
  l0 := w.l0
  l5 := w.l5
  bg := w.bg
  v0 := w.v0
  v9 := w.v9
  rl := w.rl
  kb := by
    show (pu s.asked k (l, [])).map (·.1) = (pu s.begun k s.version).map (·.1)
    rw [pu_new _ hf, pu_new _ (isNone_of (by rw [w.ask, hf]; rfl)), List.map_append, List.map_append, w.kb]
    rfl
  nd := pu_nd _ w.nd
  bl := by have := pu_len' s.begun k s.version; show (pu s.begun k s.version).length ≤ 500; omega
def Ver.finish (s : Ver) (k : Int) : Ver := { s with begun := rm s.begun k, asked := rm s.asked k }
theorem rm_keysV {κ α β : Type} [DecidableEq κ] {m : List (κ × α)} {n : List (κ × β)} (k : κ) (h : m.map (·.1) = n.map (·.1)) : (rm m k).map (·.1) = (rm n k).map (·.1) := by
  have key : ∀ {γ : Type} (l : List (κ × γ)), (rm l k).map (·.1) = (l.map (·.1)).filter fun z => decide (z ≠ k) := fun l => by unfold rm; rw [List.filter_map]; rfl
  rw [key, key, h]
theorem Ver.wf.finish {s : Ver} (w : s.wf) (k : Int) : (s.finish k).wf where
  l0 := w.l0
  l5 := w.l5
  bg := w.bg
  v0 := w.v0
  v9 := w.v9
  rl := w.rl
  kb := rm_keysV k w.kb
  nd := rm_nodup w.nd
  bl := Nat.le_trans (rm_len _ _) w.bl
def sp_vfinish (C : Addr) : Sp := fun vs H Q _ => ∃ (p : Addr) (s : Ver) (k : Int) (R : List U), vs = [.ref p, .int k] ∧ Has H (verU C p s :: R) ∧ s.wf ∧ 0 ≤ k ∧ k < s.hands ∧ (fd s.begun k).isSome = true ∧
  ∀ H', Has H' (verU C p (s.finish k) :: R) → Q .non H'
theorem pure_vfinish {K : PySem.W.Frag} {C : Addr} (hC : VeC K C) {vs : List V} {H : Hp} {Q : VK} {E : XK} (h : sp_vfinish C vs H Q E) : t_Versions_finish K C (sp_vlook_in C) ⟨fun _ H' => Q .non H', Q, fun _ _ => False, fun _ _ => False⟩ (start ["self", "hand"] vs) H := by
  obtain ⟨p, s, k, R, rfl, h0, w, c0, c1, hf, q⟩ := h
  obtain ⟨cl, n1, n2, n3, n4, n5⟩ := hC
  obtain ⟨b, hb⟩ := Option.isSome_iff_exists.mp hf
  obtain ⟨e, he⟩ := Option.isSome_iff_exists.mp (show (fd s.asked k).isSome = true by rw [w.ask]; exact hf)
  have hv1 : valV (mv V.int s.begun) k = some (.int b) := mv_some hb
  have hv2 : valV (mv asR s.asked) k = some (.ref e.1) := mv_some he
  obtain ⟨A, B, em, ep, er⟩ := pu_split w.nda he
  have hh := ve_cut h0
  unfold t_Versions_finish
  walk_at "go"
  refine ⟨p, s, k, R, rfl, h0, c0, c1, hf, ?_⟩
  clear h0
  walk_at "go"
  rename_i H1 h1 H2 h2
  rw [mv_drop, mv_drop] at h2
  refine q H2 (ve_in ?_)
  rw [show famU obA s.asked = famU obA (A ++ (k, e) :: B) by rw [em]] at h2
  have h3 := fam_out (h2.sub (show Sub (famU obA (A ++ (k, e) :: B) :: _) _ by walk_at "sub"))
  have h4 := fam_two (h3.sub (show Sub (famU obA A :: famU obA B :: _) _ from Sub.skip Sub.rf))
  rw [← er] at h4
  exact h4.sub (show Sub ([(p, _)] :: [(s.ra, _)] :: [(s.ba, _)] :: [(s.qa, _)] :: fmU obRow s.rows :: famU obA (rm s.asked k) :: prU s.bag :: R) _ by walk_at "sub")
/-- the last of a row at a version -/
def lastAt (row : List (Int × Int)) (v : Int) : Int := ((row.filter fun q => decide (q.1 ≤ v)).map (·.2)).getLastD 0
theorem at_last {α : Type} {l : List α} (h : l ≠ []) : atI l (-1) = l.getLast? := by
  unfold atI ixN
  have h1 : 0 < l.length := List.length_pos_iff.mpr h
  rw [if_neg (by omega), if_pos (by omega)]
  rw [List.getLast?_eq_getElem?]
  show l[((l.length : Int) + -1).toNat]? = _
  congr 1
  omega
theorem k_uneg {i : Int} {H : Hp} {Q : VK} (q : Q (.int (-i)) H) : rU (fun i => .int (-i)) (.int i) H Q := ⟨i, rfl, q⟩
def sp_value_at (C : Addr) : Sp := fun vs H Q _ => ∃ (p : Addr) (s : Ver) (c v : Int) (r : Addr × Prs) (R : List U), vs = [.ref p, .int c, .int v] ∧ Has H (verU C p s :: R) ∧ s.wf ∧ 0 ≤ c ∧ s.rows[c.toNat]? = some r ∧ (∃ q ∈ r.2, q.2.1 ≤ v) ∧
  ∀ H', Has H' (verU C p s :: R) → Q (.int (lastAt (r.2.map (·.2)) v)) H'
theorem pure_value_at {K : PySem.W.Frag} {C : Addr} (hC : VeC K C) {vs : List V} {H : Hp} {Q : VK} {E : XK} (h : sp_value_at C vs H Q E) : t_Versions_value_at K ⟨fun _ H' => Q .non H', Q, fun _ _ => False, fun _ _ => False⟩ (start ["self", "cell", "version", "made", "value"] vs) H := by
  obtain ⟨p, s, c, v, r, R, rfl, h0, w, c0, hr, hex, q⟩ := h
  obtain ⟨cl, n1, n2, n3, n4, n5⟩ := hC
  have hm : r ∈ s.rows := List.mem_of_getElem? hr
  have hrl := w.rl r hm
  have hv9 := w.v9
  have hh := ve_cut h0
  have hrp : ∀ H', Has H' ([(p, .ins C s.dx (veF (.int s.hands) (.ref s.ra) (.int s.version) (.ref s.ba) (.ref s.qa)))] :: [(s.ra, .lst (fmR s.rows))] :: [(s.ba, dI (mv V.int s.begun))] :: [(s.qa, dI (mv asR s.asked))] :: fmU obRow s.rows :: famU obA s.asked :: prU s.bag :: R) → H' r.1 = some (.lst (r.2.map fun q => V.ref q.1)) := fun H' h' => Has.fms (h'.sub (show Sub (fmU obRow s.rows :: _) _ by walk_at "sub")) r hm
  have ea : atI (fmR s.rows) c = some (.ref r.1) := at_n c0 (by unfold fmR; rw [List.getElem?_map, hr]; rfl)
  unfold t_Versions_value_at
  walk_at "go"
  refine k_lcG r.2 (fun q => V.ref q.1) (fun q => V.int q.2.2) (fun q => decide (q.2.1 ≤ v)) (fun q => [some (.ref p), some (.int c), some (.int v), some (.int q.2.1), some (.int q.2.2)]) hh hrp (by omega) (fun z hz => rfl) (fun z hz D M H' Q' h' q' => ?_) (fun z hz D M H' Q' h' q' => ?_) (fun z hz _ D M H' Q' h' q' => ?_) fun D H1 h1 => ?_
  · have hz2 : H' z.1 = some (.tup [.int z.2.1, .int z.2.2]) := Has.prs (h'.sub (show Sub (prU s.bag :: _) _ by walk_at "sub")) z (w.bg r hm z hz)
    walk_at "go"
    exact q'
  · walk_at "go"
    exact q' H' h'
  · walk_at "go"
    exact q' H' h'
  have e : ((r.2.filter fun q => decide (q.2.1 ≤ v)).map fun q => V.int q.2.2) = ((((r.2.map (·.2)).filter fun q => decide (q.1 ≤ v)).map (·.2)).map V.int) := by
    rw [List.filter_map, List.map_map, List.map_map]
    rfl
  rw [e] at h1
  have hne : (((r.2.map (·.2)).filter fun q => decide (q.1 ≤ v)).map (·.2)) ≠ [] := fun e0 => by
    obtain ⟨x, hx, hxv⟩ := hex
    have : x.2 ∈ (r.2.map (·.2)).filter fun q => decide (q.1 ≤ v) := List.mem_filter.mpr ⟨List.mem_map.mpr ⟨x, hx, rfl⟩, decide_eq_true hxv⟩
    rw [List.map_eq_nil_iff.mp e0] at this
    exact absurd this List.not_mem_nil
  have el : atI ((((r.2.map (·.2)).filter fun q => decide (q.1 ≤ v)).map (·.2)).map V.int) (-1) = some (.int (lastAt (r.2.map (·.2)) v)) := by
    rw [at_last (fun e0 => hne (List.map_eq_nil_iff.mp e0)), List.getLast?_map]
    unfold lastAt
    rw [List.getLastD_eq_getLast?]
    cases hg : (((r.2.map (·.2)).filter fun q => decide (q.1 ≤ v)).map (·.2)).getLast? with
    | none => exact absurd (List.getLast?_eq_none_iff.mp hg) hne
    | some z => rfl
  clear hh
  walk_at "go"
  refine k_uneg ?_
  refine k_ixL h1.g0 el ?_
  exact q H1 (ve_in (h1.sub (Sub.skip Sub.rf)))
def Ver.ask (s : Ver) (k c : Int) (l : Addr) (xs : List Int) : Ver := { s with asked := pu s.asked k (l, xs ++ [c]) }
theorem mvA_same {A B : List (Int × (Addr × List Int))} {k : Int} {l : Addr} {xs ys : List Int} : mv asR (A ++ (k, (l, xs)) :: B) = mv asR (A ++ (k, (l, ys)) :: B) := by unfold mv; rw [List.map_append, List.map_append]; rfl
def sp_vread (C : Addr) : Sp := fun vs H Q _ => ∃ (p : Addr) (s : Ver) (k c b : Int) (l : Addr) (xs : List Int) (r : Addr × Prs) (R : List U), vs = [.ref p, .int k, .int c] ∧ Has H (verU C p s :: R) ∧ s.wf ∧ 0 ≤ k ∧ k < s.hands ∧ fd s.begun k = some b ∧ fd s.asked k = some (l, xs) ∧ xs.length < 1000 ∧ 0 ≤ c ∧ s.rows[c.toNat]? = some r ∧ (∃ q ∈ r.2, q.2.1 ≤ b) ∧
  ∀ H', Has H' (verU C p (s.ask k c l xs) :: R) → Q (.int (lastAt (r.2.map (·.2)) b)) H'
theorem Ver.wf.ask' {s : Ver} (w : s.wf) {k : Int} (c : Int) (l : Addr) {xs : List Int} (h : (fd s.asked k).isSome = true) : (s.ask k c l xs).wf := ⟨w.l0, w.l5, w.bg, w.v0, w.v9, w.rl, (by show (pu s.asked k (l, xs ++ [c])).map (·.1) = _; rw [pu_keys_old _ h]; exact w.kb), w.nd, w.bl⟩
theorem pure_vread {K : PySem.W.Frag} {C : Addr} (hC : VeC K C) {vs : List V} {H : Hp} {Q : VK} {E : XK} (h : sp_vread C vs H Q E) : t_Versions_read K C (sp_vlook_in C) (sp_vlook_cell C) (sp_value_at C) ⟨fun _ H' => Q .non H', Q, fun _ _ => False, fun _ _ => False⟩ (start ["self", "hand", "cell"] vs) H := by
  obtain ⟨p, s, k, c, b, l, xs, r, R, rfl, h0, w, k0, k1, hb, ha, hx, c0, hr, hex, q⟩ := h
  obtain ⟨cl, n1, n2, n3, n4, n5⟩ := hC
  have hcl : c.toNat < s.rows.length := by
    rcases Nat.lt_or_ge c.toNat s.rows.length with h | h
    · exact h
    · rw [List.getElem?_eq_none h] at hr; cases hr
  have hv1 : valV (mv V.int s.begun) k = some (.int b) := mv_some hb
  have hv2 : valV (mv asR s.asked) k = some (.ref l) := mv_some ha
  obtain ⟨A, B, em, ep, er⟩ := pu_split w.nda ha
  have hh := ve_cut h0
  unfold t_Versions_read
  walk_at "go"
  refine ⟨p, s, k, R, rfl, h0, k0, k1, by rw [hb]; rfl, ?_⟩
  walk_at "go"
  refine ⟨p, s, c, R, rfl, h0, c0, by omega, ?_⟩
  clear h0
  rw [show famU obA s.asked = famU obA (A ++ (k, (l, xs)) :: B) by rw [em]] at hh
  have h1 := fam_out (hh.sub (show Sub (famU obA (A ++ (k, (l, xs)) :: B) :: _) _ by walk_at "sub"))
  have h1 : Has H ([(l, .lst (xs.map V.int))] :: _) := h1
  clear hh
  walk_at "go"
  rename_i H2 h2
  rw [show xs.map V.int ++ [.int c] = (xs ++ [c]).map V.int by rw [List.map_append]; rfl] at h2
  have h3 := fam_in (k := k) (b := (l, xs ++ [c])) (h2.sub (show Sub (obA (l, xs ++ [c]) :: famU obA A :: famU obA B :: _) _ by walk_at "sub"))
  rw [em, mvA_same (ys := xs ++ [c])] at h3
  rw [← ep] at h3
  have h4 := h3.sub (show Sub ([(p, _)] :: [(s.ra, _)] :: [(s.ba, _)] :: [(s.qa, _)] :: fmU obRow s.rows :: famU obA (pu s.asked k (l, xs ++ [c])) :: prU s.bag :: R) _ by walk_at "sub")
  have h5 := ve_in (s := s.ask k c l xs) h4
  clear h1 h2 h3
  walk_at "go"
  refine ⟨p, s.ask k c l xs, c, b, r, R, rfl, h5, w.ask' c l (by rw [ha]; rfl), c0, hr, hex, fun H' h' => ?_⟩
  walk_at "go"
  exact q H' h'
def sp_version_now (C : Addr) : Sp := fun vs H Q _ => ∃ (p : Addr) (s : Ver) (R : List U), vs = [.ref p] ∧ Has H (verU C p s :: R) ∧ Q (.int s.version) H
theorem pure_version_now {K : PySem.W.Frag} {C : Addr} (hC : VeC K C) {vs : List V} {H : Hp} {Q : VK} {E : XK} (h : sp_version_now C vs H Q E) : t_Versions_version_now K ⟨fun _ H' => Q .non H', Q, fun _ _ => False, fun _ _ => False⟩ (start ["self"] vs) H := by
  obtain ⟨p, s, R, rfl, hh, q⟩ := h
  obtain ⟨cl, n1, n2, n3, n4, n5⟩ := hC
  replace hh := ve_cut hh
  unfold t_Versions_version_now
  walk_at "go"
  exact q
/-- the newest values -/
def newest (rows : VRows) : List Int := rows.map fun r => (r.2.map (·.2.2)).getLastD 0
def sp_vnow (C : Addr) : Sp := fun vs H Q _ => ∃ (p : Addr) (s : Ver) (R : List U), vs = [.ref p] ∧ Has H (verU C p s :: R) ∧ s.wf ∧ (∀ r ∈ s.rows, r.2 ≠ []) ∧
  ∀ d H', Has H' ([(d, .lst ((newest s.rows).map V.int))] :: verU C p s :: R) → Q (.ref d) H'
theorem pure_vnow {K : PySem.W.Frag} {C : Addr} (hC : VeC K C) {vs : List V} {H : Hp} {Q : VK} {E : XK} (h : sp_vnow C vs H Q E) : t_Versions_now K ⟨fun _ H' => Q .non H', Q, fun _ _ => False, fun _ _ => False⟩ (start ["self", "row"] vs) H := by
  obtain ⟨p, s, R, rfl, hh, w, hne, q⟩ := h
  obtain ⟨cl, n1, n2, n3, n4, n5⟩ := hC
  have h5 := w.l5
  replace hh := ve_cut hh
  unfold t_Versions_now
  walk_at "go"
  refine k_lcM s.rows (fun r => V.ref r.1) (fun r => V.int ((r.2.map (·.2.2)).getLastD 0)) hh (fun H' h' => by walk_at "hp") (by omega) (fun r hr D M H' Q' h' q' => ?_) fun D H1 h1 => ?_
  · have hrp : H' r.1 = some (.lst (fmR r.2)) := Has.fms (h'.sub (show Sub (fmU obRow s.rows :: _) _ by walk_at "sub")) r hr
    have h0 := hne r hr
    have hg : r.2.getLast? = some (r.2.getLast h0) := List.getLast?_eq_some_getLast h0
    have hz := w.bg r hr _ (List.getLast_mem h0)
    have hz2 : H' (r.2.getLast h0).1 = some (.tup [.int (r.2.getLast h0).2.1, .int (r.2.getLast h0).2.2]) := Has.prs (h'.sub (show Sub (prU s.bag :: _) _ by walk_at "sub")) _ hz
    have el : atI (fmR r.2) (-1) = some (.ref (r.2.getLast h0).1) := by
      unfold fmR
      rw [at_last (fun e0 => h0 (List.map_eq_nil_iff.mp e0)), List.getLast?_map, hg]
      rfl
    have ev : (r.2.map (·.2.2)).getLastD 0 = (r.2.getLast h0).2.2 := by rw [List.getLastD_eq_getLast?, List.getLast?_map, hg]; rfl
    rw [ev] at q'
    walk_at "go"
    refine k_uneg ?_
    walk_at "go"
    exact q' H' h'
  rw [show s.rows.map (fun r => V.int ((r.2.map (·.2.2)).getLastD 0)) = (newest s.rows).map V.int by unfold newest; rw [List.map_map]; rfl] at h1
  refine q D H1 ?_
  have h2 := ve_in (C := C) (p := p) (s := s) (h1.sub (show Sub ([(p, _)] :: [(s.ra, _)] :: [(s.ba, _)] :: [(s.qa, _)] :: fmU obRow s.rows :: famU obA s.asked :: prU s.bag :: _) _ by walk_at "sub"))
  exact h2.sub (show Sub ([(D, _)] :: verU C p s :: R) _ by walk_at "sub")
def sp_vkept (C : Addr) : Sp := fun vs H Q _ => ∃ (p : Addr) (s : Ver) (c : Int) (r : Addr × Prs) (R : List U), vs = [.ref p, .int c] ∧ Has H (verU C p s :: R) ∧ s.wf ∧ 0 ≤ c ∧ s.rows[c.toNat]? = some r ∧
  ∀ d H', Has H' ([(d, .lst ((r.2.map (·.2.1)).map V.int))] :: verU C p s :: R) → Q (.ref d) H'
theorem pure_vkept {K : PySem.W.Frag} {C : Addr} (hC : VeC K C) {vs : List V} {H : Hp} {Q : VK} {E : XK} (h : sp_vkept C vs H Q E) : t_Versions_kept K C (sp_vlook_cell C) ⟨fun _ H' => Q .non H', Q, fun _ _ => False, fun _ _ => False⟩ (start ["self", "cell", "made", "value"] vs) H := by
  obtain ⟨p, s, c, r, R, rfl, h0, w, c0, hr, q⟩ := h
  obtain ⟨cl, n1, n2, n3, n4, n5⟩ := hC
  have hcl : c.toNat < s.rows.length := by
    rcases Nat.lt_or_ge c.toNat s.rows.length with h | h
    · exact h
    · rw [List.getElem?_eq_none h] at hr; cases hr
  have hm : r ∈ s.rows := List.mem_of_getElem? hr
  have hrl := w.rl r hm
  have hv9 := w.v9
  have hh := ve_cut h0
  have hrp : ∀ H', Has H' ([(p, .ins C s.dx (veF (.int s.hands) (.ref s.ra) (.int s.version) (.ref s.ba) (.ref s.qa)))] :: [(s.ra, .lst (fmR s.rows))] :: [(s.ba, dI (mv V.int s.begun))] :: [(s.qa, dI (mv asR s.asked))] :: fmU obRow s.rows :: famU obA s.asked :: prU s.bag :: R) → H' r.1 = some (.lst (r.2.map fun q => V.ref q.1)) := fun H' h' => Has.fms (h'.sub (show Sub (fmU obRow s.rows :: _) _ by walk_at "sub")) r hm
  have ea : atI (fmR s.rows) c = some (.ref r.1) := at_n c0 (by unfold fmR; rw [List.getElem?_map, hr]; rfl)
  unfold t_Versions_kept
  walk_at "go"
  refine ⟨p, s, c, R, rfl, h0, c0, by omega, ?_⟩
  clear h0
  walk_at "go"
  refine k_lcG r.2 (fun q => V.ref q.1) (fun q => V.int q.2.1) (fun _ => true) (fun q => [some (.ref p), some (.int c), some (.int q.2.1), some (.int q.2.2)]) hh hrp (by omega) (fun z hz => rfl) (fun z hz D M H' Q' h' q' => ?_) (fun z hz D M H' Q' h' q' => ?_) (fun z hz _ D M H' Q' h' q' => ?_) fun D H1 h1 => ?_
  · have hz2 : H' z.1 = some (.tup [.int z.2.1, .int z.2.2]) := Has.prs (h'.sub (show Sub (prU s.bag :: _) _ by walk_at "sub")) z (w.bg r hm z hz)
    walk_at "go"
    exact q'
  · walk_at "go"
    exact q' H' h'
  · walk_at "go"
    exact q' H' h'
  rw [filt_true, show r.2.map (fun q => V.int q.2.1) = (r.2.map (·.2.1)).map V.int by rw [List.map_map]; rfl] at h1
  refine q D H1 ?_
  have h2 := ve_in (C := C) (p := p) (s := s) (h1.sub (show Sub ([(p, _)] :: [(s.ra, _)] :: [(s.ba, _)] :: [(s.qa, _)] :: fmU obRow s.rows :: famU obA s.asked :: prU s.bag :: _) _ by walk_at "sub"))
  exact h2.sub (show Sub ([(D, _)] :: verU C p s :: R) _ by walk_at "sub")
end La
namespace La
open PySem L2 Sy
local macro_rules | `(tactic| walk_at "fl") => `(tactic| first | assumption | exact ve_hands | exact ve_rows | exact ve_version | exact ve_begun | exact ve_asked | kernel_rfl)
local macro_rules | `(tactic| walk_at "put") => `(tactic| first | exact ve_put_hands | exact ve_put_rows | exact ve_put_version | exact ve_put_begun | exact ve_put_asked | exact ve_p1 | exact ve_p2 | exact ve_p3 | exact ve_p4 | exact ve_p5)
local macro_rules | `(tactic| walk_at "fsl") => `(tactic| first | assumption | exact ve_len | (show 0 < 1000; decide) | (show 1 < 1000; decide) | (show 2 < 1000; decide) | (show 3 < 1000; decide) | (show 4 < 1000; decide))
/-- rows that were written: each cell's pairs behind it -/
def addOf (ps : List (Int × Int)) (v : Int) (i : Nat) : List (Int × Int) := (ps.filter fun q => decide (q.1 = (i : Int))).map fun q => (v, q.2)
def WRel (R0 R : VRows) (ps : List (Int × Int)) (v : Int) : Prop := R.length = R0.length ∧ ∀ (i : Nat) r, R[i]? = some r → ∃ r0, R0[i]? = some r0 ∧ r.2.map (·.2) = r0.2.map (·.2) ++ addOf ps v i
theorem WRel.refl (R : VRows) (v : Int) : WRel R R [] v := ⟨rfl, fun i r h => ⟨r, h, (List.append_nil _).symm⟩⟩
theorem WRel.step {R0 : VRows} {ps : List (Int × Int)} {v y : Int} {A B : VRows} {a t : Addr} {m : Prs} (h : WRel R0 (A ++ (a, m) :: B) ps v) : WRel R0 (A ++ (a, m ++ [(t, (v, y))]) :: B) (ps ++ [((A.length : Int), y)]) v := by
  obtain ⟨h1, h2⟩ := h
  refine ⟨by rw [List.length_append, List.length_cons] at h1 ⊢; exact h1, fun i r hr => ?_⟩
  by_cases e : i = A.length
  · subst e
    rw [List.getElem?_append_right (Nat.le_refl _), Nat.sub_self] at hr
    have hr : (a, m ++ [(t, (v, y))]) = r := Option.some.inj hr
    obtain ⟨r0, g1, g2⟩ := h2 A.length (a, m) (by rw [List.getElem?_append_right (Nat.le_refl _), Nat.sub_self]; rfl)
    refine ⟨r0, g1, ?_⟩
    rw [← hr]
    show (m ++ [(t, (v, y))]).map (·.2) = _
    have g2 : m.map (·.2) = _ := g2
    unfold addOf at g2 ⊢
    rw [List.map_append, g2, List.filter_append, List.map_append, ← List.append_assoc]
    simp
  · have hr2 : (A ++ (a, m) :: B)[i]? = some r := by
      by_cases hk : i < A.length
      · rw [List.getElem?_append_left hk] at hr ⊢
        exact hr
      · have hd : i - A.length = (i - A.length - 1) + 1 := by omega
        rw [List.getElem?_append_right (by omega), hd] at hr ⊢
        exact hr
    obtain ⟨r0, g1, g2⟩ := h2 i r hr2
    refine ⟨r0, g1, ?_⟩
    rw [g2]
    unfold addOf
    rw [List.filter_append, show [((A.length : Int), y)].filter (fun q => decide (q.1 = (i : Int))) = [] from by rw [List.filter_cons, if_neg (by simpa using fun h : (A.length : Int) = (i : Int) => e (by omega))]; rfl, List.append_nil]
def sp_vwrite (C : Addr) : Sp := fun vs H Q _ => ∃ (p pa : Addr) (s : Ver) (ps : Prs) (R : List U), vs = [.ref p, .ref pa] ∧ Has H (verU C p s :: [(pa, .lst (prR ps))] :: prU ps :: R) ∧ s.wf ∧ s.version < 500 ∧ PrOk ps s.rows.length ∧
  ∀ (rows : VRows) (bag : Prs) H', WRel s.rows rows (ps.map (·.2)) (s.version + 1) → (∀ r ∈ rows, ∀ q ∈ r.2, q ∈ bag) → Has H' (verU C p { s with version := s.version + 1, rows := rows, bag := bag } :: [(pa, .lst (prR ps))] :: prU ps :: R) → Q (.int (s.version + 1)) H'
theorem add_len {ps : List (Int × Int)} {v : Int} {i : Nat} (h : (ps.map (·.1)).Pairwise (· < ·)) : (addOf ps v i).length ≤ 1 := by
  unfold addOf
  rw [List.length_map]
  induction ps with
  | nil => exact Nat.zero_le _
  | cons q r ih =>
    rw [List.map_cons] at h
    obtain ⟨h1, h2⟩ := List.pairwise_cons.mp h
    by_cases e : q.1 = (i : Int)
    · rw [List.filter_cons, if_pos (decide_eq_true e)]
      have : r.filter (fun q => decide (q.1 = (i : Int))) = [] := List.filter_eq_nil_iff.mpr fun x hx hc => by
        have := h1 x.1 (List.mem_map.mpr ⟨x, hx, rfl⟩)
        have := of_decide_eq_true hc
        omega
      rw [this]
      exact Nat.le_refl _
    · rw [List.filter_cons, if_neg (by simpa using e)]
      exact ih h2
theorem Ver.wf.write {s : Ver} (w : s.wf) (hv : s.version < 500) {rows : VRows} {bag : Prs} {ps : List (Int × Int)} (hw : WRel s.rows rows ps (s.version + 1)) (hr : (ps.map (·.1)).Pairwise (· < ·)) (hb : ∀ r ∈ rows, ∀ q ∈ r.2, q ∈ bag) : ({ s with version := s.version + 1, rows := rows, bag := bag } : Ver).wf where
  l0 := by show 0 < rows.length; rw [hw.1]; exact w.l0
  l5 := by show rows.length ≤ 5; rw [hw.1]; exact w.l5
  bg := hb
  v0 := by have := w.v0; show 0 ≤ s.version + 1; omega
  v9 := by show s.version + 1 ≤ 500; omega
  rl := fun r hm => by
    obtain ⟨i, hi⟩ := List.getElem?_of_mem hm
    obtain ⟨r0, g1, g2⟩ := hw.2 i r hi
    have h1 := w.rl r0 (List.mem_of_getElem? g1)
    have h2 := congrArg List.length g2
    rw [List.length_append, List.length_map, List.length_map] at h2
    have h3 := add_len (v := s.version + 1) (i := i) hr
    show (r.2.length : Int) ≤ s.version + 1 + 1
    omega
  kb := w.kb
  nd := w.nd
  bl := w.bl
theorem pure_vwrite {K : PySem.W.Frag} {C : Addr} (hC : VeC K C) {vs : List V} {H : Hp} {Q : VK} {E : XK} (h : sp_vwrite C vs H Q E) : t_Versions_write K C (sp_vlook_pairs C) ⟨fun _ H' => Q .non H', Q, fun _ _ => False, fun _ _ => False⟩ (start ["self", "pairs", "cell", "value"] vs) H := by
  obtain ⟨p, pa, s, ps, R, rfl, h0, w, hv, ok, q⟩ := h
  obtain ⟨cl, n1, n2, n3, n4, n5⟩ := hC
  have hp := (ve_cut h0).g0
  have hv0 := w.v0
  unfold t_Versions_write
  walk_at "go"
  refine ⟨p, pa, s, ps, R, rfl, h0, ok, fun H1 h1 => ?_⟩
  have hh := ve_cut h1
  clear h0 h1 hp
  walk_at "go"
  rename_i H2 h2
  clear hh
  refine k_forL (xs := prR ps) (fun j σ H' => ∃ (rows : VRows) (bag : Prs) (w2 w3 : Option V), σ = [some (.ref p), some (.ref pa), w2, w3] ∧ WRel s.rows rows ((ps.map (·.2)).take j) (s.version + 1) ∧ (∀ r ∈ rows, ∀ q ∈ r.2, q ∈ bag) ∧
    Has H' ([(p, .ins C s.dx (veF (.int s.hands) (.ref s.ra) (.int (s.version + 1)) (.ref s.ba) (.ref s.qa)))] :: [(s.ra, .lst (fmR rows))] :: [(s.ba, dI (mv V.int s.begun))] :: [(s.qa, dI (mv asR s.asked))] :: fmU obRow rows :: famU obA s.asked :: prU bag :: [(pa, .lst (prR ps))] :: prU ps :: R)) h2.g7 ⟨s.rows, s.bag, none, none, rfl, WRel.refl _ _, w.bg, h2⟩ (fun j σ H' h' => by obtain ⟨_, _, _, _, _, _, _, h'⟩ := h'; exact h'.g7) (fun j x σ H' hx h' => ?_) (fun σ H' h' => ?_)
  · obtain ⟨rows, bag, w2, w3, rfl, hw, hb, h'⟩ := h'
    unfold prR fmR at hx
    rw [List.getElem?_map] at hx
    obtain ⟨z, hz, rfl⟩ := Option.map_eq_some_iff.mp hx
    have hzm := List.mem_of_getElem? hz
    have hz2 : H' z.1 = some (.tup [.int z.2.1, .int z.2.2]) := Has.prs (h'.sub (show Sub (prU ps :: _) _ by walk_at "sub")) z hzm
    obtain ⟨c0, c1⟩ := ok.cr z hzm
    have hcl : z.2.1.toNat < rows.length := by rw [hw.1]; omega
    obtain ⟨A, B, erow, eA⟩ := split_at (List.getElem?_eq_getElem hcl)
    generalize rows[z.2.1.toNat] = rr at erow
    obtain ⟨la, m⟩ := rr
    subst erow
    have hml : (m.length : Int) ≤ 600 := by
      obtain ⟨r0, g1, g2⟩ := hw.2 A.length (la, m) (by rw [List.getElem?_append_right (Nat.le_refl _), Nat.sub_self]; rfl)
      have h1 := w.rl r0 (List.mem_of_getElem? g1)
      have h2 := congrArg List.length g2
      rw [List.length_append, List.length_map, List.length_map] at h2
      have h3 : (addOf ((ps.map (·.2)).take j) (s.version + 1) A.length).length ≤ 50 := by
        unfold addOf
        rw [List.length_map]
        have a1 := List.length_filter_le (fun q : Int × Int => decide (q.1 = (A.length : Int))) ((ps.map (·.2)).take j)
        have a2 := List.length_take_le' j (ps.map (·.2))
        rw [List.length_map] at a2
        have := ok.l
        omega
      have h2 : m.length = r0.2.length + _ := h2
      omega
    have ea : atI (fmR (A ++ (la, m) :: B)) z.2.1 = some (.ref la) := fmR_at c0 eA
    have e1 : (fmR m).length < sizeLine := by rw [fmR_len, sizeLine_eq]; omega
    have h3 := fm_out (h'.sub (show Sub (fmU obRow (A ++ (la, m) :: B) :: _) _ by walk_at "sub"))
    have h3 : Has H' ([(la, .lst (fmR m))] :: _) := h3
    clear h'
    walk_at "go"
    rename_i tp H3 h4 H4 h5
    refine ⟨A ++ (la, m ++ [(tp, (s.version + 1, z.2.2))]) :: B, bag ++ [(tp, (s.version + 1, z.2.2))], _, _, rfl, ?_, fun r hr q hq => ?_, ?_⟩
    · have e2 : (ps.map (·.2)).take (j + 1) = (ps.map (·.2)).take j ++ [((A.length : Int), z.2.2)] := by
        rw [List.take_add_one, List.getElem?_map, hz]
        show _ ++ [z.2] = _
        rw [show z.2 = ((A.length : Int), z.2.2) from Prod.ext (by show z.2.1 = (A.length : Int); omega) rfl]
      rw [e2]
      exact hw.step
    · rcases List.mem_append.mp hr with hr | hr
      · exact List.mem_append.mpr (.inl (hb r (List.mem_append.mpr (.inl hr)) q hq))
      · rcases List.mem_cons.mp hr with hr | hr
        · rw [hr] at hq
          rcases List.mem_append.mp hq with hq | hq
          · exact List.mem_append.mpr (.inl (hb (la, m) (List.mem_append.mpr (.inr (List.mem_cons.mpr (.inl rfl)))) q hq))
          · exact List.mem_append.mpr (.inr hq)
        · exact List.mem_append.mpr (.inl (hb r (List.mem_append.mpr (.inr (List.mem_cons_of_mem _ hr))) q hq))
    · rw [← fmR_snoc (b := (s.version + 1, z.2.2))] at h5
      have h6 := fm_in (ob := obRow) (b := m ++ [(tp, (s.version + 1, z.2.2))]) (h5.sub (show Sub ([(la, obRow (m ++ [(tp, (s.version + 1, z.2.2))]))] :: fmU obRow A :: fmU obRow B :: _) _ by walk_at "sub"))
      rw [fmR_mid (c := m ++ [(tp, (s.version + 1, z.2.2))])] at h6
      have h7 := Has.op.mpr (h6.sub (show Sub (prU bag :: [(tp, obP (s.version + 1, z.2.2))] :: _) _ by walk_at "sub"))
      rw [← fmU_snoc] at h7
      exact h7.sub (show Sub ([(p, _)] :: [(s.ra, _)] :: [(s.ba, _)] :: [(s.qa, _)] :: fmU obRow (A ++ (la, m ++ [(tp, (s.version + 1, z.2.2))]) :: B) :: famU obA s.asked :: prU (bag ++ [(tp, (s.version + 1, z.2.2))]) :: [(pa, _)] :: prU ps :: R) _ by walk_at "sub")
  · obtain ⟨rows, bag, w2, w3, rfl, hw, hb, h'⟩ := h'
    rw [show (prR ps).length = (ps.map (·.2)).length by rw [List.length_map]; exact fmR_len ps, List.take_length] at hw
    walk_at "go"
    exact q rows bag H' hw hb (ve_in (s := { s with version := s.version + 1, rows := rows, bag := bag }) h')
end La
namespace La
open PySem L2 Sy
local macro_rules | `(tactic| walk_at "fl") => `(tactic| first | assumption | exact ve_hands | exact ve_rows | exact ve_version | exact ve_begun | exact ve_asked | kernel_rfl)
local macro_rules | `(tactic| walk_at "put") => `(tactic| first | exact ve_put_hands | exact ve_put_rows | exact ve_put_version | exact ve_put_begun | exact ve_put_asked | exact ve_p1 | exact ve_p2 | exact ve_p3 | exact ve_p4 | exact ve_p5)
local macro_rules | `(tactic| walk_at "fsl") => `(tactic| first | assumption | exact ve_len | (show 0 < 1000; decide) | (show 1 < 1000; decide) | (show 2 < 1000; decide) | (show 3 < 1000; decide) | (show 4 < 1000; decide))
/-! ### trim -/
theorem rise_last {l : List Int} (h : l.Pairwise (· < ·)) (hne : l ≠ []) : ∀ y ∈ l, y ≤ l.getLastD 0 := by
  intro y hy
  rw [List.getLastD_eq_getLast?, List.getLast?_eq_some_getLast hne]
  show y ≤ l.getLast hne
  have e := List.dropLast_concat_getLast hne
  rw [← e] at hy h
  rcases List.mem_append.mp hy with h1 | h1
  · exact Int.le_of_lt ((List.pairwise_append.mp h).2.2 y h1 _ (List.mem_singleton.mpr rfl))
  · rw [List.mem_singleton.mp h1]; exact Int.le_refl _
theorem last_mem {l : List Int} (hne : l ≠ []) : l.getLastD 0 ∈ l := by
  rw [List.getLastD_eq_getLast?, List.getLast?_eq_some_getLast hne]
  exact List.getLast_mem hne
theorem k_maxR {K : PySem.W.Frag} {a : Addr} {H : Hp} {Q : VK} {ns : List Int} (hp : H a = some (.lst (ns.map V.int))) (hne : ns ≠ []) (hr : ns.Pairwise (· < ·)) (q : Q (.int (ns.getLastD 0)) H) : rMax K [.ref a] H Q :=
  ⟨a, ns, rfl, SqL.of hp, List.length_pos_iff.mpr hne, fun m hm hy => by rw [show m = ns.getLastD 0 from Int.le_antisymm (rise_last hr hne m hm) (hy _ (last_mem hne))]; exact q⟩
def maxLe (row : List (Int × Int)) (v : Int) : Int := ((row.filter fun q => decide (q.1 ≤ v)).map (·.1)).getLastD 0
def trimR (zs : List Int) (m : Prs) : Prs := m.filter fun q => decide (q.2.1 ∈ zs.map (maxLe (m.map (·.2))))
def TRel (R0 R : VRows) (zs : List Int) (j : Nat) : Prop := R.length = R0.length ∧ ∀ (i : Nat) r, R[i]? = some r → ∃ r0, R0[i]? = some r0 ∧ (i < j → r.2 = trimR zs r0.2) ∧ (¬ i < j → r = r0)
def lens (R : VRows) : Int := (R.map fun r => (r.2.length : Int)).sum
theorem lens_mid (A B : VRows) (a : Addr) (m : Prs) : lens (A ++ (a, m) :: B) = lens A + ((m.length : Int) + lens B) := by unfold lens; rw [List.map_append, List.sum_append]; rfl
theorem TRel.refl (R : VRows) (zs : List Int) : TRel R R zs 0 := ⟨rfl, fun i r h => ⟨r, h, fun h => absurd h (Nat.not_lt_zero _), fun _ => rfl⟩⟩
theorem TRel.step {R0 : VRows} {zs : List Int} {A B : VRows} {a D : Addr} {m : Prs} (h : TRel R0 (A ++ (a, m) :: B) zs A.length) : TRel R0 (A ++ (D, trimR zs m) :: B) zs (A.length + 1) := by
  obtain ⟨h1, h2⟩ := h
  refine ⟨by rw [List.length_append, List.length_cons] at h1 ⊢; exact h1, fun i r hr => ?_⟩
  by_cases e : i = A.length
  · subst e
    rw [List.getElem?_append_right (Nat.le_refl _), Nat.sub_self] at hr
    have hr : (D, trimR zs m) = r := Option.some.inj hr
    obtain ⟨r0, g1, g2, g3⟩ := h2 A.length (a, m) (by rw [List.getElem?_append_right (Nat.le_refl _), Nat.sub_self]; rfl)
    refine ⟨r0, g1, fun _ => ?_, fun hn => absurd (Nat.lt_succ_self _) hn⟩
    rw [← hr, ← g3 (Nat.lt_irrefl _)]
  · have hr2 : (A ++ (a, m) :: B)[i]? = some r := by
      by_cases hk : i < A.length
      · rw [List.getElem?_append_left hk] at hr ⊢
        exact hr
      · have hd : i - A.length = (i - A.length - 1) + 1 := by omega
        rw [List.getElem?_append_right (by omega), hd] at hr ⊢
        exact hr
    obtain ⟨r0, g1, g2, g3⟩ := h2 i r hr2
    exact ⟨r0, g1, fun hi => g2 (by omega), fun hi => g3 (by omega)⟩
theorem fmR_set {β : Type} {A B : List (Addr × β)} {a D : Addr} {m m' : β} : (fmR (A ++ (a, m) :: B)).set A.length (.ref D) = fmR (A ++ (D, m') :: B) := by
  unfold fmR
  rw [List.map_append, List.map_append, List.set_append_right _ _ (by rw [List.length_map]; exact Nat.le_refl _), List.length_map, Nat.sub_self]
  rfl
structure TrOk (s : Ver) : Prop where
  wf : s.wf
  rise : ∀ r ∈ s.rows, (r.2.map (·.2.1)).Pairwise (· < ·)
  has : ∀ r ∈ s.rows, ∀ z ∈ s.begun.map (·.2) ++ [s.version], ∃ q ∈ r.2, q.2.1 ≤ z
  few : s.begun.length < 60
def sp_vtrim (C : Addr) : Sp := fun vs H Q _ => ∃ (p : Addr) (s : Ver) (R : List U), vs = [.ref p] ∧ Has H (verU C p s :: R) ∧ TrOk s ∧
  ∀ (zs : List Int) (rows : VRows) H', zs.Pairwise (· < ·) → (∀ z, z ∈ zs ↔ z ∈ s.begun.map (·.2) ++ [s.version]) → TRel s.rows rows zs s.rows.length → Has H' (verU C p { s with rows := rows } :: R) → Q (.int (lens s.rows - lens rows)) H'
theorem Ver.wf.trim {s : Ver} (w : s.wf) {rows : VRows} {zs : List Int} (h : TRel s.rows rows zs s.rows.length) : ({ s with rows := rows } : Ver).wf := by
  have key : ∀ r ∈ rows, ∃ r0 ∈ s.rows, r.2 = trimR zs r0.2 := fun r hr => by
    obtain ⟨i, hi⟩ := List.getElem?_of_mem hr
    obtain ⟨r0, g1, g2, g3⟩ := h.2 i r hi
    have hl : i < rows.length := by
      rcases Nat.lt_or_ge i rows.length with h | h
      · exact h
      · rw [List.getElem?_eq_none h] at hi; cases hi
    exact ⟨r0, List.mem_of_getElem? g1, g2 (by rw [← h.1]; exact hl)⟩
  refine ⟨by show 0 < rows.length; rw [h.1]; exact w.l0, by show rows.length ≤ 5; rw [h.1]; exact w.l5, fun r hr q hq => ?_, w.v0, w.v9, fun r hr => ?_, w.kb, w.nd, w.bl⟩
  · obtain ⟨r0, h0, e⟩ := key r hr
    rw [e] at hq
    exact w.bg r0 h0 q (List.mem_filter.mp hq).1
  · obtain ⟨r0, h0, e⟩ := key r hr
    have h1 := w.rl r0 h0
    have h2 := List.length_filter_le (fun q : Addr × (Int × Int) => decide (q.2.1 ∈ zs.map (maxLe (r0.2.map (·.2))))) r0.2
    rw [e]
    show ((r0.2.filter _).length : Int) ≤ s.version + 1
    omega
theorem pure_vtrim {K : PySem.W.Frag} {C : Addr} (hC : VeC K C) {vs : List V} {H : Hp} {Q : VK} {E : XK} (h : sp_vtrim C vs H Q E) : t_Versions_trim K ⟨fun _ H' => Q .non H', Q, fun _ _ => False, fun _ _ => False⟩ (start ["self", "seen", "many", "cell", "row", "needed", "made", "value", "version", "one"] vs) H := by
  obtain ⟨p, s, R, rfl, h0, ⟨w, hrise, hhas, hfew⟩, q⟩ := h
  obtain ⟨cl, n1, n2, n3, n4, n5⟩ := hC
  have hv9 := w.v9
  have hl5 := w.l5
  have hh := ve_cut h0
  clear h0
  have ebl : ((mv V.int s.begun).map (·.2)).length = s.begun.length := by rw [List.length_map, mv_len]
  have szb : ((mv V.int s.begun).map (·.2)).length + [V.int s.version].length ≤ sizeLine := by rw [ebl, sizeLine_eq]; show s.begun.length + 1 ≤ _; omega
  unfold t_Versions_trim
  walk_at "go"
  rename_i wd d1 H1 h1 d2 H2 h2 d3 H3 h3
  have e0 : (mv V.int s.begun).map (·.2) ++ [V.int s.version] = (s.begun.map (·.2) ++ [s.version]).map V.int := by
    unfold mv
    rw [List.map_map, List.map_append, List.map_map]
    rfl
  rw [e0] at h3
  have hsz : (s.begun.map (·.2) ++ [s.version]).length < 64 := by rw [List.length_append, List.length_map]; show s.begun.length + 1 < 64; omega
  clear hh h1 h2
  walk_at "go"
  rename_i zs d4 H4 z1 z2 h4
  have h4 := h4.sub (show Sub ([(p, .ins C s.dx (veF (.int s.hands) (.ref s.ra) (.int s.version) (.ref s.ba) (.ref s.qa)))] :: [(s.ra, .lst (fmR s.rows))] :: [(s.ba, dI (mv V.int s.begun))] :: [(s.qa, dI (mv asR s.asked))] :: fmU obRow s.rows :: famU obA s.asked :: prU s.bag :: [(d4, .lst (zs.map V.int))] :: R) _ by walk_at "sub")
  clear h3
  have hzl : zs.length ≤ 100 := by
    have : zs.length ≤ (s.begun.map (·.2) ++ [s.version]).length := nodup_sub_len (rise_nodup z1) fun z hz => (z2 z).mp hz
    omega
  walk_at "go"
  refine k_forR (n := ((fmR s.rows).length : Int)) (fun j σ H' => ∃ (rows : VRows) (w3 w4 w5 w6 w7 w8 w9 : Option V), σ = [some (.ref p), some (.ref d4), some (.int (lens s.rows - lens rows)), w3, w4, w5, w6, w7, w8, w9] ∧ TRel s.rows rows zs j ∧
    Has H' ([(p, .ins C s.dx (veF (.int s.hands) (.ref s.ra) (.int s.version) (.ref s.ba) (.ref s.qa)))] :: [(s.ra, .lst (fmR rows))] :: [(s.ba, dI (mv V.int s.begun))] :: [(s.qa, dI (mv asR s.asked))] :: fmU obRow rows :: famU obA s.asked :: prU s.bag :: [(d4, .lst (zs.map V.int))] :: R)) ⟨s.rows, none, none, none, none, none, none, none, by rw [Int.sub_self]; rfl, TRel.refl _ _, h4⟩ (by rw [fmR_len]; omega) (fun j σ H' hj h' => ?_) (fun σ H' h' => ?_)
  · obtain ⟨rows, w3, w4, w5, w6, w7, w8, w9, rfl, ht, h'⟩ := h'
    rw [fmR_len] at hj
    have hjl : j < rows.length := by rw [ht.1]; omega
    obtain ⟨A, B, erow, eA⟩ := split_at (List.getElem?_eq_getElem hjl)
    generalize rows[j] = rr at erow
    obtain ⟨la, m⟩ := rr
    subst erow
    subst eA
    obtain ⟨r0, g1, g2, g3⟩ := ht.2 A.length (la, m) (by rw [List.getElem?_append_right (Nat.le_refl _), Nat.sub_self]; rfl)
    have er0 : (la, m) = r0 := g3 (Nat.lt_irrefl _)
    subst er0
    have hm : (la, m) ∈ s.rows := List.mem_of_getElem? g1
    have hrl := w.rl _ hm
    have hrl : (m.length : Int) ≤ s.version + 1 := hrl
    have hri := hrise _ hm
    have ea : atI (fmR (A ++ (la, m) :: B)) (A.length : Int) = some (.ref la) := fmR_at (by omega) (by omega)
    have h3 := fm_out (h'.sub (show Sub (fmU obRow (A ++ (la, m) :: B) :: _) _ by walk_at "sub"))
    have h3 : Has H' ([(la, .lst (fmR m))] :: _) := h3
    clear h'
    walk_at "go"
    refine k_lcM zs V.int (fun z => V.int (maxLe (m.map (·.2)) z)) h3 (fun H'' h'' => by walk_at "hp") (by omega) (fun z hz D M H'' Q' h'' q' => ?_) fun d5 H5 h5 => ?_
    · have hex := hhas _ hm z ((z2 z).mp hz)
      walk_at "go"
      refine k_lcG m (fun q => V.ref q.1) (fun q => V.int q.2.1) (fun q => decide (q.2.1 ≤ z)) (fun q => [some (.ref p), some (.ref d4), some (.int (lens s.rows - lens (A ++ (la, m) :: B))), some (.int (A.length : Int)), some (.ref la), w5, some (.int q.2.1), some (.int q.2.2), some (.int z), w9]) h'' (fun H0 h0 => by walk_at "hp") (by omega) (fun x hx => rfl) (fun x hx D' M' H0 Q0 h0 q0 => ?_) (fun x hx D' M' H0 Q0 h0 q0 => ?_) (fun x hx _ D' M' H0 Q0 h0 q0 => ?_) fun d6 H6 h6 => ?_
      · have hx2 : H0 x.1 = some (.tup [.int x.2.1, .int x.2.2]) := Has.prs (h0.sub (show Sub (prU s.bag :: _) _ by walk_at "sub")) x (w.bg _ hm x hx)
        walk_at "go"
        exact q0
      · walk_at "go"
        exact q0 H0 h0
      · walk_at "go"
        exact q0 H0 h0
      have e1 : ((m.filter fun q => decide (q.2.1 ≤ z)).map fun q => V.int q.2.1) = ((((m.map (·.2)).filter fun q => decide (q.1 ≤ z)).map (·.1)).map V.int) := by
        rw [List.filter_map, List.map_map, List.map_map]
        rfl
      rw [e1] at h6
      walk_at "go"
      refine k_maxR h6.g0 (fun e2 => ?_) ?_ ?_
      · obtain ⟨x, hx, hxz⟩ := hex
        have : x.2 ∈ (m.map (·.2)).filter fun q => decide (q.1 ≤ z) := List.mem_filter.mpr ⟨List.mem_map.mpr ⟨x, hx, rfl⟩, decide_eq_true hxz⟩
        rw [List.map_eq_nil_iff.mp e2] at this
        exact absurd this List.not_mem_nil
      · have hri2 : ((m.map (·.2)).map (·.1)).Pairwise (· < ·) := by rw [List.map_map]; exact hri
        exact hri2.sublist ((List.filter_sublist).map _)
      · exact q' H6 (h6.sub (Sub.skip Sub.rf))
    rw [show zs.map (fun z => V.int (maxLe (m.map (·.2)) z)) = (zs.map (maxLe (m.map (·.2)))).map V.int by rw [List.map_map]; rfl] at h5
    clear h3
    walk_at "go"
    refine k_lcF m (fun q => V.ref q.1) (fun q => V.ref q.1) (fun q => decide (q.2.1 ∈ zs.map (maxLe (m.map (·.2))))) h5 (fun H0 h0 => by walk_at "hp") (by omega) (fun x hx D' M' H0 Q0 h0 q0 => ?_) (fun x hx _ D' M' H0 Q0 h0 q0 => ?_) fun d7 H7 h7 => ?_
    · have hx2 : H0 x.1 = some (.tup [.int x.2.1, .int x.2.2]) := Has.prs (h0.sub (show Sub (prU s.bag :: _) _ by walk_at "sub")) x (w.bg _ hm x hx)
      walk_at "go"
      exact q0 H0 h0
    · walk_at "go"
      exact q0 H0 h0
    have h7 : Has H7 ([(d7, .lst (fmR (trimR zs m)))] :: _) := h7
    have ex : ixN (fmR (A ++ (la, m) :: B)).length (A.length : Int) = some A.length := by
      rw [fmR_len]
      exact (ix_ok (by omega) (by rw [List.length_append, List.length_cons]; omega)).trans (by rw [Int.toNat_natCast])
    clear h5
    walk_at "go"
    rename_i H8 h8
    rw [fmR_set (m' := trimR zs m)] at h8
    have ea2 : atI (fmR (A ++ (d7, trimR zs m) :: B)) (A.length : Int) = some (.ref d7) := fmR_at (by omega) (by omega)
    clear h7
    walk_at "go"
    rw [fmR_len, fmR_len]
    refine ⟨A ++ (d7, trimR zs m) :: B, some (.int (A.length : Int)), some (.ref la), some (.ref d5), w6, w7, w8, w9, ?_, ht.step, ?_⟩
    · rw [lens_mid, lens_mid]
      show [some (V.ref p), some (.ref d4), some (.int (lens s.rows - (lens A + ((m.length : Int) + lens B)) + (m.length : Int) - ((trimR zs m).length : Int))), _, _, _, _, _, _, _] = _
      rw [show lens s.rows - (lens A + ((m.length : Int) + lens B)) + (m.length : Int) - ((trimR zs m).length : Int) = lens s.rows - (lens A + (((trimR zs m).length : Int) + lens B)) by omega]
    · have h9 := fm_in (ob := obRow) (b := trimR zs m) (h8.sub (show Sub ([(d7, obRow (trimR zs m))] :: fmU obRow A :: fmU obRow B :: _) _ by walk_at "sub"))
      exact h9.sub (show Sub ([(p, _)] :: [(s.ra, _)] :: [(s.ba, _)] :: [(s.qa, _)] :: fmU obRow (A ++ (d7, trimR zs m) :: B) :: famU obA s.asked :: prU s.bag :: [(d4, _)] :: R) _ by walk_at "sub")
  · obtain ⟨rows, w3, w4, w5, w6, w7, w8, w9, rfl, ht, h'⟩ := h'
    rw [show ((fmR s.rows).length : Int).toNat = s.rows.length by rw [fmR_len]; omega] at ht
    walk_at "go"
    refine q zs rows H' z1 z2 ht (ve_in (s := { s with rows := rows }) (h'.sub (show Sub ([(p, _)] :: [(s.ra, _)] :: [(s.ba, _)] :: [(s.qa, _)] :: fmU obRow rows :: famU obA s.asked :: prU s.bag :: R) _ by walk_at "sub")))
end La
/-! None not in a list of lists. -/
namespace Sy
open PySem PySem.W PySem.Calls PySem.Spec PyProof.Rows L2
section
variable {X : Cx}
def rNotInN (K : PySem.W.Frag) : R2 := fun x y H Q => ∃ p xs, x = .non ∧ y = .ref p ∧ SqL K H p xs ∧ (∀ z ∈ xs, ∃ a ys, z = .ref a ∧ SqL K H a ys) ∧ Q (.bl true) H
theorem vals_mem : ∀ {xs : List V} {us : List Value}, Vals xs us → ∀ u ∈ us, ∃ z ∈ xs, RelV z u
  | _, _, .nil => fun u hu => by cases hu
  | y :: xs, u :: us, .cons r t => fun u' hu => by
    rcases List.mem_cons.mp hu with rfl | hu
    · exact ⟨y, List.mem_cons.mpr (.inl rfl), r⟩
    · obtain ⟨z, hz, h⟩ := vals_mem t u' hu
      exact ⟨z, List.mem_cons_of_mem _ hz, h⟩
theorem op_notInN (hu : X.A.units + 64 < cLine) : OpR X (compareOp .NotIn) (rNotInN X.K) := by
  intro pins s σ H x y v u Q I rx ry h
  obtain ⟨p, xs, rfl, rfl, hq, hz, q⟩ := h
  cases ry
  cases rx
  obtain ⟨its, r, pl, _⟩ := I.list hq
  refine SeqAt.notIn_listAt (fun _ => false) pl.isList (fun w hw => ?_) ⟨.bl _, H, I, rfl, ?_⟩
  · obtain ⟨z, hz1, hr⟩ := vals_mem r w (by simpa using hw)
    obtain ⟨a, ys, rfl, ha⟩ := hz z hz1
    cases hr
    obtain ⟨its2, r2, pl2, _⟩ := I.list ha
    exact SeqAt.EqAt.list_none pl2.isList (by have : X.A.in1.units = X.A.units + 1 := rfl; omega)
  · have e : (its.toArray.any fun _ => false) = false := by simp
    rw [e]
    exact q
end
section
variable {K : PySem.W.Frag} {H : Hp} {Q : VK} {p a b : Addr} {xs ys : List V}
theorem k_notInN2 (hp : H p = some (.lst [.ref a, .ref b])) (ha : H a = some (.lst xs)) (hb : H b = some (.lst ys)) (q : Q (.bl true) H) : rNotInN K .non (.ref p) H Q :=
  ⟨p, _, rfl, rfl, SqL.of hp, fun z hz => by
    rcases List.mem_cons.mp hz with rfl | hz
    · exact ⟨a, _, rfl, SqL.of ha⟩
    · rw [List.mem_singleton.mp hz]
      exact ⟨b, _, rfl, SqL.of hb⟩, q⟩
end
end Sy
namespace La
open PySem L2 Sy
def t__law_stores (K : PySem.W.Frag) (C_Versions C_Counts C_Marks C_Rounds : Addr) (sp_mk_Versions sp_mk_Counts sp_mk_Marks sp_mk_Rounds sp_Rounds__Rounds_enter sp_Rounds__Rounds_look sp_Marks__Marks_fetch sp_Marks__Marks_set_mark sp_Marks__Marks_sure sp_Counts__Counts_hold sp_Versions__Versions_begin : Sp) : TS :=
  tSeq (tAsg (tTup (tCons (tMake C_Rounds sp_mk_Rounds [] E0 (tCons (tC (.int 2)) (tCons (tVar 0) (tNil)))) (tCons (tMake C_Marks sp_mk_Marks [] E0 (tCons (tC (.int 2)) (tCons (tVar 0) (tNil)))) (tCons (tMake C_Counts sp_mk_Counts [] E0 (tCons (tC (.int 2)) (tCons (tVar 0) (tNil)))) (tCons (tMake C_Versions sp_mk_Versions [] E0 (tCons (tC (.int 2)) (tCons (tVar 0) (tNil)))) (tNil)))))) (gTup K 4 (gCons (gName 3) (gCons (gName 4) (gCons (gName 5) (gCons (gName 6) (gNil)))))))
    (tSeq (tDrop (tMeth C_Rounds "enter" sp_Rounds__Rounds_enter [] E0 (tVar 3) (tCons (tVar 1) (tNil))))
    (tSeq (tDrop (tMeth C_Rounds "look" sp_Rounds__Rounds_look [] E0 (tVar 3) (tCons (tVar 1) (tCons (tVar 2) (tNil)))))
    (tSeq (tDrop (tMeth C_Marks "fetch" sp_Marks__Marks_fetch [] E0 (tVar 4) (tCons (tVar 1) (tCons (tC (.int 1)) (tCons (tVar 2) (tNil))))))
    (tSeq (tDrop (tMeth C_Marks "set_mark" sp_Marks__Marks_set_mark [] E0 (tVar 4) (tCons (tVar 1) (tCons (tC (.int 1)) (tNil)))))
    (tSeq (tDrop (tMeth C_Marks "sure" sp_Marks__Marks_sure [] E0 (tVar 4) (tCons (tVar 1) (tCons (tC (.int 1)) (tNil)))))
    (tSeq (tDrop (tMeth C_Counts "hold" sp_Counts__Counts_hold [] E0 (tVar 5) (tCons (tVar 1) (tCons (tVar 2) (tNil)))))
    (tSeq (tDrop (tMeth C_Versions "begin" sp_Versions__Versions_begin [] E0 (tVar 6) (tCons (tVar 1) (tNil))))
    (tRet (tTup (tCons (tVar 3) (tCons (tVar 4) (tCons (tVar 5) (tCons (tVar 6) (tNil))))))))))))))
def t_law_b0 (K : PySem.W.Frag) (C_Rounds C_Marks C_Counts C_Versions : Addr) (sp__law_town sp__law_draw sp__law_stores sp_Rounds__Store_swap sp_Marks__Store_swap sp_Counts__Store_swap sp_Versions__Versions_write sp_Rounds__Rounds_go_on sp_Marks__Marks_sweep sp_Versions__Versions_trim sp_Rounds__Store_kept sp_Marks__Store_kept sp_Counts__Store_kept sp_Versions__Versions_kept sp_Rounds__Rounds_leave sp_Marks__Marks_clear_mark sp_Versions__Versions_finish sp_Counts__Counts_drop : Sp) : TS :=
  tDrop (tOrE (tMeth C_Rounds "swap" sp_Rounds__Store_swap [] E0 (tVar 14) (tCons (tVar 13) (tCons (tVar 12) (tNil)))) (tOrE (tMeth C_Marks "swap" sp_Marks__Store_swap [] E0 (tVar 14) (tCons (tVar 13) (tCons (tVar 12) (tNil)))) (tMeth C_Counts "swap" sp_Counts__Store_swap [] E0 (tVar 14) (tCons (tVar 13) (tCons (tVar 12) (tNil))))))
def t_law_b1 (K : PySem.W.Frag) (C_Rounds C_Marks C_Counts C_Versions : Addr) (sp__law_town sp__law_draw sp__law_stores sp_Rounds__Store_swap sp_Marks__Store_swap sp_Counts__Store_swap sp_Versions__Versions_write sp_Rounds__Rounds_go_on sp_Marks__Marks_sweep sp_Versions__Versions_trim sp_Rounds__Store_kept sp_Marks__Store_kept sp_Counts__Store_kept sp_Versions__Versions_kept sp_Rounds__Rounds_leave sp_Marks__Marks_clear_mark sp_Versions__Versions_finish sp_Counts__Counts_drop : Sp) : TS :=
  tSeq (tDrop (tMeth C_Marks "sweep" sp_Marks__Marks_sweep [] E0 (tVar 6) tNil))
    (tDrop (tMeth C_Versions "trim" sp_Versions__Versions_trim [] E0 (tVar 8) tNil))
def t_law_b2 (K : PySem.W.Frag) (C_Rounds C_Marks C_Counts C_Versions : Addr) (sp__law_town sp__law_draw sp__law_stores sp_Rounds__Store_swap sp_Marks__Store_swap sp_Counts__Store_swap sp_Versions__Versions_write sp_Rounds__Rounds_go_on sp_Marks__Marks_sweep sp_Versions__Versions_trim sp_Rounds__Store_kept sp_Marks__Store_kept sp_Counts__Store_kept sp_Versions__Versions_kept sp_Rounds__Rounds_leave sp_Marks__Marks_clear_mark sp_Versions__Versions_finish sp_Counts__Counts_drop : Sp) : TS :=
  tSeq (tAsg (tIf (tTest (tOp rEq (tVar 12) (tC (.int 0)))) (tVar 3) (tCall sp__law_draw [] E0 (tCons (tVar 1) (tCons (tVar 2) (tNil))))) (gName 13))
    (tSeq (tAsg (tC (.bl true)) (gSub (tVar 11) (tVar 13) rSetL))
    (tSeq (tFor (iList K (tLst (tCons (tVar 5) (tCons (tVar 6) (tCons (tVar 7) (tNil)))))) (gName 14) (t_law_b0 K C_Rounds C_Marks C_Counts C_Versions sp__law_town sp__law_draw sp__law_stores sp_Rounds__Store_swap sp_Marks__Store_swap sp_Counts__Store_swap sp_Versions__Versions_write sp_Rounds__Rounds_go_on sp_Marks__Marks_sweep sp_Versions__Versions_trim sp_Rounds__Store_kept sp_Marks__Store_kept sp_Counts__Store_kept sp_Versions__Versions_kept sp_Rounds__Rounds_leave sp_Marks__Marks_clear_mark sp_Versions__Versions_finish sp_Counts__Counts_drop))
    (tSeq (tDrop (tMeth C_Versions "write" sp_Versions__Versions_write [] E0 (tVar 8) (tCons (tLst (tCons (tTup (tCons (tVar 13) (tCons (tVar 12) (tNil)))) (tNil))) (tNil))))
    (tSeq (tDrop (tBM K "list" rAppend (tVar 10) (tCons (tMeth C_Rounds "go_on" sp_Rounds__Rounds_go_on [] E0 (tVar 5) tNil) (tNil))))
    (tIfS (tTest (tOp rEq (tCall sp__law_draw [] E0 (tCons (tVar 1) (tCons (tC (.int 3)) (tNil)))) (tC (.int 0)))) (t_law_b1 K C_Rounds C_Marks C_Counts C_Versions sp__law_town sp__law_draw sp__law_stores sp_Rounds__Store_swap sp_Marks__Store_swap sp_Counts__Store_swap sp_Versions__Versions_write sp_Rounds__Rounds_go_on sp_Marks__Marks_sweep sp_Versions__Versions_trim sp_Rounds__Store_kept sp_Marks__Store_kept sp_Counts__Store_kept sp_Versions__Versions_kept sp_Rounds__Rounds_leave sp_Marks__Marks_clear_mark sp_Versions__Versions_finish sp_Counts__Counts_drop) (tNext))))))
def t_law (K : PySem.W.Frag) (C_Rounds C_Marks C_Counts C_Versions : Addr) (sp__law_town sp__law_draw sp__law_stores sp_Rounds__Store_swap sp_Marks__Store_swap sp_Counts__Store_swap sp_Versions__Versions_write sp_Rounds__Rounds_go_on sp_Marks__Marks_sweep sp_Versions__Versions_trim sp_Rounds__Store_kept sp_Marks__Store_kept sp_Counts__Store_kept sp_Versions__Versions_kept sp_Rounds__Rounds_leave sp_Marks__Marks_clear_mark sp_Versions__Versions_finish sp_Counts__Counts_drop : Sp) : TS :=
  tSeq (tAsg (tCall sp__law_town [] E0 (tCons (tVar 0) (tNil))) (gName 1))
    (tSeq (tAsg (tOp rAddI (tC (.int 1)) (tCall sp__law_draw [] E0 (tCons (tVar 1) (tCons (tC (.int 4)) (tNil))))) (gName 2))
    (tSeq (tAsg (tCall sp__law_draw [] E0 (tCons (tVar 1) (tCons (tVar 2) (tNil)))) (gName 3))
    (tSeq (tAsg (tCall sp__law_draw [] E0 (tCons (tVar 1) (tCons (tC (.int 2)) (tNil)))) (gName 4))
    (tSeq (tAsg (tCall sp__law_stores [] E0 (tCons (tVar 2) (tCons (tVar 4) (tCons (tVar 3) (tNil))))) (gTup K 4 (gCons (gName 5) (gCons (gName 6) (gCons (gName 7) (gCons (gName 8) (gNil)))))))
    (tSeq (tAsg (tOp rAddI (tC (.int 6)) (tCall sp__law_draw [] E0 (tCons (tVar 1) (tCons (tC (.int 8)) (tNil))))) (gName 9))
    (tSeq (tAsg (tLst (tNil)) (gName 10))
    (tSeq (tAsg (tOp rRep (tLst (tCons (tC (.bl false)) (tNil))) (tVar 2)) (gName 11))
    (tSeq (tFor (iRng1 (tCons (tVar 9) (tNil))) (gName 12) (t_law_b2 K C_Rounds C_Marks C_Counts C_Versions sp__law_town sp__law_draw sp__law_stores sp_Rounds__Store_swap sp_Marks__Store_swap sp_Counts__Store_swap sp_Versions__Versions_write sp_Rounds__Rounds_go_on sp_Marks__Marks_sweep sp_Versions__Versions_trim sp_Rounds__Store_kept sp_Marks__Store_kept sp_Counts__Store_kept sp_Versions__Versions_kept sp_Rounds__Rounds_leave sp_Marks__Marks_clear_mark sp_Versions__Versions_finish sp_Counts__Counts_drop))
    (tSeq (tDrop (tMeth C_Marks "sweep" sp_Marks__Marks_sweep [] E0 (tVar 6) tNil))
    (tSeq (tDrop (tMeth C_Versions "trim" sp_Versions__Versions_trim [] E0 (tVar 8) tNil))
    (tSeq (tIfS (tOr (tTest (tOp (rNeD K) (tLc (iList K (tSl (rSlL K) (tVar 10) (tPart (tC (.int 1))) (tNoPart))) (gName 15) (tTest (tOp rNotNo (tVar 15) (tC .non))) (tVar 15) [15]) (tLst (tNil)))) (tTest (tOp (rNeD K) (tMeth C_Rounds "kept" sp_Rounds__Store_kept [] E0 (tVar 5) tNil) (tLstRg (tRg1 (tOp rAddI (tVar 2) (tVar 9))))))) (tRet (tC (.bl false))) (tNext))
    (tSeq (tIfS (tOr (tTest (tOp (rNeD K) (tLc (iList K (tLst (tCons (tVar 6) (tCons (tVar 7) (tNil))))) (gName 14) tYes (tCB (rLenQ K) (tCons (tOrE (tMeth C_Rounds "kept" sp_Rounds__Store_kept [] E0 (tVar 14) tNil) (tOrE (tMeth C_Marks "kept" sp_Marks__Store_kept [] E0 (tVar 14) tNil) (tMeth C_Counts "kept" sp_Counts__Store_kept [] E0 (tVar 14) tNil))) (tNil))) [14]) (tOp rRep (tLst (tCons (tOp rAddI (tVar 2) (tC (.int 1))) (tNil))) (tC (.int 2))))) (tTest (tOp (rIn K true) (tVar 3) (tOp rCat (tMeth C_Marks "kept" sp_Marks__Store_kept [] E0 (tVar 6) tNil) (tMeth C_Counts "kept" sp_Counts__Store_kept [] E0 (tVar 7) tNil))))) (tRet (tC (.bl false))) (tNext))
    (tSeq (tIfS (tTest (tOp (rNeD K) (tLc (iRng1 (tCons (tVar 2) (tNil))) (gName 16) tYes (tCB (rLenQ K) (tCons (tMeth C_Versions "kept" sp_Versions__Versions_kept [] E0 (tVar 8) (tCons (tVar 16) (tNil))) (tNil))) [16]) (tLc (iRng1 (tCons (tVar 2) (tNil))) (gName 16) tYes (tIf (tB (tOp (rIxL K) (tVar 11) (tVar 16))) (tC (.int 2)) (tC (.int 1))) [16]))) (tRet (tC (.bl false))) (tNext))
    (tSeq (tDrop (tMeth C_Rounds "leave" sp_Rounds__Rounds_leave [] E0 (tVar 5) (tCons (tVar 4) (tNil))))
    (tSeq (tDrop (tMeth C_Marks "clear_mark" sp_Marks__Marks_clear_mark [] E0 (tVar 6) (tCons (tVar 4) (tCons (tC (.int 1)) (tNil)))))
    (tSeq (tDrop (tMeth C_Versions "finish" sp_Versions__Versions_finish [] E0 (tVar 8) (tCons (tVar 4) (tNil))))
    (tSeq (tIfS (tOr (tTest (tOp rNotB (tMeth C_Counts "drop" sp_Counts__Counts_drop [] E0 (tVar 7) (tCons (tVar 4) (tCons (tVar 3) (tNil)))) (tC (.bl true)))) (tOr (tTest (tOp (rNeD K) (tMeth C_Marks "sweep" sp_Marks__Marks_sweep [] E0 (tVar 6) tNil) (tLst (tCons (tVar 3) (tNil))))) (tTest (tOp rNe (tMeth C_Versions "trim" sp_Versions__Versions_trim [] E0 (tVar 8) tNil) (tBM K "list" (rCntV K) (tVar 11) (tCons (tC (.bl true)) (tNil))))))) (tRet (tC (.bl false))) (tNext))
    (tSeq (tAsg (tLst (tCons (tMeth C_Rounds "go_on" sp_Rounds__Rounds_go_on [] E0 (tVar 5) tNil) (tCons (tMeth C_Rounds "go_on" sp_Rounds__Rounds_go_on [] E0 (tVar 5) tNil) (tNil)))) (gName 17))
    (tRet (tAndV (tOp (rNotInN K) (tC .non) (tVar 17)) (tAndV (tOp rEq (tCB (rLenQ K) (tCons (tMeth C_Rounds "kept" sp_Rounds__Store_kept [] E0 (tVar 5) tNil) (tNil))) (tVar 2)) (tAndV (tOp (rEqD K) (tMeth C_Rounds "kept" sp_Rounds__Store_kept [] E0 (tVar 5) tNil) (tMeth C_Marks "kept" sp_Marks__Store_kept [] E0 (tVar 6) tNil)) (tOp (rEqD K) (tMeth C_Marks "kept" sp_Marks__Store_kept [] E0 (tVar 6) tNil) (tMeth C_Counts "kept" sp_Counts__Store_kept [] E0 (tVar 7) tNil))))))))))))))))))))))))
end La
namespace La
open PySem L2 Sy
local macro_rules | `(tactic| walk_at "fl") => `(tactic| first | assumption | exact stF_hands | exact stF_worth | exact stF_cells | exact stF_made | exact StX.f1 (by assumption) | exact StX.f2 (by assumption) | exact StX.f3 (by assumption) | exact StX.f4 (by assumption) | exact StX.f5 (by assumption) | exact StX.f6 (by assumption) | exact StX.f7 (by assumption) | exact StX.f8 (by assumption) | exact StX.f9 (by assumption))
local macro_rules | `(tactic| walk_at "fsl") => `(tactic| first | assumption | exact StX.fl (by assumption))
local macro_rules | `(tactic| walk_at "put") => `(tactic| first | exact stF_put_made | exact stF_put_cells | exact stF_put_worth | exact stF_put_hands)
local macro_rules | `(tactic| walk_at "fl") => `(tactic| first | assumption | exact stF_hands | exact stF_worth | exact stF_cells | exact stF_made | exact rd_era | exact rd_inside | exact rd_saw | exact rd_waits | exact rd_m_enter | exact rd_m_look_in | exact rd_m_leave | exact rd_m_look | exact rd_m_read | exact rd_m_go_on | exact rd_m_round_now | exact rd_m_hands_in | exact StX.f1 rdX_ok | exact StX.f2 rdX_ok | exact StX.f3 rdX_ok | exact StX.f4 rdX_ok | exact StX.f5 rdX_ok | exact StX.f6 rdX_ok | exact StX.f7 rdX_ok | exact StX.f8 rdX_ok | exact StX.f9 rdX_ok)
local macro_rules | `(tactic| walk_at "put") => `(tactic| first | exact rd_put_era | exact rd_put_inside | exact rd_put_saw | exact rd_put_waits)
local macro_rules | `(tactic| walk_at "fsl") => `(tactic| first | assumption | exact StX.fl rdX_ok)
local macro_rules | `(tactic| walk_at "fl") => `(tactic| first | assumption | exact stF_hands | exact stF_worth | exact stF_cells | exact stF_made | exact mk_marks | exact mk_waits | exact mk_m_look_mark | exact mk_m_state_of | exact mk_m_fetch | exact mk_m_set_mark | exact mk_m_sure | exact mk_m_read | exact mk_m_clear_mark | exact mk_m_marked | exact mk_m_sweep | exact StX.f1 mkX_ok | exact StX.f2 mkX_ok | exact StX.f3 mkX_ok | exact StX.f4 mkX_ok | exact StX.f5 mkX_ok | exact StX.f6 mkX_ok | exact StX.f7 mkX_ok | exact StX.f8 mkX_ok | exact StX.f9 mkX_ok)
local macro_rules | `(tactic| walk_at "put") => `(tactic| first | exact mk_put_marks | exact mk_put_waits | exact stF_put_made | exact stF_put_cells | exact stF_put_worth | exact stF_put_hands)
local macro_rules | `(tactic| walk_at "fsl") => `(tactic| first | assumption | exact StX.fl mkX_ok)
local macro_rules | `(tactic| walk_at "fl") => `(tactic| first | assumption | exact stF_hands | exact stF_worth | exact stF_cells | exact stF_made | exact ct_held | exact ct_m_count_of | exact ct_m_hold | exact ct_m_look_held | exact ct_m_read | exact ct_m_drop | exact ct_m_loose | exact ct_m_holds | exact StX.f1 ctX_ok | exact StX.f2 ctX_ok | exact StX.f3 ctX_ok | exact StX.f4 ctX_ok | exact StX.f5 ctX_ok | exact StX.f6 ctX_ok | exact StX.f7 ctX_ok | exact StX.f8 ctX_ok | exact StX.f9 ctX_ok)
local macro_rules | `(tactic| walk_at "put") => `(tactic| first | exact ct_put_held | exact stF_put_made | exact stF_put_cells | exact stF_put_worth | exact stF_put_hands)
local macro_rules | `(tactic| walk_at "fsl") => `(tactic| first | assumption | exact StX.fl ctX_ok)
local macro_rules | `(tactic| walk_at "fl") => `(tactic| first | assumption | exact ve_hands | exact ve_rows | exact ve_version | exact ve_begun | exact ve_asked | kernel_rfl)
local macro_rules | `(tactic| walk_at "put") => `(tactic| first | exact ve_put_hands | exact ve_put_rows | exact ve_put_version | exact ve_put_begun | exact ve_put_asked | exact ve_p1 | exact ve_p2 | exact ve_p3 | exact ve_p4 | exact ve_p5)
local macro_rules | `(tactic| walk_at "fsl") => `(tactic| first | assumption | exact ve_len | (show 0 < 1000; decide) | (show 1 < 1000; decide) | (show 2 < 1000; decide) | (show 3 < 1000; decide) | (show 4 < 1000; decide))
theorem fd_rms {β : Type} {m : List (Int × β)} {ks : List Int} {k : Int} (h : k ∉ ks) : fd (rms m ks) k = fd m k := by
  induction m with
  | nil => rfl
  | cons p r ih =>
    have ih : fd (List.filter (fun q => decide (q.1 ∉ ks)) r) k = fd r k := ih
    unfold rms
    by_cases e : p.1 = k
    · rw [List.filter_cons, if_pos (by rw [e]; simpa using h), fd_pos e, fd_pos e]
    · rw [fd_neg e, List.filter_cons]
      split
      · rw [fd_neg e, ih]
      · exact ih
theorem mem_set_other {z w : Int} : ∀ {l : List Int} {j : Nat}, z ∈ l → z ≠ l.getD j 0 → z ∈ l.set j w
  | [], _, h, _ => by cases h
  | a :: r, 0, h, hn => by
    show z ∈ w :: r
    rcases List.mem_cons.mp h with e | e
    · exact absurd e hn
    · exact List.mem_cons.mpr (.inr e)
  | a :: r, j + 1, h, hn => by
    show z ∈ a :: r.set j w
    rcases List.mem_cons.mp h with e | e
    · exact List.mem_cons.mpr (.inl e)
    · exact List.mem_cons.mpr (.inr (mem_set_other e hn))
theorem opt2 {α β γ : Type} {x : Option α} {y : Option β} {f : α → γ} {g : β → γ} (h : x.map f = y.map g) : (x = none ∧ y = none) ∨ ∃ a b, x = some a ∧ y = some b ∧ f a = g b := by
  cases x with
  | none => cases y with
    | none => exact .inl ⟨rfl, rfl⟩
    | some b => cases h
  | some a => cases y with
    | none => cases h
    | some b => exact .inr ⟨a, b, rfl, rfl, Option.some.inj h⟩
/-- what holds between two turns -/
structure I3 (r : Rnd) (ow : Own) (ls : List (Int × (Addr × List Int))) (hn cn : Int) (i : Nat) : Prop where
  wf : r.wf
  hh : r.sto.hands = hn
  hc : (r.sto.cells.length : Int) = cn
  oc : ow.cells = r.sto.cells
  ov : ow.vals = r.sto.vals
  lv : r.sto.vals.length ≤ 5 + i
  lk : ow.kept.length ≤ 5 + i
  kn : ls.map (·.1) = r.inside.map (·.1)
  eq : ∀ k, (fd ls k).map (·.2) = (fd r.saw k).map (·.2)
  ln : ∀ q ∈ r.saw, q.2.2.length ≤ i
  ln2 : ∀ q ∈ ls, q.2.2.length ≤ i
  era0 : ∀ q ∈ r.inside, q.2 ≤ r.era
  safe : ∀ k l xs e, fd r.saw k = some (l, xs) → fd r.inside k = some e → ∀ z ∈ xs, z ∈ r.sto.kept ∧ (z ∈ r.sto.cells ∨ ∃ w, fd r.waits z = some w ∧ e ≤ w)
theorem I3.more {r : Rnd} {ow : Own} {ls : List (Int × (Addr × List Int))} {hn cn : Int} {i : Nat} (I : I3 r ow ls hn cn i) : I3 r ow ls hn cn (i + 1) :=
  { I with lv := by have := I.lv; omega, lk := by have := I.lk; omega, ln := fun q hq => by have := I.ln q hq; omega, ln2 := fun q hq => by have := I.ln2 q hq; omega }
theorem I3.swap {r : Rnd} {ow : Own} {ls : List (Int × (Addr × List Int))} {hn cn : Int} {i : Nat} (I : I3 r ow ls hn cn i) {j v : Int} (j0 : 0 ≤ j) (j1 : j < r.sto.cells.length) (hi : i < 900) : I3 (r.swap j v) (ow.swap j v) ls hn cn (i + 1) where
  wf := I.wf.swap j0 j1 (by have := I.lv; omega)
  hh := I.hh
  hc := by show ((r.sto.cells.set _ _).length : Int) = cn; rw [List.length_set]; exact I.hc
  oc := by show ow.cells.set _ _ = r.sto.cells.set _ _; rw [I.oc, I.ov]
  ov := by show ow.vals ++ [v] = r.sto.vals ++ [v]; rw [I.ov]
  lv := by have := I.lv; show (r.sto.vals ++ [v]).length ≤ _; rw [List.length_append]; show r.sto.vals.length + 1 ≤ _; omega
  lk := by have := I.lk; show (ow.kept ++ [_]).length ≤ _; rw [List.length_append]; show ow.kept.length + 1 ≤ _; omega
  kn := I.kn
  eq := I.eq
  ln := fun q hq => by have := I.ln q hq; omega
  ln2 := fun q hq => by have := I.ln2 q hq; omega
  era0 := I.era0
  safe := fun k l xs e hs he z hz => by
    obtain ⟨h1, h2⟩ := I.safe k l xs e hs he z hz
    have e0 := I.era0 _ (fd_mem he)
    have e0 : e ≤ r.era := e0
    refine ⟨List.mem_append.mpr (.inl h1), ?_⟩
    by_cases ez : z = r.sto.cells.getD j.toNat 0
    · right
      exact ⟨r.era, by show fd (pu _ _ _) z = _; rw [fd_pu, if_pos ez], e0⟩
    · rcases h2 with h2 | ⟨w, h2, h3⟩
      · exact .inl (mem_set_other h2 ez)
      · exact .inr ⟨w, by show fd (pu _ _ _) z = _; rw [fd_pu, if_neg ez]; exact h2, h3⟩
theorem I3.next {r : Rnd} {ow : Own} {ls : List (Int × (Addr × List Int))} {hn cn : Int} {i : Nat} (I : I3 r ow ls hn cn i) (hf : r.free) : I3 r.next ow ls hn cn (i + 1) where
  wf := I.wf.next
  hh := I.hh
  hc := I.hc
  oc := I.oc
  ov := I.ov
  lv := by have := I.lv; show r.sto.vals.length ≤ _; omega
  lk := by have := I.lk; omega
  kn := I.kn
  eq := I.eq
  ln := fun q hq => by have := I.ln q hq; omega
  ln2 := fun q hq => by have := I.ln2 q hq; omega
  era0 := fun q hq => by have := I.era0 q hq; show q.2 ≤ r.era + 1; omega
  safe := fun k l xs e hs he z hz => by
    obtain ⟨h1, h2⟩ := I.safe k l xs e hs he z hz
    have e0 : e = r.era := hf _ (fd_mem he)
    have hng : z ∉ r.gone := fun hg => by
      obtain ⟨g1, g2⟩ := List.mem_filter.mp hg
      rcases h2 with h2 | ⟨w, h2, h3⟩
      · exact (I.wf.wk z g1).2 h2
      · rw [h2] at g2
        have g3 : w ≤ r.era + 1 - 2 := by simpa using g2
        omega
    refine ⟨List.mem_filter.mpr ⟨h1, by simpa using hng⟩, ?_⟩
    rcases h2 with h2 | ⟨w, h2, h3⟩
    · exact .inl h2
    · exact .inr ⟨w, by show fd (rms _ _) z = _; rw [fd_rms hng]; exact h2, h3⟩
theorem I3.enter {r : Rnd} {ow : Own} {ls : List (Int × (Addr × List Int))} {hn cn : Int} {i : Nat} (I : I3 r ow ls hn cn i) {k : Int} {l l2 : Addr} (k0 : 0 ≤ k) (k1 : k < hn) (hk : fd r.inside k = none) : I3 (r.enter k l) ow (ls ++ [(k, (l2, []))]) hn cn (i + 1) where
  wf := I.wf.enter k0 (by rw [I.hh]; exact k1) hk
  hh := I.hh
  hc := I.hc
  oc := I.oc
  ov := I.ov
  lv := by have := I.lv; show r.sto.vals.length ≤ _; omega
  lk := by have := I.lk; omega
  kn := by show (ls ++ [_]).map _ = (r.inside ++ [_]).map _; rw [List.map_append, List.map_append, I.kn]; rfl
  eq := fun j => by
    show (fd (ls ++ [_]) j).map _ = (fd (r.saw ++ [_]) j).map _
    rw [fd_append, fd_append]
    rcases opt2 (I.eq j) with ⟨e1, e2⟩ | ⟨a, b, e1, e2, e3⟩
    · rw [e1, e2]
      show (fd [(k, (l2, ([] : List Int)))] j).map _ = (fd [(k, (l, ([] : List Int)))] j).map _
      by_cases e : k = j
      · rw [fd_pos (p := (k, (l2, ([] : List Int)))) e, fd_pos (p := (k, (l, ([] : List Int)))) e]
        rfl
      · rw [fd_neg (p := (k, (l2, ([] : List Int)))) e, fd_neg (p := (k, (l, ([] : List Int)))) e]
    · rw [e1, e2]
      show some a.2 = some b.2
      rw [e3]
  ln := fun q hq => by
    rcases List.mem_append.mp hq with h | h
    · have := I.ln q h; omega
    · rw [List.mem_singleton.mp h]; exact Nat.zero_le _
  ln2 := fun q hq => by
    rcases List.mem_append.mp hq with h | h
    · have := I.ln2 q h; omega
    · rw [List.mem_singleton.mp h]; exact Nat.zero_le _
  era0 := fun q hq => by
    rcases List.mem_append.mp hq with h | h
    · exact I.era0 q h
    · rw [List.mem_singleton.mp h]; exact Int.le_refl _
  safe := fun j l' xs e hs he z hz => by
    have hs : fd (r.saw ++ [(k, (l, []))]) j = some (l', xs) := hs
    have he : fd (r.inside ++ [(k, r.era)]) j = some e := he
    rw [fd_append] at hs he
    by_cases ej : k = j
    · subst ej
      have : fd r.saw k = none := fd_none.mpr (by rw [I.wf.keys]; exact fd_none.mp hk)
      rw [this, fd_pos (p := (k, (l, ([] : List Int)))) rfl] at hs
      cases hs
      cases hz
    · rw [fd_neg (p := (k, (l, ([] : List Int)))) ej, fd_nil, Option.or_none] at hs
      rw [fd_neg (p := (k, r.era)) ej, fd_nil, Option.or_none] at he
      exact I.safe j l' xs e hs he z hz
theorem I3.leave {r : Rnd} {ow : Own} {ls : List (Int × (Addr × List Int))} {hn cn : Int} {i : Nat} (I : I3 r ow ls hn cn i) (k : Int) : I3 (r.leave k) ow (rm ls k) hn cn (i + 1) where
  wf := I.wf.leave k
  hh := I.hh
  hc := I.hc
  oc := I.oc
  ov := I.ov
  lv := by have := I.lv; show r.sto.vals.length ≤ _; omega
  lk := by have := I.lk; omega
  kn := by show (rm ls k).map _ = (rm r.inside k).map _; rw [rm_keys, rm_keys, I.kn]
  eq := fun j => by
    show (fd (rm ls k) j).map _ = (fd (rm r.saw k) j).map _
    rw [fd_rm, fd_rm]
    split
    · rfl
    · exact I.eq j
  ln := fun q hq => by have := I.ln q (rm_mem.mp hq).1; omega
  ln2 := fun q hq => by have := I.ln2 q (rm_mem.mp hq).1; omega
  era0 := fun q hq => I.era0 q (rm_mem.mp hq).1
  safe := fun j l' xs e hs he z hz => by
    have hs : fd (rm r.saw k) j = some (l', xs) := hs
    have he : fd (rm r.inside k) j = some e := he
    rw [fd_rm] at hs he
    split at hs
    · cases hs
    · rename_i ej
      rw [if_neg ej] at he
      exact I.safe j l' xs e hs he z hz
theorem sawAdd_mem {m : List (Int × (Addr × List Int))} {k x : Int} {q : Int × (Addr × List Int)} (h : q ∈ sawAdd m k x) : ∃ q0 ∈ m, q.2.2.length ≤ q0.2.2.length + 1 := by
  unfold sawAdd at h
  obtain ⟨q0, h0, e⟩ := List.mem_map.mp h
  refine ⟨q0, h0, ?_⟩
  rw [← e]
  split
  · show (q0.2.2 ++ [x]).length ≤ _; rw [List.length_append]; exact Nat.le_refl _
  · omega
theorem I3.look {r : Rnd} {ow : Own} {ls : List (Int × (Addr × List Int))} {hn cn : Int} {i : Nat} (I : I3 r ow ls hn cn i) (k : Int) {c : Int} (c0 : 0 ≤ c) (c1 : c < r.sto.cells.length) : I3 (r.look k c) ow (sawAdd ls k (r.sto.cells.getD c.toNat 0)) hn cn (i + 1) where
  wf := I.wf.look k c
  hh := I.hh
  hc := I.hc
  oc := I.oc
  ov := I.ov
  lv := by have := I.lv; show r.sto.vals.length ≤ _; omega
  lk := by have := I.lk; omega
  kn := by show (sawAdd _ _ _).map _ = r.inside.map _; rw [sawAdd_keys, I.kn]
  eq := fun j => by
    show (fd (sawAdd _ _ _) j).map _ = (fd (sawAdd _ _ _) j).map _
    rw [sawAdd_fd, sawAdd_fd]
    rcases opt2 (I.eq j) with ⟨e1, e2⟩ | ⟨a, b, e1, e2, e3⟩
    · rw [e1, e2]
    · rw [e1, e2]
      show some (if j = k then (a.1, a.2 ++ _) else a).2 = some (if j = k then (b.1, b.2 ++ _) else b).2
      split
      · show some (a.2 ++ _) = some (b.2 ++ _)
        rw [e3]
      · rw [e3]
  ln := fun q hq => by
    obtain ⟨q0, h0, h1⟩ := sawAdd_mem hq
    have := I.ln q0 h0
    omega
  ln2 := fun q hq => by
    obtain ⟨q0, h0, h1⟩ := sawAdd_mem hq
    have := I.ln2 q0 h0
    omega
  era0 := I.era0
  safe := fun j l' xs e hs he z hz => by
    have hs : fd (sawAdd r.saw k (r.sto.cells.getD c.toNat 0)) j = some (l', xs) := hs
    have he : fd r.inside j = some e := he
    rw [sawAdd_fd] at hs
    obtain ⟨⟨l0, xs0⟩, h0, e0⟩ := Option.map_eq_some_iff.mp hs
    by_cases ej : j = k
    · rw [if_pos ej] at e0
      have e1 : xs0 ++ [r.sto.cells.getD c.toNat 0] = xs := congrArg Prod.snd e0
      rw [← e1] at hz
      rcases List.mem_append.mp hz with q | q
      · exact I.safe j l0 xs0 e h0 he z q
      · rw [List.mem_singleton.mp q]
        have hm := getD_mem (l := r.sto.cells) (j := c.toNat) (by omega)
        exact ⟨I.wf.ok.here _ hm, .inl hm⟩
    · rw [if_neg ej] at e0
      cases e0
      exact I.safe j l' xs e h0 he z hz
theorem mem_set_ne {l : List Int} {j : Nat} {x z : Int} (h : z ∈ l) (hne : z ≠ l.getD j 0) : z ∈ l.set j x := by
  obtain ⟨n, hn, e⟩ := List.mem_iff_getElem.mp h
  have hnj : j ≠ n := fun q => hne (by subst q; rw [List.getD_eq_getElem?_getD, List.getElem?_eq_getElem hn]; exact e.symm)
  refine List.mem_iff_getElem.mpr ⟨n, by rw [List.length_set]; exact hn, ?_⟩
  rw [List.getElem_set_ne hnj]
  exact e
def flat (hl : Rows) : List Int := (hl.map (·.2)).flatten
def cn0 (n : Nat) : Option Int := if n = 0 then none else some (n : Int)
def Rel (m : Hld) (hl : Rows) : Prop := ∀ (k : Nat) q, hl[k]? = some q → ∀ z, fd m ((k : Int), z) = cn0 (q.2.count z)
theorem held_iff {m : Hld} {hl : Rows} {hn : Int} (nd : (m.map (·.1)).Nodup) (kr : ∀ q ∈ m, 0 ≤ q.1.1 ∧ q.1.1 < hn) (hlen : (hl.length : Int) = hn) (rel : Rel m hl) (z : Int) : (∃ q ∈ m, q.1.2 = z) ↔ z ∈ flat hl := by
  unfold flat
  rw [List.mem_flatten]
  constructor
  · rintro ⟨q, hq, rfl⟩
    obtain ⟨k0, k1⟩ := kr q hq
    have hk : q.1.1.toNat < hl.length := by omega
    have h1 := rel q.1.1.toNat _ (List.getElem?_eq_getElem hk) q.1.2
    rw [Int.toNat_of_nonneg k0, fd_of nd (show ((q.1.1, q.1.2), q.2) ∈ m from hq)] at h1
    refine ⟨_, List.mem_map.mpr ⟨_, List.getElem_mem hk, rfl⟩, ?_⟩
    refine List.count_pos_iff.mp (Nat.pos_of_ne_zero fun e => ?_)
    rw [e] at h1
    cases h1
  · rintro ⟨l, hl1, hz⟩
    obtain ⟨q, hq, rfl⟩ := List.mem_map.mp hl1
    obtain ⟨k, hk⟩ := List.getElem?_of_mem hq
    have h1 := rel k q hk z
    have h2 := List.count_pos_iff.mpr hz
    unfold cn0 at h1
    rw [if_neg (by omega)] at h1
    exact ⟨_, fd_mem h1, rfl⟩
structure I10 (r : Cnt) (ow : Own) (hl : Rows) (hn cn : Int) (i : Nat) : Prop where
  wf : r.wf
  hh : r.sto.hands = hn
  hc : (r.sto.cells.length : Int) = cn
  oc : ow.cells = r.sto.cells
  ov : ow.vals = r.sto.vals
  ol : ow.kept.length ≤ 5 + i
  lv : r.sto.vals.length ≤ 5 + i
  ln : (hl.length : Int) = hn
  rel : Rel r.held hl
  kx : ∀ z ∈ r.sto.kept, z ∈ r.sto.cells ∨ ∃ q ∈ r.held, q.1.2 = z
  ll : r.held.length ≤ i
  tl : (flat hl).length ≤ i
theorem I10.iff {r : Cnt} {ow : Own} {hl : Rows} {hn cn : Int} {i : Nat} (I : I10 r ow hl hn cn i) (z : Int) : (∃ q ∈ r.held, q.1.2 = z) ↔ z ∈ flat hl := held_iff I.wf.nd I.wf.kr (I.ln.trans I.hh.symm) I.rel z
theorem I10.keep {r : Cnt} {ow : Own} {hl : Rows} {hn cn : Int} {i : Nat} (I : I10 r ow hl hn cn i) (z : Int) : z ∈ r.sto.kept ↔ z ∈ r.sto.cells ++ flat hl := by
  rw [List.mem_append, ← I.iff z]
  constructor
  · exact I.kx z
  · rintro (h | ⟨q, hq, rfl⟩)
    · exact I.wf.ok.here z h
    · exact I.wf.hk q hq
theorem Cnt.wf.swap {r : Cnt} (w : r.wf) {j v : Int} (j0 : 0 ≤ j) (j1 : j < r.sto.cells.length) (hv : r.sto.vals.length < 1000) : (r.swap j v).wf := by
  have ok := w.ok.swap (v := v) j0 j1 hv
  unfold Cnt.swap
  cases hd : r.hasd (r.sto.cells.getD j.toNat 0) with
  | true => exact ⟨ok, w.nd, w.kr, w.ps, fun q hq => List.mem_append.mpr (.inl (w.hk q hq)), w.ll⟩
  | false =>
    refine ⟨ok.less fun k hk => ?_, w.nd, w.kr, w.ps, fun q hq => ?_, w.ll⟩
    · rw [List.mem_singleton.mp hk]
      exact swap_out w.ok j0 j1
    · refine List.mem_filter.mpr ⟨List.mem_append.mpr (.inl (w.hk q hq)), decide_eq_true fun h => ?_⟩
      have : r.hasd (r.sto.cells.getD j.toNat 0) = true := hasd_iff.mpr ⟨q, hq, List.mem_singleton.mp h⟩
      rw [hd] at this
      cases this
theorem swap_held (r : Cnt) (j v : Int) : (r.swap j v).held = r.held := rfl
theorem swap_cells (r : Cnt) (j v : Int) : (r.swap j v).sto.cells = r.sto.cells.set j.toNat (r.sto.vals.length : Int) := by unfold Cnt.swap; split <;> rfl
theorem swap_vals (r : Cnt) (j v : Int) : (r.swap j v).sto.vals = r.sto.vals ++ [v] := by unfold Cnt.swap; split <;> rfl
theorem swap_hands (r : Cnt) (j v : Int) : (r.swap j v).sto.hands = r.sto.hands := by unfold Cnt.swap; split <;> rfl
theorem I10.swap {r : Cnt} {ow : Own} {hl : Rows} {hn cn : Int} {i : Nat} (I : I10 r ow hl hn cn i) {j v : Int} (j0 : 0 ≤ j) (j1 : j < r.sto.cells.length) (hi : i < 900) : I10 (r.swap j v) (ow.swap j v) hl hn cn (i + 1) where
  wf := I.wf.swap j0 j1 (by have := I.lv; omega)
  hh := by rw [swap_hands]; exact I.hh
  hc := by rw [swap_cells, List.length_set]; exact I.hc
  oc := by rw [swap_cells]; show ow.cells.set _ _ = _; rw [I.oc, I.ov]
  ov := by rw [swap_vals]; show ow.vals ++ [v] = _; rw [I.ov]
  ol := by have := I.ol; show (ow.kept ++ [_]).length ≤ _; rw [List.length_append]; show ow.kept.length + 1 ≤ _; omega
  lv := by have := I.lv; rw [swap_vals, List.length_append]; show r.sto.vals.length + 1 ≤ _; omega
  ln := I.ln
  rel := I.rel
  kx := by
    rw [swap_cells, swap_held]
    intro z hz
    have hz2 : (z ∈ r.sto.kept ++ [(r.sto.vals.length : Int)]) ∧ (r.hasd (r.sto.cells.getD j.toNat 0) = false → z ≠ r.sto.cells.getD j.toNat 0) := by
      unfold Cnt.swap at hz
      split at hz
      · rename_i h
        exact ⟨hz, fun h2 => absurd (h.symm.trans h2) (by decide)⟩
      · obtain ⟨h1, h2⟩ := List.mem_filter.mp hz
        exact ⟨h1, fun _ e => of_decide_eq_true h2 (List.mem_singleton.mpr e)⟩
    obtain ⟨h1, h2⟩ := hz2
    rcases List.mem_append.mp h1 with hz | hz
    · by_cases e : z = r.sto.cells.getD j.toNat 0
      · cases hd : r.hasd (r.sto.cells.getD j.toNat 0) with
        | true => exact .inr (by rw [e]; exact hasd_iff.mp hd)
        | false => exact absurd e (h2 hd)
      · rcases I.kx z hz with h | h
        · exact .inl (mem_set_ne h e)
        · exact .inr h
    · rw [List.mem_singleton.mp hz]
      exact .inl (List.mem_set (by omega) _)
  ll := by have := I.ll; rw [swap_held]; omega
  tl := by have := I.tl; omega
theorem flat_mid (A B : Rows) (a : Addr) (l : List Int) : flat (A ++ (a, l) :: B) = flat A ++ (l ++ flat B) := by unfold flat; rw [List.map_append, List.flatten_append]; rfl
/-- one row is another -/
theorem rel_mid {m m2 : Hld} {A B : Rows} {a : Addr} {l l2 : List Int} (h : Rel m (A ++ (a, l) :: B)) (h1 : ∀ z, fd m2 ((A.length : Int), z) = cn0 (l2.count z)) (h2 : ∀ k z, k ≠ (A.length : Int) → fd m2 (k, z) = fd m (k, z)) : Rel m2 (A ++ (a, l2) :: B) := by
  intro k q hq z
  by_cases e : k = A.length
  · subst e
    rw [List.getElem?_append_right (Nat.le_refl _), Nat.sub_self] at hq
    have hq : (a, l2) = q := Option.some.inj hq
    rw [← hq]
    exact h1 z
  · rw [h2 k z (by omega)]
    refine h k q ?_ z
    by_cases hk : k < A.length
    · rw [List.getElem?_append_left hk] at hq ⊢
      exact hq
    · have hd : k - A.length = (k - A.length - 1) + 1 := by omega
      rw [List.getElem?_append_right (by omega), hd] at hq ⊢
      exact hq
theorem rel_at {m : Hld} {A B : Rows} {a : Addr} {l : List Int} (h : Rel m (A ++ (a, l) :: B)) (z : Int) : fd m ((A.length : Int), z) = cn0 (l.count z) := h A.length (a, l) (by rw [List.getElem?_append_right (Nat.le_refl _), Nat.sub_self]; rfl) z
theorem Cnt.wf.hold {r : Cnt} (w : r.wf) {k z n : Int} (k0 : 0 ≤ k) (k1 : k < r.sto.hands) (hz : z ∈ r.sto.kept) (hn : 1 ≤ n) (hl : r.held.length < 1000) : ({ r with held := pu r.held (k, z) n } : Cnt).wf where
  ok := w.ok
  nd := pu_nd _ w.nd
  kr := fun q hq => by
    rcases pu_mem hq with h | h
    · exact w.kr q h
    · rw [h]; exact ⟨k0, k1⟩
  ps := fun q hq => by
    rcases pu_mem hq with h | h
    · exact w.ps q h
    · rw [h]; exact hn
  hk := fun q hq => by
    rcases pu_mem hq with h | h
    · exact w.hk q h
    · rw [h]; exact hz
  ll := by have := pu_len' r.held (k, z) n; show (pu r.held (k, z) n).length ≤ 1000; omega
theorem cn0_get (n : Nat) : (cn0 n).getD 0 = (n : Int) := by
  unfold cn0
  split
  · rename_i h; rw [h]; rfl
  · rfl
theorem I10.hold {r : Cnt} {ow : Own} {A B : Rows} {a : Addr} {l : List Int} {hn cn : Int} {i : Nat} (I : I10 r ow (A ++ (a, l) :: B) hn cn i) {z : Int} (hz : z ∈ r.sto.cells) (hi : i < 900) :
    I10 { r with held := pu r.held ((A.length : Int), z) ((fd r.held ((A.length : Int), z)).getD 0 + 1) } ow (A ++ (a, l ++ [z]) :: B) hn cn (i + 1) where
  wf := I.wf.hold (by omega) (by rw [I.hh, ← I.ln, List.length_append, List.length_cons]; omega) (I.wf.ok.here z hz) (by rw [rel_at I.rel, cn0_get]; omega) (by have := I.ll; omega)
  hh := I.hh
  hc := I.hc
  oc := I.oc
  ov := I.ov
  ol := by have := I.ol; omega
  lv := by have := I.lv; show r.sto.vals.length ≤ _; omega
  ln := by have h := I.ln; rw [List.length_append, List.length_cons] at h ⊢; exact h
  rel := by
    refine rel_mid I.rel (fun w => ?_) fun k w hk => ?_
    · show fd (pu r.held _ _) _ = _
      rw [fd_pu, List.count_append, rel_at I.rel, cn0_get]
      by_cases e : w = z
      · subst e
        rw [if_pos rfl, List.count_singleton_self]
        unfold cn0
        rw [if_neg (Nat.succ_ne_zero _)]
        rfl
      · rw [if_neg (by intro h; exact e (congrArg Prod.snd h)), List.count_singleton]
        rw [if_neg (by simpa using fun h : z = w => e h.symm)]
        exact rel_at I.rel w
    · show fd (pu r.held _ _) _ = _
      rw [fd_pu, if_neg (by intro h; exact hk (congrArg Prod.fst h))]
  kx := fun w hw => by
    rcases I.kx w hw with h | ⟨q, hq, e⟩
    · exact .inl h
    · refine .inr ?_
      have hs : (fd r.held q.1).isSome = true := fd_isSome.mpr (List.mem_map.mpr ⟨q, hq, rfl⟩)
      have h2 : (fd (pu r.held ((A.length : Int), z) ((fd r.held ((A.length : Int), z)).getD 0 + 1)) q.1).isSome = true := by
        rw [fd_pu]
        split
        · rfl
        · exact hs
      obtain ⟨v, hv⟩ := Option.isSome_iff_exists.mp h2
      exact ⟨_, fd_mem hv, e⟩
  ll := by have := I.ll; have h := pu_len' r.held ((A.length : Int), z) ((fd r.held ((A.length : Int), z)).getD 0 + 1); show (pu r.held _ _).length ≤ _; omega
  tl := by
    have := I.tl
    rw [flat_mid, List.length_append, List.length_append] at this ⊢
    rw [List.length_append]
    show _ + (l.length + 1 + _) ≤ _
    omega
theorem fd_dn {m : Hld} {k z n : Int} (w : Int × Int) : fd (dn m k z n) w = if w = (k, z) then (if n = 1 then none else some (n - 1)) else fd m w := by
  unfold dn
  by_cases e : n = 1
  · rw [if_pos e, if_pos e]
    exact fd_rm m (k, z) w
  · rw [if_neg e, if_neg e]
    exact fd_pu m (k, z) w (n - 1)
theorem Cnt.wf.drop {r : Cnt} (w : r.wf) {k z n : Int} (hf : fd r.held (k, z) = some n) : ({ r with held := dn r.held k z n } : Cnt).wf where
  ok := w.ok
  nd := dn_nd w.nd
  kr := fun q hq => by
    rcases dn_mem hq with h | h
    · exact w.kr q h
    · rw [h.1]; exact w.kr ((k, z), n) (fd_mem hf)
  ps := fun q hq => by
    rcases dn_mem hq with h | h
    · exact w.ps q h
    · have := w.ps _ (fd_mem hf)
      have h2 := h.2
      rw [h.1]
      show 1 ≤ n - 1
      have : 1 ≤ n := this
      omega
  hk := fun q hq => by
    rcases dn_mem hq with h | h
    · exact w.hk q h
    · rw [h.1]; exact w.hk ((k, z), n) (fd_mem hf)
  ll := by
    have := w.ll
    show (dn r.held k z n).length ≤ 1000
    unfold dn
    split
    · exact Nat.le_trans (rm_len _ _) this
    · rw [pu_len'' _ (by rw [hf]; rfl)]; exact this
theorem dn_len {m : Hld} {k z n : Int} (hf : fd m (k, z) = some n) : (dn m k z n).length ≤ m.length := by
  unfold dn
  split
  · exact rm_len _ _
  · rw [pu_len'' _ (by rw [hf]; rfl)]; exact Nat.le_refl _
theorem rel_drop {m : Hld} {A B : Rows} {a : Addr} {l : List Int} (h : Rel m (A ++ (a, l) :: B)) {z : Int} (hz : z ∈ l) : Rel (dn m (A.length : Int) z (l.count z : Nat)) (A ++ (a, l.erase z) :: B) := by
  have hc := List.count_pos_iff.mpr hz
  refine rel_mid h (fun w => ?_) fun k w hk => ?_
  · rw [fd_dn]
    by_cases e : w = z
    · subst e
      rw [if_pos rfl, List.count_erase_self]
      unfold cn0
      by_cases h1 : l.count w = 1
      · rw [if_pos (by omega), if_pos (by omega)]
      · rw [if_neg (by omega), if_neg (by omega)]
        congr 1
        omega
    · rw [if_neg (by intro h; exact e (congrArg Prod.snd h)), List.count_erase_of_ne e]
      exact rel_at h w
  · rw [fd_dn, if_neg (by intro h; exact hk (congrArg Prod.fst h))]
theorem I10.drop {r : Cnt} {ow : Own} {A B : Rows} {a : Addr} {l : List Int} {hn cn : Int} {i : Nat} (I : I10 r ow (A ++ (a, l) :: B) hn cn i) {z : Int} (hz : z ∈ l)
    (hx : (∃ q ∈ dn r.held (A.length : Int) z (l.count z : Nat), q.1.2 = z) ∨ z ∈ r.sto.cells) :
    I10 { r with held := dn r.held (A.length : Int) z (l.count z : Nat) } ow (A ++ (a, l.erase z) :: B) hn cn (i + 1) := by
  have hc := List.count_pos_iff.mpr hz
  have hf : fd r.held ((A.length : Int), z) = some ((l.count z : Nat) : Int) := by rw [rel_at I.rel]; unfold cn0; rw [if_neg (by omega)]
  exact {
    wf := I.wf.drop hf
    hh := I.hh
    hc := I.hc
    oc := I.oc
    ov := I.ov
    ol := by have := I.ol; omega
    lv := by have := I.lv; show r.sto.vals.length ≤ _; omega
    ln := by have h := I.ln; rw [List.length_append, List.length_cons] at h ⊢; exact h
    rel := rel_drop I.rel hz
    kx := fun w hw => by
      by_cases e : w = z
      · subst e
        exact hx.symm
      · rcases I.kx w hw with h | ⟨q, hq, e2⟩
        · exact .inl h
        · refine .inr ⟨q, ?_, e2⟩
          have h1 := fd_of I.wf.nd (show (q.1, q.2) ∈ r.held from hq)
          have h2 : fd (dn r.held (A.length : Int) z (l.count z : Nat)) q.1 = some q.2 := by rw [fd_dn, if_neg (by intro h; exact e (by rw [← e2, h]))]; exact h1
          exact fd_mem h2
    ll := by have := I.ll; have := dn_len hf; show (dn _ _ _ _).length ≤ _; omega
    tl := by
      have := I.tl
      rw [flat_mid, List.length_append, List.length_append] at this ⊢
      rw [List.length_erase_of_mem hz]
      omega }
theorem I10.gone {r : Cnt} {ow : Own} {A B : Rows} {a : Addr} {l : List Int} {hn cn : Int} {i : Nat} (I : I10 r ow (A ++ (a, l) :: B) hn cn i) {z : Int} (hz : z ∈ l)
    (hx : ¬ ((∃ q ∈ dn r.held (A.length : Int) z (l.count z : Nat), q.1.2 = z) ∨ z ∈ r.sto.cells)) :
    I10 { r with held := dn r.held (A.length : Int) z (l.count z : Nat), sto := r.sto.less [z] } ow (A ++ (a, l.erase z) :: B) hn cn (i + 1) := by
  have hc := List.count_pos_iff.mpr hz
  have hf : fd r.held ((A.length : Int), z) = some ((l.count z : Nat) : Int) := by rw [rel_at I.rel]; unfold cn0; rw [if_neg (by omega)]
  have w := I.wf.drop hf
  exact {
    wf := ⟨w.ok.less fun k hk => by rw [List.mem_singleton.mp hk]; exact fun h => hx (.inr h), w.nd, w.kr, w.ps, fun q hq => List.mem_filter.mpr ⟨w.hk q hq, decide_eq_true fun h => hx (.inl ⟨q, hq, List.mem_singleton.mp h⟩)⟩, w.ll⟩
    hh := I.hh
    hc := I.hc
    oc := I.oc
    ov := I.ov
    ol := by have := I.ol; omega
    lv := by have := I.lv; show r.sto.vals.length ≤ _; omega
    ln := by have h := I.ln; rw [List.length_append, List.length_cons] at h ⊢; exact h
    rel := rel_drop I.rel hz
    kx := fun w hw => by
      obtain ⟨hw, hw2⟩ := List.mem_filter.mp hw
      have e : w ≠ z := fun e => of_decide_eq_true hw2 (List.mem_singleton.mpr e)
      rcases I.kx w hw with h | ⟨q, hq, e2⟩
      · exact .inl h
      · refine .inr ⟨q, ?_, e2⟩
        have h1 := fd_of I.wf.nd (show (q.1, q.2) ∈ r.held from hq)
        have h2 : fd (dn r.held (A.length : Int) z (l.count z : Nat)) q.1 = some q.2 := by rw [fd_dn, if_neg (by intro h; exact e (by rw [← e2, h]))]; exact h1
        exact fd_mem h2
    ll := by have := I.ll; have := dn_len hf; show (dn _ _ _ _).length ≤ _; omega
    tl := by
      have := I.tl
      rw [flat_mid, List.length_append, List.length_append] at this ⊢
      rw [List.length_erase_of_mem hz]
      omega }
/-- what a hand holds, by both -/
theorem mine_due {m : Hld} {A B : Rows} {a : Addr} {l ys : List Int} {xs : List (Int × Int)} (nd : (m.map (·.1)).Nodup) (h : Rel m (A ++ (a, l) :: B)) (hs : ys.Pairwise (· < ·)) (hy : ∀ z, z ∈ ys ↔ z ∈ l) (hp : xs.Perm (mine m (A.length : Int))) (hx : xs.Pairwise leP) :
    xs = ys.map fun z => (z, ((l.count z : Nat) : Int)) := by
  have hd : (ys.map fun z => (z, ((l.count z : Nat) : Int))).Pairwise leP := by
    rw [List.pairwise_map]
    exact hs.imp fun h => .inl h
  refine leP_uniq hx hd (hp.trans (perm_mem ?_ ?_ fun q => ?_))
  · unfold mine
    have h1 := (List.filter_sublist (p := fun q : (Int × Int) × Int => decide (q.1.1 = (A.length : Int))) (l := m)).map (·.1) |>.nodup nd
    rw [List.nodup_iff_pairwise_ne, List.pairwise_map] at h1
    rw [List.nodup_iff_pairwise_ne, List.pairwise_map]
    refine List.Pairwise.imp_of_mem (fun {x y} hx hy h e => ?_) h1
    have e1 := of_decide_eq_true (List.mem_filter.mp hx).2
    have e2 := of_decide_eq_true (List.mem_filter.mp hy).2
    exact h (Prod.ext (e1.trans e2.symm) (congrArg Prod.fst e))
  · rw [List.nodup_iff_pairwise_ne, List.pairwise_map]
    exact hs.imp fun h e => Int.ne_of_lt h (congrArg Prod.fst e)
  · unfold mine
    constructor
    · intro hq
      obtain ⟨w, hw, rfl⟩ := List.mem_map.mp hq
      obtain ⟨h1, h2⟩ := List.mem_filter.mp hw
      have h2 : w.1.1 = (A.length : Int) := of_decide_eq_true h2
      have h3 := fd_of nd (show ((w.1.1, w.1.2), w.2) ∈ m from h1)
      rw [h2, rel_at h] at h3
      unfold cn0 at h3
      split at h3
      · cases h3
      · rename_i hc
        refine List.mem_map.mpr ⟨w.1.2, (hy _).mpr (List.count_pos_iff.mp (Nat.pos_of_ne_zero hc)), ?_⟩
        rw [Option.some.inj h3]
    · intro hq
      obtain ⟨z, hz, rfl⟩ := List.mem_map.mp hq
      have hc := List.count_pos_iff.mpr ((hy z).mp hz)
      have h3 := rel_at h z
      unfold cn0 at h3
      rw [if_neg (by omega)] at h3
      exact List.mem_map.mpr ⟨_, List.mem_filter.mpr ⟨fd_mem h3, decide_eq_true rfl⟩, rfl⟩
/-! ### k21: the plain law of three stores in which one hand sleeps -/
theorem mem_set_iff {l : List Int} {j : Nat} {x z : Int} (nd : l.Nodup) (hj : j < l.length) (hx : x ∉ l) : z ∈ l.set j x ↔ z = x ∨ (z ∈ l ∧ z ≠ l.getD j 0) := by
  constructor
  · intro h
    obtain ⟨k, hk, e⟩ := List.mem_iff_getElem.mp h
    rw [List.length_set] at hk
    by_cases hkj : j = k
    · subst hkj
      rw [List.getElem_set_self] at e
      exact .inl e.symm
    · rw [List.getElem_set_ne hkj] at e
      refine .inr ⟨List.mem_iff_getElem.mpr ⟨k, hk, e⟩, fun h2 => hkj ?_⟩
      rw [List.getD_eq_getElem?_getD, List.getElem?_eq_getElem hj, Option.getD_some, ← e] at h2
      exact ((List.getElem_inj nd).mp h2).symm
  · rintro (rfl | ⟨h1, h2⟩)
    · exact List.mem_set hj z
    · exact mem_set_ne h1 h2
theorem mem_rg {n z : Int} : z ∈ rgI n ↔ 0 ≤ z ∧ z < n := by
  unfold rgI
  rw [List.mem_map]
  constructor
  · rintro ⟨k, hk, rfl⟩
    have := List.mem_range.mp hk
    omega
  · rintro ⟨h0, h1⟩
    exact ⟨z.toNat, List.mem_range.mpr (by omega), by omega⟩
theorem rg_succ {n : Int} (h : 0 ≤ n) : rgI (n + 1) = rgI n ++ [n] := by
  obtain ⟨k, rfl⟩ := Int.eq_ofNat_of_zero_le h
  have e : ((k : Int) + 1).toNat = k + 1 := by omega
  unfold rgI
  rw [e, Int.toNat_natCast, List.range_succ, List.map_append]
  rfl
theorem Sto.ok.new {s : Sto} (ok : s.ok) : (s.vals.length : Int) ∉ s.cells := fun h => by have := ok.made _ (ok.here _ h); omega
theorem Sto.ok.old {s : Sto} (ok : s.ok) {j : Int} (j0 : 0 ≤ j) (j1 : j < s.cells.length) : s.cells.getD j.toNat 0 ∈ s.cells := by
  have h : j.toNat < s.cells.length := by omega
  rw [List.getD_eq_getElem?_getD, List.getElem?_eq_getElem h]
  exact List.getElem_mem h
theorem Sto.ok.swM {s : Sto} (ok : s.ok) {j : Int} (j0 : 0 ≤ j) (j1 : j < s.cells.length) {z : Int} : z ∈ s.cells.set j.toNat (s.vals.length : Int) ↔ z = s.vals.length ∨ (z ∈ s.cells ∧ z ≠ s.cells.getD j.toNat 0) :=
  mem_set_iff ok.cnd (by omega) ok.new
/-- rounds: one hand is in since round 0 -/
structure R21 (r : Rnd) (cs : List Int) (n hand e : Int) : Prop where
  wf : r.wf
  hh : r.sto.hands = 2
  cl : r.sto.cells = cs
  vn : (r.sto.vals.length : Int) = n
  kp : r.sto.kept = rgI n
  ins : r.inside = [(hand, 0)]
  era : r.era = e
  wt : ∀ z, (fd r.waits z).isSome = true ↔ (z ∈ rgI n ∧ z ∉ cs)
  w0 : ∀ z w, fd r.waits z = some w → 0 ≤ w ∧ w ≤ e
theorem R21.swap {r : Rnd} {cs : List Int} {n hand e : Int} (I : R21 r cs n hand e) {j v : Int} (j0 : 0 ≤ j) (j1 : j < cs.length) (hn : n < 900) (e0 : 0 ≤ e) : R21 (r.swap j v) (cs.set j.toNat n) (n + 1) hand e := by
  have hc := I.cl
  have hv := I.vn
  have ok := I.wf.ok
  have j1' : j < r.sto.cells.length := by rw [hc]; exact j1
  have n0 : 0 ≤ n := by omega
  have sw := fun z => ok.swM j0 j1' (z := z)
  rw [hv, hc] at sw
  have hold := ok.old j0 j1'
  have hin : ∀ z ∈ cs, z ∈ rgI n := fun z hz => by
    have := ok.here z (hc ▸ hz)
    rwa [I.kp] at this
  rw [hc] at hold
  refine ⟨I.wf.swap j0 j1' (by omega), I.hh, by show r.sto.cells.set _ (r.sto.vals.length : Int) = _; rw [hc, hv], by show ((r.sto.vals ++ [v]).length : Int) = _; rw [List.length_append]; show ((r.sto.vals.length + 1 : Nat) : Int) = _; omega, by show r.sto.kept ++ [(r.sto.vals.length : Int)] = _; rw [I.kp, hv, rg_succ n0], I.ins, I.era, fun z => ?_, fun z w h => ?_⟩
  · show (fd (pu r.waits (r.sto.cells.getD j.toNat 0) r.era) z).isSome = true ↔ _
    rw [fd_pu, hc, sw, rg_succ n0, List.mem_append, List.mem_singleton]
    by_cases ez : z = cs.getD j.toNat 0
    · rw [if_pos ez]
      have h1 := hin z (ez ▸ hold)
      have h2 := mem_rg.mp h1
      refine ⟨fun _ => ⟨.inl h1, fun h => ?_⟩, fun _ => rfl⟩
      rcases h with h | h
      · omega
      · exact h.2 ez
    · rw [if_neg ez, I.wt z]
      refine ⟨fun ⟨h1, h2⟩ => ⟨.inl h1, fun h => ?_⟩, fun ⟨h1, h2⟩ => ?_⟩
      · have := mem_rg.mp h1
        rcases h with h | h
        · omega
        · exact h2 h.1
      · rcases h1 with h1 | h1
        · exact ⟨h1, fun h => h2 (.inr ⟨h, ez⟩)⟩
        · exact absurd (.inl h1) h2
  · have h : fd (pu r.waits (r.sto.cells.getD j.toNat 0) r.era) z = some w := h
    rw [fd_pu] at h
    split at h
    · have := Option.some.inj h
      have := I.era
      omega
    · exact I.w0 z w h
theorem less_nil {s : Sto} : s.less [] = s := by
  unfold Sto.less
  rw [show s.kept.filter (fun k => decide (k ∉ ([] : List Int))) = s.kept from List.filter_eq_self.mpr fun k _ => by simp]
theorem R21.next0 {r : Rnd} {cs : List Int} {n hand : Int} (I : R21 r cs n hand 0) : r.free ∧ R21 r.next cs n hand 1 := by
  have hg : r.gone = [] := by
    unfold Rnd.gone
    rw [List.filter_eq_nil_iff]
    intro z hz
    obtain ⟨w, hw⟩ := Option.isSome_iff_exists.mp (fd_isSome.mpr hz)
    have := I.w0 z w hw
    have := I.era
    rw [hw]
    simp
    omega
  refine ⟨fun q hq => ?_, ?_⟩
  · rw [I.ins] at hq
    rw [List.mem_singleton.mp hq, I.era]
  · have e : r.next = { r with era := r.era + 1 } := by
      unfold Rnd.next
      rw [hg, less_nil, rms_nil]
    have w := I.wf.next
    rw [e] at w ⊢
    exact ⟨w, I.hh, I.cl, I.vn, I.kp, I.ins, by show r.era + 1 = 1; rw [I.era]; rfl, I.wt, fun z w h => by have := I.w0 z w h; omega⟩
theorem R21.stay {r : Rnd} {cs : List Int} {n hand : Int} (I : R21 r cs n hand 1) : ¬ r.free := fun h => by
  have := h (hand, 0) (by rw [I.ins]; exact List.mem_singleton.mpr rfl)
  rw [I.era] at this
  exact absurd this (show ¬ (0 : Int) = 1 by decide)
theorem R21.fin {r : Rnd} {cs : List Int} {n hand : Int} (I : R21 r cs n hand 1) : (r.leave hand).free ∧ (r.leave hand).next.free ∧ ∀ z, z ∈ (r.leave hand).next.next.sto.kept ↔ z ∈ cs := by
  have hi : (r.leave hand).inside = [] := by
    show rm r.inside hand = []
    rw [I.ins]
    unfold rm
    simp
  have f1 : (r.leave hand).free := fun q hq => by rw [hi] at hq; cases hq
  have f2 : (r.leave hand).next.free := fun q hq => by
    have hq : q ∈ (r.leave hand).inside := hq
    rw [hi] at hq; cases hq
  refine ⟨f1, f2, fun z => ?_⟩
  have key : ∀ {r' : Rnd} {z : Int}, z ∈ r'.gone ↔ ∃ w, fd r'.waits z = some w ∧ w ≤ r'.era + 1 - 2 := fun {r' z} => by
    unfold Rnd.gone
    rw [List.mem_filter]
    constructor
    · rintro ⟨h1, h2⟩
      obtain ⟨w, hw⟩ := Option.isSome_iff_exists.mp (fd_isSome.mpr h1)
      rw [hw] at h2
      exact ⟨w, hw, of_decide_eq_true h2⟩
    · rintro ⟨w, hw, h⟩
      refine ⟨fd_isSome.mp (by rw [hw]; rfl), ?_⟩
      rw [hw]
      exact decide_eq_true h
  show z ∈ (((r.sto.less (r.leave hand).gone).less (r.leave hand).next.gone).kept) ↔ _
  have hl : ∀ {s : Sto} {ks : List Int} {z : Int}, z ∈ (s.less ks).kept ↔ z ∈ s.kept ∧ z ∉ ks := fun {s ks z} => by
    show z ∈ s.kept.filter _ ↔ _
    rw [List.mem_filter, decide_eq_true_iff]
  rw [hl, hl, I.kp]
  constructor
  · rintro ⟨⟨h1, h2⟩, h3⟩
    refine Classical.byContradiction fun hz => ?_
    obtain ⟨w, hw⟩ := Option.isSome_iff_exists.mp ((I.wt z).mpr ⟨h1, hz⟩)
    have hw1 := I.w0 z w hw
    refine h3 (key.mpr ⟨w, ?_, ?_⟩)
    · show fd (rms r.waits (r.leave hand).gone) z = _
      rw [fd_rms h2]
      exact hw
    · show w ≤ r.era + 1 + 1 - 2
      have := I.era
      omega
  · intro hz
    have h1 : z ∈ rgI n := by
      have := I.wf.ok.here z (by rw [I.cl]; exact hz)
      rwa [I.kp] at this
    have h2 : z ∉ (r.leave hand).gone := fun h => by
      obtain ⟨w, hw, _⟩ := key.mp h
      exact ((I.wt z).mp (by rw [show fd r.waits z = some w from hw]; rfl)).2 hz
    refine ⟨⟨h1, h2⟩, fun h => ?_⟩
    obtain ⟨w, hw, _⟩ := key.mp h
    have hw : fd (rms r.waits (r.leave hand).gone) z = some w := hw
    rw [fd_rms h2] at hw
    exact ((I.wt z).mp (by rw [hw]; rfl)).2 hz
/-- marks: one mark of one hand is sure on the thing cell -/
structure M21 (r : Mrk) (cs : List Int) (n hand cell : Int) : Prop where
  wf : r.wf
  hh : r.sto.hands = 2
  cl : r.sto.cells = cs
  vn : (r.sto.vals.length : Int) = n
  mr : ∃ v : MV, r.marks = [((hand, 1), v)] ∧ v.st = "sure" ∧ v.thing = cell
  kp : ∀ z, z ∈ r.sto.kept ↔ z ∈ cs ∨ z ∈ r.waits
theorem M21.bears {r : Mrk} {cs : List Int} {n hand cell : Int} (I : M21 r cs n hand cell) : bears r.marks = [cell] := by
  obtain ⟨v, h1, h2, h3⟩ := I.mr
  rw [h1]
  unfold La.bears
  rw [List.filter_cons, if_pos (by rw [h2]; decide +kernel)]
  show [v.thing] = _
  rw [h3]
theorem M21.cw {r : Mrk} {cs : List Int} {n hand cell : Int} (I : M21 r cs n hand cell) : cell ∈ cs ∨ cell ∈ r.waits := by
  obtain ⟨v, h1, h2, h3⟩ := I.mr
  have := I.wf.su ((hand, 1), v) (by rw [h1]; exact List.mem_singleton.mpr rfl) h2
  rw [show ((hand, (1 : Int)), v).2.thing = cell from h3] at this
  exact (I.kp cell).mp this
theorem M21.swap {r : Mrk} {cs : List Int} {n hand cell : Int} (I : M21 r cs n hand cell) {j v : Int} (j0 : 0 ≤ j) (j1 : j < cs.length) (hn : n < 900) : M21 (r.swap j v) (cs.set j.toNat n) (n + 1) hand cell := by
  have hc := I.cl
  have hv := I.vn
  have ok := I.wf.ok
  have j1' : j < r.sto.cells.length := by rw [hc]; exact j1
  have sw := fun z => ok.swM j0 j1' (z := z)
  rw [hv, hc] at sw
  have hold := ok.old j0 j1'
  rw [hc] at hold
  refine ⟨I.wf.swap j0 j1' (by omega), I.hh, by show r.sto.cells.set _ (r.sto.vals.length : Int) = _; rw [hc, hv], by show ((r.sto.vals ++ [v]).length : Int) = _; rw [List.length_append]; show ((r.sto.vals.length + 1 : Nat) : Int) = _; omega, I.mr, fun z => ?_⟩
  show z ∈ r.sto.kept ++ [(r.sto.vals.length : Int)] ↔ _ ∨ z ∈ r.waits ++ [r.sto.cells.getD j.toNat 0]
  rw [hv, hc, sw, List.mem_append, List.mem_append, List.mem_singleton, List.mem_singleton, I.kp]
  by_cases ez : z = cs.getD j.toNat 0
  · have : z ∈ cs := ez ▸ hold
    exact ⟨fun _ => .inr (.inr ez), fun _ => .inl (.inl this)⟩
  · simp only [ez, not_false_eq_true, and_true, or_false, ne_eq]
    constructor
    · rintro ((h | h) | h)
      · exact .inl (.inr h)
      · exact .inr h
      · exact .inl (.inl h)
    · rintro ((h | h) | h)
      · exact .inr h
      · exact .inl (.inl h)
      · exact .inl (.inr h)
theorem M21.sweep {r : Mrk} {cs : List Int} {n hand cell : Int} (I : M21 r cs n hand cell) (wa : Addr) : M21 (r.swept.at wa) cs n hand cell ∧ ∀ z ∈ (r.swept.at wa).waits, z = cell := by
  have hb := I.bears
  have hw : ∀ z, z ∈ (r.swept.at wa).waits ↔ z ∈ r.waits ∧ z = cell := fun z => by
    show z ∈ r.waits.filter _ ↔ _
    rw [List.mem_filter, hb, decide_eq_true_iff, List.mem_singleton]
  refine ⟨⟨I.wf.swept.at wa, I.hh, I.cl, I.vn, I.mr, fun z => ?_⟩, fun z hz => ((hw z).mp hz).2⟩
  rw [hw]
  show z ∈ r.sto.kept.filter _ ↔ _
  rw [List.mem_filter, decide_eq_true_iff, I.kp]
  have hg : z ∈ r.gone ↔ z ∈ r.waits ∧ z ≠ cell := by
    unfold Mrk.gone
    rw [List.mem_filter, hb]
    simp
  rw [hg]
  constructor
  · rintro ⟨h | h, h2⟩
    · exact .inl h
    · exact .inr ⟨h, Classical.byContradiction fun h3 => h2 ⟨h, h3⟩⟩
  · rintro (h | ⟨h1, h2⟩)
    · exact ⟨.inl h, fun ⟨h3, _⟩ => (I.wf.wk z h3).2 (by rw [I.cl]; exact h)⟩
    · exact ⟨.inr h1, fun h3 => h3.2 h2⟩
theorem M21.kept {r : Mrk} {cs : List Int} {n hand cell : Int} (I : M21 r cs n hand cell) (hw : ∀ z ∈ r.waits, z = cell) (hc : cell ∉ cs) : ∀ z, z ∈ r.sto.kept ↔ z = cell ∨ z ∈ cs := fun z => by
  rw [I.kp]
  have := I.cw.resolve_left hc
  exact ⟨fun h => h.elim .inr fun h => .inl (hw z h), fun h => h.elim (fun h => .inr (h ▸ this)) .inl⟩
/-- behind the clearing of the mark -/
theorem M21.fin {r : Mrk} {cs : List Int} {n hand cell : Int} (I : M21 r cs n hand cell) (hw : ∀ z ∈ r.waits, z = cell) (hc : cell ∉ cs) (wa : Addr) : (r.unmark hand 1).gone = [cell] ∧ ∀ z, z ∈ ((r.unmark hand 1).swept.at wa).sto.kept ↔ z ∈ cs := by
  obtain ⟨v, h1, h2, h3⟩ := I.mr
  have hb : La.bears (rm r.marks (hand, 1)) = [] := by
    rw [h1]
    unfold rm La.bears
    simp
  have hwt : r.waits = [cell] := by
    have h4 := I.cw.resolve_left hc
    have nd := I.wf.nw
    generalize r.waits = l at *
    match l, h4, hw, nd with
    | [a], h4, hw, _ => rw [List.mem_singleton.mp h4]
    | a :: b :: t, _, hw, nd =>
      have ha := hw a (by simp)
      have hb := hw b (by simp)
      rw [ha, hb] at nd
      simp at nd
  have hg : (r.unmark hand 1).gone = [cell] := by
    show r.waits.filter (fun z => !decide (z ∈ La.bears (rm r.marks (hand, 1)))) = _
    rw [hb, hwt]
    rfl
  refine ⟨hg, fun z => ?_⟩
  show z ∈ r.sto.kept.filter (fun k => decide (k ∉ (r.unmark hand 1).gone)) ↔ _
  rw [hg, List.mem_filter, decide_eq_true_iff, List.mem_singleton, I.kept hw hc]
  exact ⟨fun ⟨h, h2⟩ => h.resolve_left h2, fun h => ⟨.inr h, fun e => hc (e ▸ h)⟩⟩
/-- counts: one hand holds the thing cell -/
structure K21 (r : Cnt) (cs : List Int) (n hand cell : Int) : Prop where
  wf : r.wf
  hh : r.sto.hands = 2
  cl : r.sto.cells = cs
  vn : (r.sto.vals.length : Int) = n
  hd : r.held = [((hand, cell), 1)]
  kp : ∀ z, z ∈ r.sto.kept ↔ z ∈ cs ∨ z = cell
theorem K21.swap {r : Cnt} {cs : List Int} {n hand cell : Int} (I : K21 r cs n hand cell) {j v : Int} (j0 : 0 ≤ j) (j1 : j < cs.length) (hn : n < 900) : K21 (r.swap j v) (cs.set j.toNat n) (n + 1) hand cell := by
  have hc := I.cl
  have hv := I.vn
  have ok := I.wf.ok
  have j1' : j < r.sto.cells.length := by rw [hc]; exact j1
  have sw := fun z => ok.swM j0 j1' (z := z)
  rw [hv, hc] at sw
  have hold := ok.old j0 j1'
  rw [hc] at hold
  have w := I.wf.swap (v := v) j0 j1' (by omega)
  have hd : ∀ z, r.hasd z = true ↔ z = cell := fun z => by
    rw [hasd_iff, I.hd]
    simp [eq_comm]
  have hl : ((r.sto.vals ++ [v]).length : Int) = n + 1 := by rw [List.length_append]; show ((r.sto.vals.length + 1 : Nat) : Int) = _; omega
  have hs : r.sto.cells.set j.toNat (r.sto.vals.length : Int) = cs.set j.toNat n := by rw [hc, hv]
  have hcn : n ≠ cs.getD j.toNat 0 := fun e => by
    have := ok.new
    rw [hv, hc, e] at this
    exact this hold
  by_cases ho : r.hasd (r.sto.cells.getD j.toNat 0) = true
  · have e : r.swap j v = { r with sto := r.sto.swap j v } := by
      unfold Cnt.swap
      rw [if_pos ho]
    rw [e] at w ⊢
    refine ⟨w, I.hh, hs, hl, I.hd, fun z => ?_⟩
    show z ∈ r.sto.kept ++ [(r.sto.vals.length : Int)] ↔ _
    rw [hv, sw, List.mem_append, List.mem_singleton, I.kp]
    have ho := (hd _).mp ho
    rw [hc] at ho
    rw [ho]
    by_cases ez : z = cell
    · simp [ez]
    · simp [ez, or_comm]
  · have e : r.swap j v = { r with sto := (r.sto.swap j v).less [r.sto.cells.getD j.toNat 0] } := by
      unfold Cnt.swap
      rw [if_neg ho]
    rw [e] at w ⊢
    refine ⟨w, I.hh, hs, hl, I.hd, fun z => ?_⟩
    show z ∈ (r.sto.kept ++ [(r.sto.vals.length : Int)]).filter (fun k => decide (k ∉ [r.sto.cells.getD j.toNat 0])) ↔ _
    rw [List.mem_filter, decide_eq_true_iff, hv, hc, sw, List.mem_append, List.mem_singleton, List.mem_singleton, I.kp]
    have ho : ¬ cs.getD j.toNat 0 = cell := fun h => ho ((hd _).mpr (by rw [hc]; exact h))
    constructor
    · rintro ⟨(h | h) | h, h2⟩
      · exact .inl (.inr ⟨h, h2⟩)
      · exact .inr h
      · exact .inl (.inl h)
    · rintro ((h | h) | h)
      · exact ⟨.inr h, fun h2 => hcn (h ▸ h2)⟩
      · exact ⟨.inl (.inl h.1), h.2⟩
      · exact ⟨.inl (.inr h), fun h2 => ho (h2 ▸ h)⟩
theorem K21.fin {r : Cnt} {cs : List Int} {n hand cell : Int} (I : K21 r cs n hand cell) (hc : cell ∉ cs) : dn r.held hand cell 1 = [] ∧ ∀ z, z ∈ (r.sto.less [cell]).kept ↔ z ∈ cs := by
  refine ⟨?_, fun z => ?_⟩
  · rw [I.hd]
    unfold dn
    simp [rm]
  · show z ∈ r.sto.kept.filter (fun k => decide (k ∉ [cell])) ↔ _
    rw [List.mem_filter, decide_eq_true_iff, List.mem_singleton, I.kp]
    exact ⟨fun ⟨h, h2⟩ => h.resolve_right h2, fun h => ⟨.inl h, fun e => hc (e ▸ h)⟩⟩
/-- a rising list that has one more than cs -/
theorem len_more {l cs : List Int} {cell : Int} (h1 : l.Pairwise (· < ·)) (h2 : cs.Nodup) (hc : cell ∉ cs) (h : ∀ z, z ∈ l ↔ z = cell ∨ z ∈ cs) : l.length = cs.length + 1 := by
  have : l.Perm (cell :: cs) := perm_mem (rise_nodup h1) (List.nodup_cons.mpr ⟨hc, h2⟩) fun z => by rw [h, List.mem_cons]
  exact this.length_eq
theorem len_same {l cs : List Int} (h1 : l.Pairwise (· < ·)) (h2 : cs.Nodup) (h : ∀ z, z ∈ l ↔ z ∈ cs) : l.length = cs.length := (perm_mem (rise_nodup h1) h2 h).length_eq
end La
namespace La
open PySem L2 Sy
local macro_rules | `(tactic| walk_at "fl") => `(tactic| first | assumption | exact stF_hands | exact stF_worth | exact stF_cells | exact stF_made | exact StX.f1 (by assumption) | exact StX.f2 (by assumption) | exact StX.f3 (by assumption) | exact StX.f4 (by assumption) | exact StX.f5 (by assumption) | exact StX.f6 (by assumption) | exact StX.f7 (by assumption) | exact StX.f8 (by assumption) | exact StX.f9 (by assumption))
local macro_rules | `(tactic| walk_at "fsl") => `(tactic| first | assumption | exact StX.fl (by assumption))
local macro_rules | `(tactic| walk_at "put") => `(tactic| first | exact stF_put_made | exact stF_put_cells | exact stF_put_worth | exact stF_put_hands)
local macro_rules | `(tactic| walk_at "fl") => `(tactic| first | assumption | exact stF_hands | exact stF_worth | exact stF_cells | exact stF_made | exact rd_era | exact rd_inside | exact rd_saw | exact rd_waits | exact rd_m_enter | exact rd_m_look_in | exact rd_m_leave | exact rd_m_look | exact rd_m_read | exact rd_m_go_on | exact rd_m_round_now | exact rd_m_hands_in | exact StX.f1 rdX_ok | exact StX.f2 rdX_ok | exact StX.f3 rdX_ok | exact StX.f4 rdX_ok | exact StX.f5 rdX_ok | exact StX.f6 rdX_ok | exact StX.f7 rdX_ok | exact StX.f8 rdX_ok | exact StX.f9 rdX_ok)
local macro_rules | `(tactic| walk_at "put") => `(tactic| first | exact rd_put_era | exact rd_put_inside | exact rd_put_saw | exact rd_put_waits)
local macro_rules | `(tactic| walk_at "fsl") => `(tactic| first | assumption | exact StX.fl rdX_ok)
local macro_rules | `(tactic| walk_at "fl") => `(tactic| first | assumption | exact stF_hands | exact stF_worth | exact stF_cells | exact stF_made | exact mk_marks | exact mk_waits | exact mk_m_look_mark | exact mk_m_state_of | exact mk_m_fetch | exact mk_m_set_mark | exact mk_m_sure | exact mk_m_read | exact mk_m_clear_mark | exact mk_m_marked | exact mk_m_sweep | exact StX.f1 mkX_ok | exact StX.f2 mkX_ok | exact StX.f3 mkX_ok | exact StX.f4 mkX_ok | exact StX.f5 mkX_ok | exact StX.f6 mkX_ok | exact StX.f7 mkX_ok | exact StX.f8 mkX_ok | exact StX.f9 mkX_ok)
local macro_rules | `(tactic| walk_at "put") => `(tactic| first | exact mk_put_marks | exact mk_put_waits | exact stF_put_made | exact stF_put_cells | exact stF_put_worth | exact stF_put_hands)
local macro_rules | `(tactic| walk_at "fsl") => `(tactic| first | assumption | exact StX.fl mkX_ok)
local macro_rules | `(tactic| walk_at "fl") => `(tactic| first | assumption | exact stF_hands | exact stF_worth | exact stF_cells | exact stF_made | exact ct_held | exact ct_m_count_of | exact ct_m_hold | exact ct_m_look_held | exact ct_m_read | exact ct_m_drop | exact ct_m_loose | exact ct_m_holds | exact StX.f1 ctX_ok | exact StX.f2 ctX_ok | exact StX.f3 ctX_ok | exact StX.f4 ctX_ok | exact StX.f5 ctX_ok | exact StX.f6 ctX_ok | exact StX.f7 ctX_ok | exact StX.f8 ctX_ok | exact StX.f9 ctX_ok)
local macro_rules | `(tactic| walk_at "put") => `(tactic| first | exact ct_put_held | exact stF_put_made | exact stF_put_cells | exact stF_put_worth | exact stF_put_hands)
local macro_rules | `(tactic| walk_at "fsl") => `(tactic| first | assumption | exact StX.fl ctX_ok)
local macro_rules | `(tactic| walk_at "fl") => `(tactic| first | assumption | exact ve_hands | exact ve_rows | exact ve_version | exact ve_begun | exact ve_asked | kernel_rfl)
local macro_rules | `(tactic| walk_at "put") => `(tactic| first | exact ve_put_hands | exact ve_put_rows | exact ve_put_version | exact ve_put_begun | exact ve_put_asked | exact ve_p1 | exact ve_p2 | exact ve_p3 | exact ve_p4 | exact ve_p5)
local macro_rules | `(tactic| walk_at "fsl") => `(tactic| first | assumption | exact ve_len | (show 0 < 1000; decide) | (show 1 < 1000; decide) | (show 2 < 1000; decide) | (show 3 < 1000; decide) | (show 4 < 1000; decide))
/-! ### k21: versions with one hand begun at 0 -/
def Rw (v : Int) (b : Bool) (vs : List Int) : Prop := ∃ tl : List Int, vs = 0 :: tl ∧ vs.Pairwise (· < ·) ∧ (∀ z ∈ vs, z ≤ v) ∧ b = !tl.isEmpty
def mxV (vs : List Int) (z : Int) : Int := (vs.filter fun x => decide (x ≤ z)).getLastD 0
def trV (zs vs : List Int) : List Int := vs.filter fun x => decide (x ∈ zs.map (mxV vs))
abbrev vsR (m : Prs) : List Int := m.map fun q => q.2.1
theorem mx_vs (m : Prs) (z : Int) : maxLe (m.map (·.2)) z = mxV (vsR m) z := by
  unfold maxLe mxV vsR
  rw [List.filter_map, List.map_map, List.filter_map]
  rfl
theorem trim_vs (zs : List Int) (m : Prs) : vsR (trimR zs m) = trV zs (vsR m) := by
  unfold trimR trV vsR
  rw [List.filter_map]
  congr 1
  refine List.filter_congr fun q _ => ?_
  show decide (q.2.1 ∈ zs.map (maxLe (m.map (·.2)))) = decide (q.2.1 ∈ zs.map (mxV (vsR m)))
  rw [List.map_congr_left fun z _ => mx_vs m z]
theorem Rw.write {v : Int} {b : Bool} {vs : List Int} (h : Rw v b vs) : Rw (v + 1) true (vs ++ [v + 1]) := by
  obtain ⟨tl, rfl, h1, h2, rfl⟩ := h
  refine ⟨tl ++ [v + 1], rfl, List.pairwise_append.mpr ⟨h1, List.pairwise_singleton _ _, fun a ha c hc => ?_⟩, fun z hz => ?_, by cases tl <;> rfl⟩
  · rw [List.mem_singleton.mp hc]
    have := h2 a ha
    omega
  · rcases List.mem_append.mp hz with h | h
    · have := h2 z h
      omega
    · rw [List.mem_singleton.mp h]
      exact Int.le_refl _
theorem Rw.up {v : Int} {b : Bool} {vs : List Int} (h : Rw v b vs) : Rw (v + 1) b vs := by
  obtain ⟨tl, rfl, h1, h2, h3⟩ := h
  exact ⟨tl, rfl, h1, fun z hz => by have := h2 z hz; omega, h3⟩
theorem mx_top {vs : List Int} {v : Int} (h : ∀ z ∈ vs, z ≤ v) : mxV vs v = vs.getLastD 0 := by
  unfold mxV
  rw [List.filter_eq_self.mpr fun x hx => decide_eq_true (h x hx)]
theorem last_only {init : List Int} {L : Int} (h : ∀ x ∈ init, x ≠ L) : (init ++ [L]).filter (fun x => decide (x = L)) = [L] := by
  rw [List.filter_append, List.filter_eq_nil_iff.mpr fun x hx => by simpa using h x hx]
  simp
theorem Rw.cases {v : Int} {b : Bool} {vs : List Int} (h : Rw v b vs) : (b = false ∧ vs = [0]) ∨ ∃ (init : List Int) (L : Int), b = true ∧ vs = 0 :: (init ++ [L]) ∧ 0 < L ∧ (∀ x ∈ init, 0 < x ∧ x < L) ∧ L ≤ v := by
  obtain ⟨tl, rfl, h1, h2, rfl⟩ := h
  rcases List.eq_nil_or_concat tl with e | ⟨init, L, e⟩
  · subst e; exact .inl ⟨rfl, rfl⟩
  · rw [List.concat_eq_append] at e
    subst e
    obtain ⟨g1, g2⟩ := List.pairwise_cons.mp h1
    obtain ⟨g3, _, g5⟩ := List.pairwise_append.mp g2
    refine .inr ⟨init, L, by cases init <;> rfl, rfl, g1 L (by simp), fun x hx => ⟨g1 x (by simp [hx]), g5 x hx L (by simp)⟩, h2 L (by simp)⟩
theorem last_app {init : List Int} {L : Int} : (0 :: (init ++ [L])).getLastD 0 = L := by
  rw [← List.cons_append, List.getLastD_eq_getLast?, List.getLast?_append]
  rfl
/-- a trim while one began at 0 -/
theorem Rw.trim {v : Int} {b : Bool} {vs zs : List Int} (h : Rw v b vs) (v0 : 0 ≤ v) (hz : ∀ z, z ∈ zs ↔ z = 0 ∨ z = v) : Rw v b (trV zs vs) ∧ (trV zs vs).length = if b = true then 2 else 1 := by
  have hm : ∀ x, x ∈ zs.map (mxV vs) ↔ x = mxV vs 0 ∨ x = mxV vs v := fun x => by
    rw [List.mem_map]
    constructor
    · rintro ⟨z, h1, rfl⟩
      rcases (hz z).mp h1 with rfl | rfl
      · exact .inl rfl
      · exact .inr rfl
    · rintro (rfl | rfl)
      · exact ⟨0, (hz 0).mpr (.inl rfl), rfl⟩
      · exact ⟨v, (hz v).mpr (.inr rfl), rfl⟩
  have h2 : ∀ z ∈ vs, z ≤ v := by
    obtain ⟨_, _, _, h2, _⟩ := h
    exact h2
  rw [mx_top h2] at hm
  rcases h.cases with ⟨rfl, rfl⟩ | ⟨init, L, rfl, rfl, l0, hi, hl⟩
  · have e : trV zs [0] = [0] := by
      unfold trV
      rw [List.filter_cons, if_pos (decide_eq_true ((hm 0).mpr (.inr rfl)))]
      rfl
    rw [e]
    exact ⟨h, rfl⟩
  · rw [last_app] at hm
    have m0 : mxV (0 :: (init ++ [L])) 0 = 0 := by
      unfold mxV
      rw [List.filter_cons, if_pos (by decide), List.filter_eq_nil_iff.mpr fun x hx => by
        rcases List.mem_append.mp hx with h | h
        · have := hi x h
          simp; omega
        · rw [List.mem_singleton.mp h]
          simp; omega]
      rfl
    rw [m0] at hm
    have e : trV zs (0 :: (init ++ [L])) = [0, L] := by
      unfold trV
      rw [List.filter_cons, if_pos (decide_eq_true ((hm 0).mpr (.inl rfl)))]
      rw [List.filter_congr (q := fun x => decide (x = L)) fun x hx => by
        have hx0 : x ≠ 0 := by
          rcases List.mem_append.mp hx with h | h
          · have := hi x h; omega
          · rw [List.mem_singleton.mp h]; omega
        rw [decide_eq_decide, hm]
        exact ⟨fun h => h.resolve_left hx0, .inr⟩]
      rw [last_only fun x hx => by have := hi x hx; omega]
    rw [e]
    exact ⟨⟨[L], rfl, by simp [l0], fun z hz => by simp at hz; omega, rfl⟩, rfl⟩
/-- a trim when nobody is in -/
theorem Rw.last {v : Int} {b : Bool} {vs zs : List Int} (h : Rw v b vs) (hz : ∀ z, z ∈ zs ↔ z = v) : (trV zs vs).length = 1 := by
  have hm : ∀ x, x ∈ zs.map (mxV vs) ↔ x = mxV vs v := fun x => by
    rw [List.mem_map]
    constructor
    · rintro ⟨z, h1, rfl⟩
      rw [(hz z).mp h1]
    · rintro rfl
      exact ⟨v, (hz v).mpr rfl, rfl⟩
  have h2 : ∀ z ∈ vs, z ≤ v := by
    obtain ⟨_, _, _, h2, _⟩ := h
    exact h2
  rw [mx_top h2] at hm
  rcases h.cases with ⟨rfl, rfl⟩ | ⟨init, L, rfl, rfl, l0, hi, hl⟩
  · unfold trV
    rw [List.filter_cons, if_pos (decide_eq_true ((hm 0).mpr rfl))]
    rfl
  · rw [last_app] at hm
    unfold trV
    rw [List.filter_congr (q := fun x => decide (x = L)) fun x hx => by rw [decide_eq_decide, hm]]
    rw [← List.cons_append, last_only fun x hx => by
      rcases List.mem_cons.mp hx with h | h
      · omega
      · have := hi x h; omega]
    rfl
theorem get_lt {α : Type} {l : List α} {i : Nat} {x : α} (h : l[i]? = some x) : i < l.length := by
  rcases Nat.lt_or_ge i l.length with h1 | h1
  · exact h1
  · rw [List.getElem?_eq_none h1] at h; cases h
structure V21 (s : Ver) (wr : List Bool) (hand : Int) : Prop where
  wf : s.wf
  hh : s.hands = 2
  bg : s.begun = [(hand, 0)]
  wl : wr.length = s.rows.length
  rw : ∀ (i : Nat) r, s.rows[i]? = some r → Rw s.version (wr.getD i false) (vsR r.2)
theorem V21.make {s : Ver} {l : Addr} {n hand : Int} (e1 : s.hands = 2) (e2 : s.version = 0) (e3 : s.begun = []) (e4 : absR s.rows = List.replicate n.toNat [(0, 0)]) (w : s.wf) : V21 (s.begin hand l) (List.replicate n.toNat false) hand := by
  have hl : s.rows.length = n.toNat := by
    have := congrArg List.length e4
    unfold absR at this
    rw [List.length_map, List.length_replicate] at this
    exact this
  refine ⟨w.begin (by rw [e3]; rfl) (by rw [e3]; decide), e1, by show pu s.begun hand s.version = _; rw [e3, e2]; rfl, by rw [List.length_replicate]; exact hl.symm, fun i r hr => ?_⟩
  have hr : s.rows[i]? = some r := hr
  have h1 : (absR s.rows)[i]? = some (r.2.map (·.2)) := by
    unfold absR
    rw [List.getElem?_map, hr]
    rfl
  rw [e4, List.getElem?_replicate, if_pos (by have := get_lt hr; omega)] at h1
  have h2 : vsR r.2 = [0] := by
    have h3 := congrArg (List.map (·.1)) (Option.some.inj h1)
    rw [List.map_map] at h3
    exact h3.symm
  have h4 : (List.replicate n.toNat false).getD i false = false := by
    rw [List.getD_eq_getElem?_getD, List.getElem?_replicate]
    split <;> rfl
  rw [h2, h4]
  show Rw s.version false [0]
  rw [e2]
  exact ⟨[], rfl, List.pairwise_singleton _ _, fun z hz => by rw [List.mem_singleton.mp hz]; exact Int.le_refl _, rfl⟩
theorem V21.write {s : Ver} {wr : List Bool} {hand : Int} (I : V21 s wr hand) {place y : Int} {rows : VRows} {bag : Prs} (p0 : 0 ≤ place) (p1 : place < wr.length) (hv : s.version < 400) (hw : WRel s.rows rows [(place, y)] (s.version + 1)) (hb : ∀ r ∈ rows, ∀ q ∈ r.2, q ∈ bag) : V21 { s with version := s.version + 1, rows := rows, bag := bag } (wr.set place.toNat true) hand := by
  refine ⟨I.wf.write (by omega) hw (by simp) hb, I.hh, I.bg, by rw [List.length_set, I.wl]; exact hw.1.symm, fun i r hr => ?_⟩
  obtain ⟨r0, h0, e⟩ := hw.2 i r hr
  have h1 := I.rw i r0 h0
  have ev : vsR r.2 = vsR r0.2 ++ (addOf [(place, y)] (s.version + 1) i).map (·.1) := by
    have := congrArg (List.map (·.1)) e
    rw [List.map_append, List.map_map, List.map_map] at this
    exact this
  show Rw (s.version + 1) _ _
  rw [ev]
  by_cases hi : place = (i : Int)
  · have ea : addOf [(place, y)] (s.version + 1) i = [(s.version + 1, y)] := by
      unfold addOf
      rw [List.filter_cons, if_pos (decide_eq_true hi)]
      rfl
    have eb : (wr.set place.toNat true).getD i false = true := by
      rw [List.getD_eq_getElem?_getD, show i = place.toNat by omega, List.getElem?_set_self (by omega)]
      rfl
    rw [ea, eb]
    exact h1.write
  · have ea : addOf [(place, y)] (s.version + 1) i = [] := by
      unfold addOf
      rw [List.filter_cons, if_neg (by simpa using hi)]
      rfl
    have eb : (wr.set place.toNat true).getD i false = wr.getD i false := by
      rw [List.getD_eq_getElem?_getD, List.getElem?_set_ne (by omega), ← List.getD_eq_getElem?_getD]
    rw [ea, eb, List.map_nil, List.append_nil]
    exact h1.up
theorem V21.trok {s : Ver} {wr : List Bool} {hand : Int} (I : V21 s wr hand) : TrOk s := by
  refine ⟨I.wf, fun r hr => ?_, fun r hr z hz => ?_, by rw [I.bg]; show 1 < 60; decide⟩
  · obtain ⟨i, hi⟩ := List.mem_iff_getElem?.mp hr
    obtain ⟨_, _, h, _⟩ := I.rw i r hi
    exact h
  · obtain ⟨i, hi⟩ := List.mem_iff_getElem?.mp hr
    obtain ⟨tl, h, _⟩ := I.rw i r hi
    have hm : (0 : Int) ∈ vsR r.2 := by rw [h]; exact List.mem_cons.mpr (.inl rfl)
    obtain ⟨q, hq, e⟩ := List.mem_map.mp hm
    refine ⟨q, hq, ?_⟩
    have := I.wf.v0
    rw [I.bg] at hz
    have e : q.2.1 = 0 := e
    simp at hz
    omega
theorem V21.trim {s : Ver} {wr : List Bool} {hand : Int} (I : V21 s wr hand) {zs : List Int} {rows : VRows} (hz : ∀ z, z ∈ zs ↔ z ∈ s.begun.map (·.2) ++ [s.version]) (ht : TRel s.rows rows zs s.rows.length) :
    V21 { s with rows := rows } wr hand ∧ ∀ (i : Nat) r, rows[i]? = some r → r.2.length = if wr.getD i false = true then 2 else 1 := by
  have hz2 : ∀ z, z ∈ zs ↔ z = 0 ∨ z = s.version := fun z => by
    rw [hz, I.bg]
    simp
  have key : ∀ (i : Nat) r, rows[i]? = some r → Rw s.version (wr.getD i false) (vsR r.2) ∧ (vsR r.2).length = if wr.getD i false = true then 2 else 1 := fun i r hr => by
    obtain ⟨r0, h0, h1, _⟩ := ht.2 i r hr
    rw [h1 (get_lt h0), trim_vs]
    exact (I.rw i r0 h0).trim I.wf.v0 hz2
  exact ⟨⟨I.wf.trim ht, I.hh, I.bg, by rw [I.wl]; exact ht.1.symm, fun i r hr => (key i r hr).1⟩, fun i r hr => by have := (key i r hr).2; rwa [List.length_map] at this⟩
theorem lens_of {R : VRows} {wr : List Bool} {f : Bool → Nat} (hl : wr.length = R.length) (h : ∀ (i : Nat) r, R[i]? = some r → r.2.length = f (wr.getD i false)) : lens R = (wr.map fun b => (f b : Int)).sum := by
  unfold lens
  congr 1
  refine List.ext_getElem? fun i => ?_
  rw [List.getElem?_map, List.getElem?_map]
  rcases Nat.lt_or_ge i R.length with h1 | h1
  · rw [List.getElem?_eq_getElem h1, List.getElem?_eq_getElem (show i < wr.length by omega)]
    have := h i _ (List.getElem?_eq_getElem h1)
    rw [List.getD_eq_getElem?_getD, List.getElem?_eq_getElem (show i < wr.length by omega)] at this
    show some ((_ : Nat) : Int) = some _
    rw [this]
    rfl
  · rw [List.getElem?_eq_none h1, List.getElem?_eq_none (show wr.length ≤ i by omega)]
    rfl
theorem sum_two (wr : List Bool) : (wr.map fun b => (((if b = true then 2 else 1 : Nat)) : Int)).sum - (wr.map fun _ => (((1 : Nat)) : Int)).sum = (wr.countP id : Nat) := by
  induction wr with
  | nil => rfl
  | cons b r ih =>
    rw [List.map_cons, List.map_cons, List.sum_cons, List.sum_cons, List.countP_cons]
    cases b
    · show ((1 : Nat) : Int) + _ - _ = ((_ + 0 : Nat) : Int)
      omega
    · show ((2 : Nat) : Int) + _ - _ = ((_ + 1 : Nat) : Int)
      omega
/-- behind finish: the trim lets go one of each cell that was written -/
theorem V21.fin {s : Ver} {wr : List Bool} {hand : Int} (I : V21 s wr hand) (ht0 : ∀ (i : Nat) r, s.rows[i]? = some r → r.2.length = if wr.getD i false = true then 2 else 1) : TrOk (s.finish hand) ∧
    ∀ (zs : List Int) (rows : VRows), (∀ z, z ∈ zs ↔ z ∈ (s.finish hand).begun.map (·.2) ++ [s.version]) → TRel s.rows rows zs s.rows.length → lens s.rows - lens rows = (wr.countP id : Nat) := by
  have hb : (s.finish hand).begun = [] := by
    show rm s.begun hand = []
    rw [I.bg]
    unfold rm
    simp
  have t := I.trok
  refine ⟨⟨I.wf.finish hand, t.rise, fun r hr z hz => t.has r hr z ?_, by rw [hb]; decide⟩, fun zs rows hz ht => ?_⟩
  · rw [hb] at hz
    exact List.mem_append.mpr (.inr hz)
  · have hz2 : ∀ z, z ∈ zs ↔ z = s.version := fun z => by
      rw [hz, hb]
      simp
    have key : ∀ (i : Nat) r, rows[i]? = some r → r.2.length = 1 := fun i r hr => by
      obtain ⟨r0, h0, h1, _⟩ := ht.2 i r hr
      have h2 := (I.rw i r0 h0).last hz2
      rw [← trim_vs, ← h1 (get_lt h0), List.length_map] at h2
      exact h2
    rw [lens_of (f := fun b => if b = true then 2 else 1) I.wl ht0, lens_of (R := rows) (f := fun _ => 1) (by rw [I.wl]; exact ht.1.symm) key]
    exact sum_two wr
/-! ### k21: the making of the four -/
theorem rg_get {n c : Int} (c0 : 0 ≤ c) (c1 : c < n) : (rgI n).getD c.toNat 0 = c := by
  unfold rgI
  rw [List.getD_eq_getElem?_getD, List.getElem?_map, List.getElem?_range (by omega)]
  show ((c.toNat : Nat) : Int) = c
  omega
theorem new_vn {dx w c : Addr} {h n : Int} (n1 : 1 ≤ n) : ((Sto.new dx w c h n).vals.length : Int) = n := by
  show ((List.replicate n.toNat (0 : Int)).length : Int) = n
  rw [List.length_replicate]
  omega
theorem R21.make {dx w c ia sa wa l : Addr} {n hand cell : Int} (n1 : 1 ≤ n) (n5 : n ≤ 5) (h0 : 0 ≤ hand) (h1 : hand < 2) : R21 (((Rnd.new (Sto.new dx w c 2 n) ia sa wa).enter hand l).look hand cell) (rgI n) n hand 0 := by
  have w0 := Rnd.new_wf (dx := dx) (w := w) (c := c) (ia := ia) (sa := sa) (wa := wa) (h := 2) (n := n) (by decide) n1 n5
  refine ⟨(w0.enter h0 h1 rfl).look hand cell, rfl, rfl, new_vn n1, rfl, rfl, rfl, fun z => ⟨fun h => absurd (show (fd ([] : List (Int × Int)) z).isSome = true from h) (by simp [fd]), fun ⟨a, b⟩ => absurd a b⟩, fun z w h => absurd (show fd ([] : List (Int × Int)) z = some w from h) (by simp [fd])⟩
theorem M21.make {s : Sto} {ma wa a1 a2 a3 : Addr} {b1 b2 b3 : U} {n hand cell : Int} (es : ∃ dx w c, s = Sto.new dx w c 2 n) (n1 : 1 ≤ n)
    (w : ((((Mrk.new s ma wa).mark hand 1 ⟨a1, "fetched", cell, cell⟩ b1).mark hand 1 ⟨a2, "set", cell, cell⟩ b2).mark hand 1 ⟨a3, "sure", cell, cell⟩ b3).wf) :
    M21 ((((Mrk.new s ma wa).mark hand 1 ⟨a1, "fetched", cell, cell⟩ b1).mark hand 1 ⟨a2, "set", cell, cell⟩ b2).mark hand 1 ⟨a3, "sure", cell, cell⟩ b3) (rgI n) n hand cell := by
  obtain ⟨dx, w', c, rfl⟩ := es
  refine ⟨w, rfl, rfl, new_vn n1, ⟨⟨a3, "sure", cell, cell⟩, ?_, rfl, rfl⟩, fun z => ⟨.inl, fun h => h.elim id fun h => by cases h⟩⟩
  show pu (pu (pu [] (hand, 1) _) (hand, 1) _) (hand, 1) _ = _
  simp [pu, fd]
theorem K21.make {dx w c ha : Addr} {n hand cell : Int} (n1 : 1 ≤ n) (n5 : n ≤ 5) (h0 : 0 ≤ hand) (h1 : hand < 2) (c0 : 0 ≤ cell) (c1 : cell < n) : K21 ⟨Sto.new dx w c 2 n, ha, pu [] (hand, cell) 1⟩ (rgI n) n hand cell := by
  have w0 := Cnt.new_wf (dx := dx) (w := w) (c := c) (ha := ha) (h := 2) (n := n) n1 n5
  have hm : cell ∈ rgI n := mem_rg.mpr ⟨c0, c1⟩
  refine ⟨w0.hold h0 h1 hm (by decide) (by show 0 < 1000; decide), rfl, rfl, new_vn n1, ?_, fun z => ⟨.inl, fun h => h.elim id fun h => h ▸ hm⟩⟩
  show pu [] (hand, cell) 1 = _
  simp [pu, fd]
def sp__law_stores (CR CM CC CV : Addr) : Sp := fun vs H Q _ => ∃ (n hand cell : Int) (R : List U), vs = [.int n, .int hand, .int cell] ∧ 1 ≤ n ∧ n ≤ 5 ∧ 0 ≤ hand ∧ hand < 2 ∧ 0 ≤ cell ∧ cell < n ∧ Has H R ∧
  ∀ (t p1 p2 p3 p4 : Addr) (r1 : Rnd) (r2 : Mrk) (r3 : Cnt) (s : Ver) H', R21 r1 (rgI n) n hand 0 → M21 r2 (rgI n) n hand cell → K21 r3 (rgI n) n hand cell → V21 s (List.replicate n.toNat false) hand → s.version = 0 →
    Has H' ([(t, .tup [.ref p1, .ref p2, .ref p3, .ref p4])] :: rndU CR p1 r1 :: mrkU CM p2 r2 :: cntU CC p3 r3 :: verU CV p4 s :: R) → Q (.ref t) H'
theorem pure__law_stores {K : PySem.W.Frag} {CR CM CC CV : Addr} {vs : List V} {H : Hp} {Q : VK} {E : XK} (h : sp__law_stores CR CM CC CV vs H Q E) :
    t__law_stores K CV CC CM CR (sp_vinit CV) (sp_cinit CC) (sp_minit CM) (sp_rinit CR) (sp_enter CR) (sp_look CR) (sp_fetch CM) (sp_set_mark CM) (sp_sure CM) (sp_hold CC) (sp_vbegin CV) ⟨fun _ H' => Q .non H', Q, fun _ _ => False, fun _ _ => False⟩ (start ["cells", "hand", "cell", "one", "two", "three", "four"] vs) H := by
  obtain ⟨n, hand, cell, R, rfl, n1, n5, h0, h1, c0, c1, hh, q⟩ := h
  unfold t__law_stores
  walk_at "go"
  rename_i p1 dx1 H1 g1
  refine ⟨p1, dx1, 2, n, _, rfl, g1, by decide, by decide, n1, n5, fun w1 cc1 ia1 sa1 wa1 H2 g2 => ⟨rfl, ?_⟩⟩
  clear hh g1
  walk_at "go"
  rename_i p2 dx2 H3 g3
  refine ⟨p2, dx2, 2, n, _, rfl, g3, by decide, by decide, n1, n5, fun w2 cc2 ma2 wa2 H4 g4 => ⟨rfl, ?_⟩⟩
  clear g2 g3
  walk_at "go"
  rename_i p3 dx3 H5 g5
  refine ⟨p3, dx3, 2, n, _, rfl, g5, by decide, by decide, n1, n5, fun w3 cc3 ha3 H6 g6 => ⟨rfl, ?_⟩⟩
  clear g4 g5
  walk_at "go"
  rename_i p4 dx4 H7 g7
  refine ⟨p4, dx4, 2, n, _, rfl, g7, by decide, by decide, n1, n5, fun s4 H8 v1 v2 v3 v4 v5 v6 g8 => ⟨rfl, ?_⟩⟩
  clear g6 g7
  generalize hs1 : Sto.new dx1 w1 cc1 2 n = s1 at *
  generalize hs2 : Sto.new dx2 w2 cc2 2 n = s2 at *
  generalize hs3 : Sto.new dx3 w3 cc3 2 n = s3 at *
  walk_at "go"
  rename_i t9 H9 g9
  clear g8
  have hh1 : s1.hands = 2 := by rw [← hs1]; rfl
  have hh2 : s2.hands = 2 := by rw [← hs2]; rfl
  have hh3 : s3.hands = 2 := by rw [← hs3]; rfl
  have hl1 : (s1.cells.length : Int) = n := by rw [← hs1]; show ((rgI n).length : Int) = n; rw [rgI_len]; omega
  have hl2 : (s2.cells.length : Int) = n := by rw [← hs2]; show ((rgI n).length : Int) = n; rw [rgI_len]; omega
  have hl3 : (s3.cells.length : Int) = n := by rw [← hs3]; show ((rgI n).length : Int) = n; rw [rgI_len]; omega
  have hc2 : s2.cells.getD cell.toNat 0 = cell := by rw [← hs2]; exact rg_get c0 c1
  have hc3 : s3.cells.getD cell.toNat 0 = cell := by rw [← hs3]; exact rg_get c0 c1
  have wr : (Rnd.new s1 ia1 sa1 wa1).wf := by rw [← hs1]; exact Rnd.new_wf (by decide) n1 n5
  have wm : (Mrk.new s2 ma2 wa2).wf := by rw [← hs2]; exact Mrk.new_wf (by decide) n1 n5
  refine ⟨p1, _, hand, _, rfl, g9.sub (show Sub (rndU CR p1 _ :: _) _ by walk_at "sub"), wr, h0, by show hand < s1.hands; omega, rfl, by show 0 < 6; decide, fun l1 H10 g10 => ?_⟩
  replace g10 : Has H10 (rndU CR p1 ((Rnd.new s1 ia1 sa1 wa1).enter hand l1) :: _) := g10
  have we : ((Rnd.new s1 ia1 sa1 wa1).enter hand l1).wf := wr.enter h0 (by show hand < s1.hands; omega) rfl
  have hin : (fd ((Rnd.new s1 ia1 sa1 wa1).enter hand l1).inside hand).isSome = true := by show (fd [(hand, (0 : Int))] hand).isSome = true; simp [fd]
  have hsl : ∀ q ∈ ((Rnd.new s1 ia1 sa1 wa1).enter hand l1).saw, q.2.2.length ≤ 1000 := fun q hq => by
    have hq : q ∈ [(hand, (l1, ([] : List Int)))] := hq
    rw [List.mem_singleton.mp hq]
    exact Nat.zero_le _
  have er : ((Rnd.new s1 ia1 sa1 wa1).enter hand l1).sto = s1 := rfl
  have R0 := R21.make (dx := dx1) (w := w1) (c := cc1) (ia := ia1) (sa := sa1) (wa := wa1) (l := l1) (n := n) (hand := hand) (cell := cell) n1 n5 h0 h1
  rw [hs1] at R0
  clear g9
  generalize (Rnd.new s1 ia1 sa1 wa1).enter hand l1 = r1 at *
  walk_at "go"
  refine ⟨p1, r1, hand, cell, _, rfl, g10, we, h0, by rw [er]; omega, hin, c0, by rw [er]; omega, hsl, fun H11 g11 => ?_⟩
  replace g11 : Has H11 (rndU CR p1 (r1.look hand cell) :: _) := g11
  clear g10
  generalize r1.look hand cell = r2 at *
  walk_at "go"
  refine ⟨p2, _, hand, 1, cell, _, rfl, g11.sub (show Sub (mrkU CM p2 _ :: _) _ by walk_at "sub"), wm, h0, by show hand < s2.hands; omega, by decide, by decide, c0, by show cell < s2.cells.length; omega, fun a1 b1 H12 wm1 g12 => ?_⟩
  rw [show (Mrk.new s2 ma2 wa2).sto.cells.getD cell.toNat 0 = cell from hc2] at wm1 g12
  clear g11
  walk_at "go"
  refine ⟨p2, _, hand, 1, ⟨a1, "fetched", cell, cell⟩, _, rfl, g12, wm1, h0, by show hand < s2.hands; omega, by decide, by decide, by show fd (pu [] (hand, 1) _) (hand, 1) = _; rw [fd_pu, if_pos rfl], rfl, fun a2 b2 H13 wm2 g13 => ?_⟩
  clear g12
  walk_at "go"
  refine ⟨p2, _, hand, 1, ⟨a2, "set", cell, cell⟩, _, rfl, g13, wm2, h0, by show hand < s2.hands; omega, by decide, by decide, by show fd (pu _ (hand, 1) _) (hand, 1) = _; rw [fd_pu, if_pos rfl], rfl, fun _ a3 b3 H14 wm3 g14 => ?_, fun hne => absurd hc2 hne⟩
  clear g13
  have M0 := M21.make ⟨dx2, w2, cc2, hs2.symm⟩ n1 wm3
  generalize (((Mrk.new s2 ma2 wa2).mark hand 1 ⟨a1, "fetched", cell, cell⟩ b1).mark hand 1 ⟨a2, "set", cell, cell⟩ b2).mark hand 1 ⟨a3, "sure", cell, cell⟩ b3 = m3 at *
  walk_at "go"
  refine ⟨p3, Cnt.new s3 ha3, hand, cell, _, rfl, g14.sub (show Sub (cntU CC p3 _ :: _) _ by walk_at "sub"), by show 0 < 1000; decide, h0, by show hand < s3.hands; omega, c0, by show cell < s3.cells.length; omega, fun H15 g15 => ?_⟩
  clear g14
  have K0 := K21.make (dx := dx3) (w := w3) (c := cc3) (ha := ha3) (n := n) (hand := hand) (cell := cell) n1 n5 h0 h1 c0 c1
  rw [hs3] at K0
  have g16 : Has H15 (cntU CC p3 ⟨s3, ha3, pu [] (hand, cell) 1⟩ :: mrkU CM p2 m3 :: rndU CR p1 r2 :: [(t9, .tup [.ref p1, .ref p2, .ref p3, .ref p4])] :: verU CV p4 s4 :: R) := by
    rw [show (Cnt.new s3 ha3).sto.cells.getD cell.toNat 0 = cell from hc3] at g15
    exact g15
  clear g15
  generalize (⟨s3, ha3, pu [] (hand, cell) 1⟩ : Cnt) = r3 at *
  walk_at "go"
  refine ⟨p4, s4, hand, _, rfl, g16.sub (show Sub (verU CV p4 s4 :: _) _ by walk_at "sub"), v6, h0, by omega, by rw [v3]; rfl, fun l4 H17 g17 => ?_⟩
  clear g16
  have V0 := V21.make (l := l4) (n := n) (hand := hand) v1 v2 v3 v5 v6
  have hv0 : (s4.begin hand l4).version = 0 := v2
  generalize s4.begin hand l4 = s5 at *
  walk_at "go"
  rename_i t18 H18 g18
  exact q t18 p1 p2 p3 p4 r2 m3 r3 s5 H18 R0 M0 K0 V0 hv0 (g18.sub (show Sub ([(t18, _)] :: rndU CR p1 r2 :: mrkU CM p2 m3 :: cntU CC p3 r3 :: verU CV p4 s5 :: R) _ by walk_at "sub"))
/-! ### k21: a turn -/
structure J21 (r1 : Rnd) (r2 : Mrk) (r3 : Cnt) (s : Ver) (cs : List Int) (wl : List Bool) (n hand cell : Int) (i : Nat) : Prop where
  r : R21 r1 cs (n + i) hand (if i = 0 then 0 else 1)
  m : M21 r2 cs (n + i) hand cell
  k : K21 r3 cs (n + i) hand cell
  v : V21 s wl hand
  sv : s.version = i
  cl : (cs.length : Int) = n
  wn : (wl.length : Int) = n
  c0 : i = 0 → cs = rgI n
  c1 : 0 < i → cell ∉ cs
/-- behind the swaps and the write -/
theorem J21.step {r1 : Rnd} {r2 : Mrk} {r3 : Cnt} {s : Ver} {cs : List Int} {wl : List Bool} {n hand cell : Int} {i : Nat} (J : J21 r1 r2 r3 s cs wl n hand cell i) {place y1 y2 y3 y : Int} {rows : VRows} {bag : Prs} (hn : 1 ≤ n) (h5 : n ≤ 5) (hi : i < 20) (hc0 : 0 ≤ cell) (hc1 : cell < n) (p0 : 0 ≤ place) (p1 : place < n) (hp : i = 0 → place = cell)
    (hw : WRel s.rows rows [(place, y)] (s.version + 1)) (hb : ∀ r ∈ rows, ∀ q ∈ r.2, q ∈ bag) :
    R21 (r1.swap place y1) (cs.set place.toNat (n + i)) (n + (i + 1 : Nat)) hand (if i = 0 then 0 else 1) ∧ M21 (r2.swap place y2) (cs.set place.toNat (n + i)) (n + (i + 1 : Nat)) hand cell ∧ K21 (r3.swap place y3) (cs.set place.toNat (n + i)) (n + (i + 1 : Nat)) hand cell ∧ V21 { s with version := s.version + 1, rows := rows, bag := bag } (wl.set place.toNat true) hand ∧ cell ∉ cs.set place.toNat (n + i) := by
  have e : n + ((i + 1 : Nat) : Int) = n + i + 1 := by omega
  have hl := J.cl
  rw [e]
  refine ⟨J.r.swap p0 (by omega) (by omega) (by split <;> decide), J.m.swap p0 (by omega) (by omega), J.k.swap p0 (by omega) (by omega), J.v.write p0 (by have := J.wn; omega) (by rw [J.sv]; omega) hw hb, fun h => ?_⟩
  by_cases hz : i = 0
  · have hcs := J.c0 hz
    have hpc := hp hz
    have nd : cs.Nodup := by rw [hcs]; exact rgI_nodup n
    have hx : n + (i : Int) ∉ cs := fun h => by rw [hcs] at h; have := mem_rg.mp h; omega
    rcases (mem_set_iff nd (by omega) hx).mp h with h | ⟨_, h⟩
    · omega
    · rw [hcs, hpc, rg_get hc0 hc1] at h
      exact h rfl
  · rcases List.mem_or_eq_of_mem_set h with h | h
    · exact J.c1 (by omega) h
    · omega
end La
namespace La
open PySem L2 Sy
local macro_rules | `(tactic| walk_at "fl") => `(tactic| first | assumption | exact stF_hands | exact stF_worth | exact stF_cells | exact stF_made | exact StX.f1 (by assumption) | exact StX.f2 (by assumption) | exact StX.f3 (by assumption) | exact StX.f4 (by assumption) | exact StX.f5 (by assumption) | exact StX.f6 (by assumption) | exact StX.f7 (by assumption) | exact StX.f8 (by assumption) | exact StX.f9 (by assumption))
local macro_rules | `(tactic| walk_at "fsl") => `(tactic| first | assumption | exact StX.fl (by assumption))
local macro_rules | `(tactic| walk_at "put") => `(tactic| first | exact stF_put_made | exact stF_put_cells | exact stF_put_worth | exact stF_put_hands)
local macro_rules | `(tactic| walk_at "fl") => `(tactic| first | assumption | exact stF_hands | exact stF_worth | exact stF_cells | exact stF_made | exact rd_era | exact rd_inside | exact rd_saw | exact rd_waits | exact rd_m_enter | exact rd_m_look_in | exact rd_m_leave | exact rd_m_look | exact rd_m_read | exact rd_m_go_on | exact rd_m_round_now | exact rd_m_hands_in | exact StX.f1 rdX_ok | exact StX.f2 rdX_ok | exact StX.f3 rdX_ok | exact StX.f4 rdX_ok | exact StX.f5 rdX_ok | exact StX.f6 rdX_ok | exact StX.f7 rdX_ok | exact StX.f8 rdX_ok | exact StX.f9 rdX_ok)
local macro_rules | `(tactic| walk_at "put") => `(tactic| first | exact rd_put_era | exact rd_put_inside | exact rd_put_saw | exact rd_put_waits)
local macro_rules | `(tactic| walk_at "fsl") => `(tactic| first | assumption | exact StX.fl rdX_ok)
local macro_rules | `(tactic| walk_at "fl") => `(tactic| first | assumption | exact stF_hands | exact stF_worth | exact stF_cells | exact stF_made | exact mk_marks | exact mk_waits | exact mk_m_look_mark | exact mk_m_state_of | exact mk_m_fetch | exact mk_m_set_mark | exact mk_m_sure | exact mk_m_read | exact mk_m_clear_mark | exact mk_m_marked | exact mk_m_sweep | exact StX.f1 mkX_ok | exact StX.f2 mkX_ok | exact StX.f3 mkX_ok | exact StX.f4 mkX_ok | exact StX.f5 mkX_ok | exact StX.f6 mkX_ok | exact StX.f7 mkX_ok | exact StX.f8 mkX_ok | exact StX.f9 mkX_ok)
local macro_rules | `(tactic| walk_at "put") => `(tactic| first | exact mk_put_marks | exact mk_put_waits | exact stF_put_made | exact stF_put_cells | exact stF_put_worth | exact stF_put_hands)
local macro_rules | `(tactic| walk_at "fsl") => `(tactic| first | assumption | exact StX.fl mkX_ok)
local macro_rules | `(tactic| walk_at "fl") => `(tactic| first | assumption | exact stF_hands | exact stF_worth | exact stF_cells | exact stF_made | exact ct_held | exact ct_m_count_of | exact ct_m_hold | exact ct_m_look_held | exact ct_m_read | exact ct_m_drop | exact ct_m_loose | exact ct_m_holds | exact StX.f1 ctX_ok | exact StX.f2 ctX_ok | exact StX.f3 ctX_ok | exact StX.f4 ctX_ok | exact StX.f5 ctX_ok | exact StX.f6 ctX_ok | exact StX.f7 ctX_ok | exact StX.f8 ctX_ok | exact StX.f9 ctX_ok)
local macro_rules | `(tactic| walk_at "put") => `(tactic| first | exact ct_put_held | exact stF_put_made | exact stF_put_cells | exact stF_put_worth | exact stF_put_hands)
local macro_rules | `(tactic| walk_at "fsl") => `(tactic| first | assumption | exact StX.fl ctX_ok)
local macro_rules | `(tactic| walk_at "fl") => `(tactic| first | assumption | exact ve_hands | exact ve_rows | exact ve_version | exact ve_begun | exact ve_asked | kernel_rfl)
local macro_rules | `(tactic| walk_at "put") => `(tactic| first | exact ve_put_hands | exact ve_put_rows | exact ve_put_version | exact ve_put_begun | exact ve_put_asked | exact ve_p1 | exact ve_p2 | exact ve_p3 | exact ve_p4 | exact ve_p5)
local macro_rules | `(tactic| walk_at "fsl") => `(tactic| first | assumption | exact ve_len | (show 0 < 1000; decide) | (show 1 < 1000; decide) | (show 2 < 1000; decide) | (show 3 < 1000; decide) | (show 4 < 1000; decide))
abbrev TL (K : PySem.W.Frag) (CR CM CC CV : Addr) (f : PySem.W.Frag → Addr → Addr → Addr → Addr → Sp → Sp → Sp → Sp → Sp → Sp → Sp → Sp → Sp → Sp → Sp → Sp → Sp → Sp → Sp → Sp → Sp → Sp → TS) : TS :=
  f K CR CM CC CV (sp__law_town K) sp__law_draw (sp__law_stores CR CM CC CV) (sp_swapR CR) (sp_swapM CM) (sp_swapC CC) (sp_vwrite CV) (sp_go_on CR) (sp_sweep CM) (sp_vtrim CV) (sp_kept CR) (sp_kept CM) (sp_kept CC) (sp_vkept CV) (sp_leave CR) (sp_clear_mark CM) (sp_vfinish CV) (sp_drop CC)
abbrev s21 (a t : Addr) (n cell hand : Int) (p1 p2 p3 p4 : Addr) (many : Int) (tl wr : Addr) (o12 o13 o14 : Option V) : St :=
  [some (.ref a), some (.ref t), some (.int n), some (.int cell), some (.int hand), some (.ref p1), some (.ref p2), some (.ref p3), some (.ref p4), some (.int many), some (.ref tl), some (.ref wr), o12, o13, o14, none, none, none]
def toldOk (i : Nat) (L : List V) : Prop := (i = 0 ∧ L = []) ∨ ∃ (k : Nat) (v : V), i = k + 1 ∧ L = v :: List.replicate k .non
section
variable {K : PySem.W.Frag} {CR CM CC CV a t p1 p2 p3 p4 tl wr : Addr} {n cell hand many : Int}
def P21 (CR CM CC CV a t p1 p2 p3 p4 tl wr : Addr) (n cell hand many : Int) (i : Nat) (σ : St) (H : Hp) : Prop := ∃ (o12 o13 o14 : Option V) (ts : Town) (r1 : Rnd) (r2 : Mrk) (r3 : Cnt) (s : Ver) (cs : List Int) (wl : List Bool) (L : List V),
  σ = s21 a t n cell hand p1 p2 p3 p4 many tl wr o12 o13 o14 ∧ ts.ok ∧ J21 r1 r2 r3 s cs wl n hand cell i ∧ toldOk i L ∧
  Has H (townU t ts :: rndU CR p1 r1 :: mrkU CM p2 r2 :: cntU CC p3 r3 :: verU CV p4 s :: [(tl, .lst L)] :: [(wr, .lst (wl.map V.bl))] :: [])
def t21_mid (K : PySem.W.Frag) (CR CM CC CV : Addr) : TS :=
  tSeq (tAsg (tC (.bl true)) (gSub (tVar 11) (tVar 13) rSetL))
    (tSeq (tFor (iList K (tLst (tCons (tVar 5) (tCons (tVar 6) (tCons (tVar 7) (tNil)))))) (gName 14) (TL K CR CM CC CV t_law_b0))
    (tSeq (tDrop (tMeth CV "write" (sp_vwrite CV) [] E0 (tVar 8) (tCons (tLst (tCons (tTup (tCons (tVar 13) (tCons (tVar 12) (tNil)))) (tNil))) (tNil))))
    (tSeq (tDrop (tBM K "list" rAppend (tVar 10) (tCons (tMeth CR "go_on" (sp_go_on CR) [] E0 (tVar 5) tNil) (tNil))))
    (tIfS (tTest (tOp rEq (tCall sp__law_draw [] E0 (tCons (tVar 1) (tCons (tC (.int 3)) (tNil)))) (tC (.int 0)))) (TL K CR CM CC CV t_law_b1) (tNext)))))
theorem k21_late {i : Nat} {o12 o13 o14 : Option V} {ts : Town} {r1 : Rnd} {r2 : Mrk} {r3 : Cnt} {s : Ver} {cs : List Int} {wl : List Bool} {L : List V} {x : V} {H : Hp} {rt : VK} {bk : St → Hp → Prop} (hi : i < 14) (tok : ts.ok) (J : J21 r1 r2 r3 s cs wl n hand cell (i + 1)) (hl : L.length = i) (hL : toldOk (i + 1) (L ++ [x]))
    (hh : Has H (townU t ts :: rndU CR p1 r1 :: mrkU CM p2 r2 :: cntU CC p3 r3 :: verU CV p4 s :: [(tl, .lst L)] :: [(wr, .lst (wl.map V.bl))] :: [])) :
    rAppend (.ref tl) [x] H fun _ H1 => tIfS (tTest (tOp rEq (tCall sp__law_draw [] E0 (tCons (tVar 1) (tCons (tC (.int 3)) (tNil)))) (tC (.int 0)))) (TL K CR CM CC CV t_law_b1) tNext ⟨P21 CR CM CC CV a t p1 p2 p3 p4 tl wr n cell hand many (i + 1), rt, bk, P21 CR CM CC CV a t p1 p2 p3 p4 tl wr n cell hand many (i + 1)⟩ (s21 a t n cell hand p1 p2 p3 p4 many tl wr o12 o13 o14) H1 := by
  have hsz : L.length < sizeLine := by rw [sizeLine_eq]; omega
  walk_at "go"
  rename_i H1 g1
  clear hh
  refine use_draw g1 Sub.rf tok (by decide) (by decide) fun d ts' H2 d0 d1 tok' g2 => ?_
  clear g1
  walk_at "go"
  refine ifD (fun e => ?_) (fun e => ?_)
  · unfold TL t_law_b1
    walk_at "go"
    refine ⟨p2, r2, _, rfl, g2.sub (show Sub (mrkU CM p2 r2 :: _) _ by walk_at "sub"), J.m.wf, fun ys d3 wa H3 e1 e2 g3 => ?_⟩
    have m3 := (J.m.sweep wa).1
    have g4 := g3.sub (Sub.skip Sub.rf)
    clear g2 g3
    generalize r2.swept.at wa = r4 at *
    walk_at "go"
    refine ⟨p4, s, _, rfl, g4.sub (show Sub (verU CV p4 s :: _) _ by walk_at "sub"), J.v.trok, fun zs rows H5 z1 z2 z3 g5 => ?_⟩
    have v5 := (J.v.trim z2 z3).1
    walk_at "go"
    exact ⟨o12, o13, o14, ts', r1, r4, r3, { s with rows := rows }, cs, wl, _, rfl, tok', ⟨J.r, m3, J.k, v5, J.sv, J.cl, J.wn, J.c0, J.c1⟩, hL, g5.sub (show Sub (townU t ts' :: rndU CR p1 r1 :: mrkU CM p2 r4 :: cntU CC p3 r3 :: verU CV p4 { s with rows := rows } :: [(tl, .lst (L ++ [x]))] :: [(wr, .lst (wl.map V.bl))] :: []) _ by walk_at "sub")⟩
  · walk_at "go"
    exact ⟨o12, o13, o14, ts', r1, r2, r3, s, cs, wl, _, rfl, tok', J, hL, g2⟩
theorem k21_mid {i : Nat} {place : Int} {o14 : Option V} {ts : Town} {r1 : Rnd} {r2 : Mrk} {r3 : Cnt} {s : Ver} {cs : List Int} {wl : List Bool} {L : List V} {H : Hp} {rt : VK} {bk : St → Hp → Prop} (hn : 1 ≤ n) (h5 : n ≤ 4) (hc0 : 0 ≤ cell) (hc1 : cell < n) (hi : i < 14) (q0 : 0 ≤ place) (q1 : place < n) (hpl : i = 0 → place = cell) (tok : ts.ok) (J : J21 r1 r2 r3 s cs wl n hand cell i) (hL : toldOk i L)
    (hh : Has H (townU t ts :: rndU CR p1 r1 :: mrkU CM p2 r2 :: cntU CC p3 r3 :: verU CV p4 s :: [(tl, .lst L)] :: [(wr, .lst (wl.map V.bl))] :: [])) :
    t21_mid K CR CM CC CV ⟨P21 CR CM CC CV a t p1 p2 p3 p4 tl wr n cell hand many (i + 1), rt, bk, P21 CR CM CC CV a t p1 p2 p3 p4 tl wr n cell hand many (i + 1)⟩ (s21 a t n cell hand p1 p2 p3 p4 many tl wr (some (.int i)) (some (.int place)) o14) H := by
  have hwn := J.wn
  have pl : place < (wl.map V.bl).length := by rw [List.length_map]; omega
  have ex := ix_ok q0 pl
  unfold t21_mid
  walk_at "go"
  rename_i H1 g1 d2 H2 g2
  clear hh g1
  rw [show (wl.map V.bl).set place.toNat (V.bl true) = (wl.set place.toNat true).map V.bl from List.map_set.symm] at g2
  have ok1 := J.r.wf
  have hl1 : r1.sto.cells = cs := J.r.cl
  have hl2 : r2.sto.cells = cs := J.m.cl
  have hl3 : r3.sto.cells = cs := J.k.cl
  have hcl := J.cl
  have vn1 := J.r.vn
  have vn2 := J.m.vn
  have vn3 := J.k.vn
  refine k_forL (fun j σ H' => ∃ o14, σ = s21 a t n cell hand p1 p2 p3 p4 many tl wr (some (.int i)) (some (.int place)) o14 ∧ Has H' ([(d2, .lst [.ref p1, .ref p2, .ref p3])] :: townU t ts :: rndU CR p1 (if j = 0 then r1 else r1.swap place i) :: mrkU CM p2 (if j ≤ 1 then r2 else r2.swap place i) :: cntU CC p3 (if j ≤ 2 then r3 else r3.swap place i) :: verU CV p4 s :: [(tl, .lst L)] :: [(wr, .lst ((wl.set place.toNat true).map V.bl))] :: [])) g2.g0 ⟨o14, rfl, g2⟩ (fun j σ H' ⟨_, _, h⟩ => h.g0) ?_ ?_
  · rintro j y σ H3 hy ⟨o, rfl, g3⟩
    refine x_gname ?_
    unfold TL t_law_b0
    match j, hy with
    | 0, hy =>
      rw [← Option.some.inj hy]
      replace g3 : Has H3 ([(d2, .lst [.ref p1, .ref p2, .ref p3])] :: townU t ts :: rndU CR p1 r1 :: mrkU CM p2 r2 :: cntU CC p3 r3 :: verU CV p4 s :: [(tl, .lst L)] :: [(wr, .lst ((wl.set place.toNat true).map V.bl))] :: []) := g3
      have hp := (rnd_two.mp (g3.sub (show Sub (rndU CR p1 r1 :: _) _ by walk_at "sub"))).g0
      walk_at "go"
      refine x_or1 ?_
      walk_at "go"
      refine hsw_R p1 r1 place i _ _ _ (g3.sub (show Sub (rndU CR p1 r1 :: _) _ by walk_at "sub")) ⟨ok1, by omega⟩ q0 (by rw [hl1]; omega) (by omega) (by omega) fun H4 g4 => ?_
      walk_at "go"
      exact ⟨_, rfl, g4.sub (show Sub ([(d2, _)] :: townU t ts :: rndU CR p1 (r1.swap place i) :: mrkU CM p2 r2 :: cntU CC p3 r3 :: verU CV p4 s :: [(tl, .lst L)] :: [(wr, .lst ((wl.set place.toNat true).map V.bl))] :: []) _ by walk_at "sub")⟩
    | 1, hy =>
      rw [← Option.some.inj hy]
      replace g3 : Has H3 ([(d2, .lst [.ref p1, .ref p2, .ref p3])] :: townU t ts :: rndU CR p1 (r1.swap place i) :: mrkU CM p2 r2 :: cntU CC p3 r3 :: verU CV p4 s :: [(tl, .lst L)] :: [(wr, .lst ((wl.set place.toNat true).map V.bl))] :: []) := g3
      have hp := (mrk_two.mp (g3.sub (show Sub (mrkU CM p2 r2 :: _) _ by walk_at "sub"))).g0
      walk_at "go"
      refine x_or2 (x_or1 ?_)
      walk_at "go"
      refine hsw_M p2 r2 place i _ _ _ (g3.sub (show Sub (mrkU CM p2 r2 :: _) _ by walk_at "sub")) ⟨J.m.wf, by omega⟩ q0 (by rw [hl2]; omega) (by omega) (by omega) fun H4 g4 => ?_
      walk_at "go"
      exact ⟨_, rfl, g4.sub (show Sub ([(d2, _)] :: townU t ts :: rndU CR p1 (r1.swap place i) :: mrkU CM p2 (r2.swap place i) :: cntU CC p3 r3 :: verU CV p4 s :: [(tl, .lst L)] :: [(wr, .lst ((wl.set place.toNat true).map V.bl))] :: []) _ by walk_at "sub")⟩
    | 2, hy =>
      rw [← Option.some.inj hy]
      replace g3 : Has H3 ([(d2, .lst [.ref p1, .ref p2, .ref p3])] :: townU t ts :: rndU CR p1 (r1.swap place i) :: mrkU CM p2 (r2.swap place i) :: cntU CC p3 r3 :: verU CV p4 s :: [(tl, .lst L)] :: [(wr, .lst ((wl.set place.toNat true).map V.bl))] :: []) := g3
      have hp := (cnt_two.mp (g3.sub (show Sub (cntU CC p3 r3 :: _) _ by walk_at "sub"))).g0
      walk_at "go"
      refine x_or2 (x_or2 ?_)
      walk_at "go"
      refine hsw_C p3 r3 place i _ _ _ (g3.sub (show Sub (cntU CC p3 r3 :: _) _ by walk_at "sub")) ⟨J.k.wf, by omega⟩ q0 (by rw [hl3]; omega) (by omega) (by omega) fun H4 g4 => ?_
      walk_at "go"
      exact ⟨_, rfl, g4.sub (show Sub ([(d2, _)] :: townU t ts :: rndU CR p1 (r1.swap place i) :: mrkU CM p2 (r2.swap place i) :: cntU CC p3 (r3.swap place i) :: verU CV p4 s :: [(tl, .lst L)] :: [(wr, .lst ((wl.set place.toNat true).map V.bl))] :: []) _ by walk_at "sub")⟩
  · rintro σ H3 ⟨o, rfl, g3⟩
    replace g3 : Has H3 ([(d2, .lst [.ref p1, .ref p2, .ref p3])] :: townU t ts :: rndU CR p1 (r1.swap place i) :: mrkU CM p2 (r2.swap place i) :: cntU CC p3 (r3.swap place i) :: verU CV p4 s :: [(tl, .lst L)] :: [(wr, .lst ((wl.set place.toNat true).map V.bl))] :: []) := g3
    clear g2
    walk_at "go"
    rename_i d4 H4 g4 d5 H5 g5
    clear g3 g4
    refine ⟨p4, d5, s, [(d4, (place, (i : Int)))], _, rfl, g5.sub (show Sub (verU CV p4 s :: [(d5, .lst [.ref d4])] :: [(d4, .tup [.int place, .int i])] :: _) _ by walk_at "sub"), J.v.wf, by rw [J.sv]; omega, ⟨by simp, by show 1 ≤ 50; decide, by simp, fun q hq => by rw [List.mem_singleton.mp hq]; exact ⟨q0, by have := J.v.wl; show place < s.rows.length; omega⟩, fun q hq => by rw [List.mem_singleton.mp hq]; exact ⟨by show (0 : Int) ≤ i; omega, by show (i : Int) ≤ 999; omega⟩⟩, fun rows bag H6 hw hb g6 => ?_⟩
    obtain ⟨s1, s2, s3, s4, s5⟩ := J.step (y1 := i) (y2 := i) (y3 := i) hn (by omega) (by omega) hc0 hc1 q0 q1 hpl hw hb
    have g7 := g6.sub (show Sub (townU t ts :: rndU CR p1 (r1.swap place i) :: mrkU CM p2 (r2.swap place i) :: cntU CC p3 (r3.swap place i) :: verU CV p4 { s with version := s.version + 1, rows := rows, bag := bag } :: [(tl, .lst L)] :: [(wr, .lst ((wl.set place.toNat true).map V.bl))] :: []) _ by walk_at "sub")
    have hsv : ({ s with version := s.version + 1, rows := rows, bag := bag } : Ver).version = ((i + 1 : Nat) : Int) := by show s.version + 1 = _; rw [J.sv]; omega
    have hcl2 : ((cs.set place.toNat (n + i)).length : Int) = n := by rw [List.length_set]; exact J.cl
    have hwl2 : ((wl.set place.toNat true).length : Int) = n := by rw [List.length_set]; exact J.wn
    clear g5 g6 hw hb ok1 hl1 hl2 hl3 vn1 vn2 vn3 hcl J pl ex hwn
    generalize r1.swap place i = u1 at *
    generalize r2.swap place i = u2 at *
    generalize r3.swap place i = u3 at *
    generalize ({ s with version := s.version + 1, rows := rows, bag := bag } : Ver) = u4 at *
    generalize cs.set place.toNat (n + i) = cs2 at *
    generalize wl.set place.toNat true = wl2 at *
    walk_at "go"
    have hLl : L.length = i := by
      rcases hL with ⟨h1, h2⟩ | ⟨k, v, h1, h2⟩
      · rw [h1, h2]; rfl
      · rw [h1, h2, List.length_cons, List.length_replicate]
    refine ⟨p1, u1, _, rfl, g7.sub (show Sub (rndU CR p1 u1 :: _) _ by walk_at "sub"), s1.wf, fun nf H8 g8 => ?_, fun fr ys d8 H8 e1 e2 g8 => ?_⟩
    · have hz : i ≠ 0 := fun e => by
        rw [if_pos e] at s1
        exact nf s1.next0.1
      rw [if_neg hz] at s1
      have hT : toldOk (i + 1) (L ++ [.non]) := by
        rcases hL with ⟨h1, h2⟩ | ⟨k, v, h1, h2⟩
        · exact absurd h1 hz
        · exact .inr ⟨i, v, rfl, by rw [h2, h1, List.replicate_succ']; rfl⟩
      exact k21_late hi tok ⟨by rw [if_neg (Nat.succ_ne_zero i)]; exact s1, s2, s3, s4, hsv, hcl2, hwl2, fun h => absurd h (Nat.succ_ne_zero i), fun _ => s5⟩ hLl hT (g8.sub (show Sub (townU t ts :: rndU CR p1 u1 :: mrkU CM p2 u2 :: cntU CC p3 u3 :: verU CV p4 u4 :: [(tl, .lst L)] :: [(wr, .lst (wl2.map V.bl))] :: []) _ by walk_at "sub"))
    · have hz : i = 0 := Classical.byContradiction fun e => by
        rw [if_neg e] at s1
        exact s1.stay fr
      rw [if_pos hz] at s1
      have s6 := s1.next0.2
      have hT : toldOk (i + 1) (L ++ [.ref d8]) := by
        rcases hL with ⟨h1, h2⟩ | ⟨k, v, h1, h2⟩
        · exact .inr ⟨i, .ref d8, rfl, by rw [h2, h1]; rfl⟩
        · omega
      exact k21_late hi tok ⟨by rw [if_neg (Nat.succ_ne_zero i)]; exact s6, s2, s3, s4, hsv, hcl2, hwl2, fun h => absurd h (Nat.succ_ne_zero i), fun _ => s5⟩ hLl hT (g8.sub (show Sub (townU t ts :: rndU CR p1 u1.next :: mrkU CM p2 u2 :: cntU CC p3 u3 :: verU CV p4 u4 :: [(tl, .lst L)] :: [(wr, .lst (wl2.map V.bl))] :: []) _ by walk_at "sub"))
theorem k21_turn {i : Nat} {σ : St} {H : Hp} {rt : VK} {bk : St → Hp → Prop} (hn : 1 ≤ n) (h5 : n ≤ 4) (hc0 : 0 ≤ cell) (hc1 : cell < n) (hi : i < 14) (P : P21 CR CM CC CV a t p1 p2 p3 p4 tl wr n cell hand many i σ H) :
    TL K CR CM CC CV t_law_b2 ⟨P21 CR CM CC CV a t p1 p2 p3 p4 tl wr n cell hand many (i + 1), rt, bk, P21 CR CM CC CV a t p1 p2 p3 p4 tl wr n cell hand many (i + 1)⟩ (σ.set 12 (some (.int i))) H := by
  obtain ⟨o12, o13, o14, ts, r1, r2, r3, s, cs, wl, L, rfl, tok, J, hL, hh⟩ := P
  show tSeq (tAsg (tIf (tTest (tOp rEq (tVar 12) (tC (.int 0)))) (tVar 3) (tCall sp__law_draw [] E0 (tCons (tVar 1) (tCons (tVar 2) (tNil))))) (gName 13)) (t21_mid K CR CM CC CV) _ _ _
  walk_at "go"
  refine ifD (fun e => ?_) (fun e => ?_)
  · walk_at "go"
    exact k21_mid hn h5 hc0 hc1 hi hc0 hc1 (fun _ => rfl) tok J hL hh
  · walk_at "go"
    refine use_draw hh Sub.rf tok (by omega) (by omega) fun d ts' H' d0 d1 tok' h' => ?_
    clear hh
    walk_at "go"
    exact k21_mid hn h5 hc0 hc1 hi d0 d1 (fun h => absurd (by omega : (i : Int) = 0) e) tok' J hL h'
end
end La
namespace La
open PySem L2 Sy
local macro_rules | `(tactic| walk_at "fl") => `(tactic| first | assumption | exact stF_hands | exact stF_worth | exact stF_cells | exact stF_made | exact StX.f1 (by assumption) | exact StX.f2 (by assumption) | exact StX.f3 (by assumption) | exact StX.f4 (by assumption) | exact StX.f5 (by assumption) | exact StX.f6 (by assumption) | exact StX.f7 (by assumption) | exact StX.f8 (by assumption) | exact StX.f9 (by assumption))
local macro_rules | `(tactic| walk_at "fsl") => `(tactic| first | assumption | exact StX.fl (by assumption))
local macro_rules | `(tactic| walk_at "put") => `(tactic| first | exact stF_put_made | exact stF_put_cells | exact stF_put_worth | exact stF_put_hands)
local macro_rules | `(tactic| walk_at "fl") => `(tactic| first | assumption | exact stF_hands | exact stF_worth | exact stF_cells | exact stF_made | exact rd_era | exact rd_inside | exact rd_saw | exact rd_waits | exact rd_m_enter | exact rd_m_look_in | exact rd_m_leave | exact rd_m_look | exact rd_m_read | exact rd_m_go_on | exact rd_m_round_now | exact rd_m_hands_in | exact StX.f1 rdX_ok | exact StX.f2 rdX_ok | exact StX.f3 rdX_ok | exact StX.f4 rdX_ok | exact StX.f5 rdX_ok | exact StX.f6 rdX_ok | exact StX.f7 rdX_ok | exact StX.f8 rdX_ok | exact StX.f9 rdX_ok)
local macro_rules | `(tactic| walk_at "put") => `(tactic| first | exact rd_put_era | exact rd_put_inside | exact rd_put_saw | exact rd_put_waits)
local macro_rules | `(tactic| walk_at "fsl") => `(tactic| first | assumption | exact StX.fl rdX_ok)
local macro_rules | `(tactic| walk_at "fl") => `(tactic| first | assumption | exact stF_hands | exact stF_worth | exact stF_cells | exact stF_made | exact mk_marks | exact mk_waits | exact mk_m_look_mark | exact mk_m_state_of | exact mk_m_fetch | exact mk_m_set_mark | exact mk_m_sure | exact mk_m_read | exact mk_m_clear_mark | exact mk_m_marked | exact mk_m_sweep | exact StX.f1 mkX_ok | exact StX.f2 mkX_ok | exact StX.f3 mkX_ok | exact StX.f4 mkX_ok | exact StX.f5 mkX_ok | exact StX.f6 mkX_ok | exact StX.f7 mkX_ok | exact StX.f8 mkX_ok | exact StX.f9 mkX_ok)
local macro_rules | `(tactic| walk_at "put") => `(tactic| first | exact mk_put_marks | exact mk_put_waits | exact stF_put_made | exact stF_put_cells | exact stF_put_worth | exact stF_put_hands)
local macro_rules | `(tactic| walk_at "fsl") => `(tactic| first | assumption | exact StX.fl mkX_ok)
local macro_rules | `(tactic| walk_at "fl") => `(tactic| first | assumption | exact stF_hands | exact stF_worth | exact stF_cells | exact stF_made | exact ct_held | exact ct_m_count_of | exact ct_m_hold | exact ct_m_look_held | exact ct_m_read | exact ct_m_drop | exact ct_m_loose | exact ct_m_holds | exact StX.f1 ctX_ok | exact StX.f2 ctX_ok | exact StX.f3 ctX_ok | exact StX.f4 ctX_ok | exact StX.f5 ctX_ok | exact StX.f6 ctX_ok | exact StX.f7 ctX_ok | exact StX.f8 ctX_ok | exact StX.f9 ctX_ok)
local macro_rules | `(tactic| walk_at "put") => `(tactic| first | exact ct_put_held | exact stF_put_made | exact stF_put_cells | exact stF_put_worth | exact stF_put_hands)
local macro_rules | `(tactic| walk_at "fsl") => `(tactic| first | assumption | exact StX.fl ctX_ok)
local macro_rules | `(tactic| walk_at "fl") => `(tactic| first | assumption | exact ve_hands | exact ve_rows | exact ve_version | exact ve_begun | exact ve_asked | kernel_rfl)
local macro_rules | `(tactic| walk_at "put") => `(tactic| first | exact ve_put_hands | exact ve_put_rows | exact ve_put_version | exact ve_put_begun | exact ve_put_asked | exact ve_p1 | exact ve_p2 | exact ve_p3 | exact ve_p4 | exact ve_p5)
local macro_rules | `(tactic| walk_at "fsl") => `(tactic| first | assumption | exact ve_len | (show 0 < 1000; decide) | (show 1 < 1000; decide) | (show 2 < 1000; decide) | (show 3 < 1000; decide) | (show 4 < 1000; decide))
/-! ### k21: what stands behind the turns -/
theorem x_sl21 {r : V → Option Int → Option Int → Hp → VK → Prop} {te : TE} {tl th : TO} {σ : St} {H : Hp} {Q : VK} (q : te σ H fun x H1 => tl σ H1 fun l H2 => th σ H2 fun u H3 => r x l u H3 Q) : L2.tSl r te tl th σ H Q := q
theorem x_nop21 {σ : St} {H : Hp} {Q : Option Int → Hp → Prop} (q : Q none H) : tNoPart σ H Q := q
theorem x_part21 {i : Int} {σ : St} {H : Hp} {Q : Option Int → Hp → Prop} (q : Q (some i) H) : tPart (tC (.int i)) σ H Q := ⟨i, rfl, q⟩
theorem k_cutTail {K : PySem.W.Frag} {H : Hp} {L : List U} {Q : VK} {a : Addr} {v : V} {xs : List V} (hh : Has H L) (hp : H a = some (.lst (v :: xs))) (q : ∀ p H', Has H' ([(p, .lst xs)] :: L) → Q (.ref p) H') : rSlL K (.ref a) (some 1) none H Q := by
  refine ⟨a, _, rfl, SqL.of hp, fun p hp2 => ?_⟩
  have e : cutV (v :: xs) (some 1) none = xs := by
    unfold cutV
    simp [HT.sIx]
    try omega
  rw [e]
  exact q p _ (hh.nw hp2)
theorem use_keptR {C p : Addr} {r : Rnd} {L R : List U} {H : Hp} {Q : VK} {E : XK} (hh : Has H L) (hs : Sub (rndU C p r :: R) L) (ok : r.sto.ok) (hv : r.sto.vals.length < 64) (q : ∀ d H', Has H' ([(d, .lst (r.sto.kept.map V.int))] :: rndU C p r :: R) → Q (.ref d) H') : sp_kept C [.ref p] H Q E :=
  ⟨p, _, r.sto, _, rfl, rnd_two.mp (hh.sub hs), rdX_ok, ok, hv, fun d H' h => q d H' ((rnd_two.mpr (h.sub (Sub.p1 (Sub.p1 Sub.rf)))).sub (Sub.p1 Sub.rf))⟩
theorem use_keptM {C p : Addr} {r : Mrk} {L R : List U} {H : Hp} {Q : VK} {E : XK} (hh : Has H L) (hs : Sub (mrkU C p r :: R) L) (ok : r.sto.ok) (hv : r.sto.vals.length < 64) (q : ∀ d H', Has H' ([(d, .lst (r.sto.kept.map V.int))] :: mrkU C p r :: R) → Q (.ref d) H') : sp_kept C [.ref p] H Q E :=
  ⟨p, _, r.sto, _, rfl, mrk_two.mp (hh.sub hs), mkX_ok, ok, hv, fun d H' h => q d H' ((mrk_two.mpr (h.sub (Sub.p1 (Sub.p1 Sub.rf)))).sub (Sub.p1 Sub.rf))⟩
theorem use_keptC {C p : Addr} {r : Cnt} {L R : List U} {H : Hp} {Q : VK} {E : XK} (hh : Has H L) (hs : Sub (cntU C p r :: R) L) (ok : r.sto.ok) (hv : r.sto.vals.length < 64) (q : ∀ d H', Has H' ([(d, .lst (r.sto.kept.map V.int))] :: cntU C p r :: R) → Q (.ref d) H') : sp_kept C [.ref p] H Q E :=
  ⟨p, _, r.sto, _, rfl, cnt_two.mp (hh.sub hs), ctX_ok, ok, hv, fun d H' h => q d H' ((cnt_two.mpr (h.sub (Sub.p1 (Sub.p1 Sub.rf)))).sub (Sub.p1 Sub.rf))⟩
section
variable {K : PySem.W.Frag} {CR CM CC CV a t p1 p2 p3 p4 tl wr : Addr} {n cell hand many : Int} {o12 o13 o14 : Option V} {nx bk ct : St → Hp → Prop} {rt : VK} {H : Hp} {rest : TS}
/-- told and what is kept by rounds -/
theorem k21_b {k : Nat} {v : V} {r1 : Rnd} {R : List U} (hk : k ≤ 20) (n0 : 0 ≤ n) (n4 : n ≤ 4) (m0 : 0 ≤ many) (m1 : many ≤ 13) (wf : r1.wf) (hv : (r1.sto.vals.length : Int) = n + many) (hkp : r1.sto.kept = rgI (n + many))
    (hh : Has H ([(tl, .lst (v :: List.replicate k .non))] :: rndU CR p1 r1 :: R)) (q : ∀ H', Has H' (rndU CR p1 r1 :: R) → rest ⟨nx, rt, bk, ct⟩ (s21 a t n cell hand p1 p2 p3 p4 many tl wr o12 o13 o14) H') :
    tSeq (tIfS (tOr (tTest (tOp (rNeD K) (tLc (iList K (tSl (rSlL K) (tVar 10) (tPart (tC (.int 1))) (tNoPart))) (gName 15) (tTest (tOp rNotNo (tVar 15) (tC .non))) (tVar 15) [15]) (tLst (tNil)))) (tTest (tOp (rNeD K) (tMeth CR "kept" (sp_kept CR) [] E0 (tVar 5) tNil) (tLstRg (tRg1 (tOp rAddI (tVar 2) (tVar 9))))))) (tRet (tC (.bl false))) (tNext)) rest ⟨nx, rt, bk, ct⟩ (s21 a t n cell hand p1 p2 p3 p4 many tl wr o12 o13 o14) H := by
  have hp := (rnd_two.mp (hh.sub (show Sub (rndU CR p1 r1 :: _) _ by walk_at "sub"))).g0
  walk_at "go"
  refine x_sl21 ?_
  walk_at "go"
  refine x_part21 (x_nop21 (k_cutTail hh hh.g0 fun d1 H1 h1 => ?_))
  refine k_lcF (List.replicate k V.non) (fun z => z) (fun z => z) (fun _ => false) h1 (fun H' h' => by rw [List.map_id']; exact h'.g0) (by rw [List.length_replicate]; omega) (fun z hz D M H' Q' h' q' => ?_) (fun z hz hc => absurd hc (by decide)) fun D H2 h2 => ?_
  · rw [List.eq_of_mem_replicate hz]
    walk_at "go"
    exact q' H' h'
  rw [List.filter_eq_nil_iff.mpr (fun _ _ h => by cases h)] at h2
  have h3 : Has H2 ([(D, .lst (([] : List Int).map V.int))] :: rndU CR p1 r1 :: R) := h2.sub (show Sub ([(D, .lst [])] :: rndU CR p1 r1 :: R) _ by walk_at "sub")
  clear h2 h1 hh
  walk_at "go"
  rename_i d3 H3 h4
  refine ifE (fun e => absurd rfl e) (fun _ => ?_)
  walk_at "go"
  refine use_keptR h4 (show Sub (rndU CR p1 r1 :: R) _ by walk_at "sub") wf.ok (by omega) fun d4 H4 h5 => ?_
  clear h4 h3
  rw [hkp] at h5
  walk_at "go"
  rename_i d6 H6 h6
  refine ifE (fun e => absurd rfl e) (fun _ => ?_)
  walk_at "go"
  exact q H6 (h6.sub (show Sub (rndU CR p1 r1 :: R) _ by walk_at "sub"))
/-- how many are kept by marks and by counts -/
theorem k21_c {r2 : Mrk} {r3 : Cnt} {R : List U} (n0 : 0 ≤ n) (n4 : n ≤ 4) (w2 : r2.wf) (w3 : r3.wf) (v2 : r2.sto.vals.length < 64) (v3 : r3.sto.vals.length < 64) (l2 : (r2.sto.kept.length : Int) = n + 1) (l3 : (r3.sto.kept.length : Int) = n + 1) (c2 : cell ∈ r2.sto.kept)
    (hh : Has H (mrkU CM p2 r2 :: cntU CC p3 r3 :: R)) (q : ∀ H', Has H' (mrkU CM p2 r2 :: cntU CC p3 r3 :: R) → rest ⟨nx, rt, bk, ct⟩ (s21 a t n cell hand p1 p2 p3 p4 many tl wr o12 o13 o14) H') :
    tSeq (tIfS (tOr (tTest (tOp (rNeD K) (tLc (iList K (tLst (tCons (tVar 6) (tCons (tVar 7) (tNil))))) (gName 14) tYes (tCB (rLenQ K) (tCons (tOrE (tMeth CR "kept" (sp_kept CR) [] E0 (tVar 14) tNil) (tOrE (tMeth CM "kept" (sp_kept CM) [] E0 (tVar 14) tNil) (tMeth CC "kept" (sp_kept CC) [] E0 (tVar 14) tNil))) (tNil))) [14]) (tOp rRep (tLst (tCons (tOp rAddI (tVar 2) (tC (.int 1))) (tNil))) (tC (.int 2))))) (tTest (tOp (rIn K true) (tVar 3) (tOp rCat (tMeth CM "kept" (sp_kept CM) [] E0 (tVar 6) tNil) (tMeth CC "kept" (sp_kept CC) [] E0 (tVar 7) tNil))))) (tRet (tC (.bl false))) (tNext)) rest ⟨nx, rt, bk, ct⟩ (s21 a t n cell hand p1 p2 p3 p4 many tl wr o12 o13 o14) H := by
  walk_at "go"
  rename_i d1 H1 h1
  clear hh
  refine k_lcM [true, false] (fun b => if b = true then V.ref p2 else V.ref p3) (fun _ => V.int (n + 1)) h1 (fun H' h' => h'.g0) (by decide) (fun b hb D M H' Q' h' q' => ?_) fun D H2 h2 => ?_
  · cases b with
    | true =>
      simp only [if_true]
      walk_at "go"
      refine x_or2 (x_or1 ?_)
      walk_at "go"
      refine use_keptM h' (show Sub (mrkU CM p2 r2 :: _) _ by walk_at "sub") w2.ok v2 fun d4 H4 h4 => ?_
      walk_at "go"
      rw [List.length_map, l2]
      exact q' H4 (h4.sub (show Sub ([(D, .lst M)] :: [(d1, .lst [.ref p2, .ref p3])] :: mrkU CM p2 r2 :: cntU CC p3 r3 :: R) _ by walk_at "sub"))
    | false =>
      simp only [Bool.false_eq_true, if_false]
      walk_at "go"
      refine x_or2 (x_or2 ?_)
      walk_at "go"
      refine use_keptC h' (show Sub (cntU CC p3 r3 :: _) _ by walk_at "sub") w3.ok v3 fun d4 H4 h4 => ?_
      walk_at "go"
      rw [List.length_map, l3]
      exact q' H4 (h4.sub (show Sub ([(D, .lst M)] :: [(d1, .lst [.ref p2, .ref p3])] :: mrkU CM p2 r2 :: cntU CC p3 r3 :: R) _ by walk_at "sub"))
  have h3 : Has H2 ([(D, .lst (([n + 1, n + 1] : List Int).map V.int))] :: mrkU CM p2 r2 :: cntU CC p3 r3 :: R) := h2.sub (show Sub ([(D, .lst [V.int (n + 1), V.int (n + 1)])] :: mrkU CM p2 r2 :: cntU CC p3 r3 :: R) _ by walk_at "sub")
  clear h2 h1
  walk_at "go"
  rename_i d4 H4 h4 d5 H5 h5
  have h6 : Has H5 ([(d5, .lst (([n + 1, n + 1] : List Int).map V.int))] :: [(D, .lst (([n + 1, n + 1] : List Int).map V.int))] :: mrkU CM p2 r2 :: cntU CC p3 r3 :: R) := h5.sub (show Sub ([(d5, .lst [V.int (n + 1), V.int (n + 1)])] :: [(D, .lst (([n + 1, n + 1] : List Int).map V.int))] :: mrkU CM p2 r2 :: cntU CC p3 r3 :: R) _ by walk_at "sub")
  clear h5 h4 h3
  walk_at "go"
  refine ifE (fun e => absurd rfl e) (fun _ => ?_)
  walk_at "go"
  refine use_keptM h6 (show Sub (mrkU CM p2 r2 :: _) _ by walk_at "sub") w2.ok v2 fun d7 H7 h7 => ?_
  clear h6
  walk_at "go"
  refine use_keptC h7 (show Sub (cntU CC p3 r3 :: _) _ by walk_at "sub") w3.ok v3 fun d8 H8 h8 => ?_
  clear h7
  refine k_cat h8 (by walk_at "hp") (by walk_at "hp") (by rw [sizeLine_eq, List.length_map, List.length_map]; omega) fun d9 H9 h9 => ?_
  rw [← List.map_append] at h9
  walk_at "go"
  refine ifE (fun e => absurd (List.mem_append.mpr (.inl c2)) e) (fun _ => ?_)
  walk_at "go"
  exact q H9 (h9.sub (show Sub (mrkU CM p2 r2 :: cntU CC p3 r3 :: R) _ by walk_at "sub"))
/-- how many versions are kept -/
theorem k21_d {s : Ver} {wl : List Bool} {R : List U} (n0 : 0 ≤ n) (n4 : n ≤ 4) (w : s.wf) (e1 : (s.rows.length : Int) = n) (e2 : (wl.length : Int) = n) (ht : ∀ (i : Nat) r, s.rows[i]? = some r → r.2.length = if wl.getD i false = true then 2 else 1)
    (hh : Has H (verU CV p4 s :: [(wr, .lst (wl.map V.bl))] :: R)) (q : ∀ H', Has H' (verU CV p4 s :: [(wr, .lst (wl.map V.bl))] :: R) → rest ⟨nx, rt, bk, ct⟩ (s21 a t n cell hand p1 p2 p3 p4 many tl wr o12 o13 o14) H') :
    tSeq (tIfS (tTest (tOp (rNeD K) (tLc (iRng1 (tCons (tVar 2) (tNil))) (gName 16) tYes (tCB (rLenQ K) (tCons (tMeth CV "kept" (sp_vkept CV) [] E0 (tVar 8) (tCons (tVar 16) (tNil))) (tNil))) [16]) (tLc (iRng1 (tCons (tVar 2) (tNil))) (gName 16) tYes (tIf (tB (tOp (rIxL K) (tVar 11) (tVar 16))) (tC (.int 2)) (tC (.int 1))) [16]))) (tRet (tC (.bl false))) (tNext)) rest ⟨nx, rt, bk, ct⟩ (s21 a t n cell hand p1 p2 p3 p4 many tl wr o12 o13 o14) H := by
  have key : ∀ z : Int, 0 ≤ z → z < n → ∃ r, s.rows[z.toNat]? = some r ∧ ((r.2.length : Nat) : Int) = if wl.getD z.toNat false = true then 2 else 1 := fun z z0 z1 => by
    have hz : z.toNat < s.rows.length := by omega
    refine ⟨s.rows[z.toNat], List.getElem?_eq_getElem hz, ?_⟩
    have := ht z.toNat _ (List.getElem?_eq_getElem hz)
    rw [this]
    split <;> rfl
  walk_at "go"
  refine k_lcRM (fun z => V.int (if wl.getD z.toNat false = true then 2 else 1)) hh ⟨n0, by omega⟩ (fun z z0 z1 D M H' Q' h' q' => ?_) fun D H2 h2 => ?_
  · obtain ⟨r, hr, hl⟩ := key z z0 z1
    walk_at "go"
    refine ⟨p4, s, z, r, _, rfl, h'.sub (show Sub (verU CV p4 s :: _) _ by walk_at "sub"), w, z0, hr, fun d H4 h4 => ?_⟩
    walk_at "go"
    rw [List.length_map, List.length_map, hl]
    exact q' H4 (h4.sub (show Sub ([(D, .lst M)] :: verU CV p4 s :: [(wr, .lst (wl.map V.bl))] :: R) _ by walk_at "sub"))
  clear hh
  walk_at "go"
  refine k_lcRM (fun z => V.int (if wl.getD z.toNat false = true then 2 else 1)) h2 ⟨n0, by omega⟩ (fun z z0 z1 D M H' Q' h' q' => ?_) fun D3 H3 h3 => ?_
  · have hz : z.toNat < wl.length := by omega
    have ex : atI (wl.map V.bl) z = some (.bl (wl.getD z.toNat false)) := at_n z0 (by rw [List.getElem?_map, List.getD_eq_getElem?_getD, List.getElem?_eq_getElem hz]; rfl)
    walk_at "go"
    cases hb : wl.getD z.toNat false with
    | true =>
      rw [hb] at q'
      refine ifT ?_
      walk_at "go"
      exact q' H' h'
    | false =>
      rw [hb] at q'
      refine ifF ?_
      walk_at "go"
      exact q' H' h'
  have em : (rgI n).map (fun z => V.int (if wl.getD z.toNat false = true then 2 else 1)) = ((rgI n).map fun z => (if wl.getD z.toNat false = true then (2 : Int) else 1)).map V.int := by rw [List.map_map]; rfl
  rw [em] at h3
  clear h2 key
  walk_at "go"
  refine ifE (fun e => absurd rfl e) (fun _ => ?_)
  walk_at "go"
  exact q H3 (h3.sub (show Sub (verU CV p4 s :: [(wr, .lst (wl.map V.bl))] :: R) _ by walk_at "sub"))
end
end La
namespace La
open PySem L2 Sy
local macro_rules | `(tactic| walk_at "fl") => `(tactic| first | assumption | exact stF_hands | exact stF_worth | exact stF_cells | exact stF_made | exact StX.f1 (by assumption) | exact StX.f2 (by assumption) | exact StX.f3 (by assumption) | exact StX.f4 (by assumption) | exact StX.f5 (by assumption) | exact StX.f6 (by assumption) | exact StX.f7 (by assumption) | exact StX.f8 (by assumption) | exact StX.f9 (by assumption))
local macro_rules | `(tactic| walk_at "fsl") => `(tactic| first | assumption | exact StX.fl (by assumption))
local macro_rules | `(tactic| walk_at "put") => `(tactic| first | exact stF_put_made | exact stF_put_cells | exact stF_put_worth | exact stF_put_hands)
local macro_rules | `(tactic| walk_at "fl") => `(tactic| first | assumption | exact stF_hands | exact stF_worth | exact stF_cells | exact stF_made | exact rd_era | exact rd_inside | exact rd_saw | exact rd_waits | exact rd_m_enter | exact rd_m_look_in | exact rd_m_leave | exact rd_m_look | exact rd_m_read | exact rd_m_go_on | exact rd_m_round_now | exact rd_m_hands_in | exact StX.f1 rdX_ok | exact StX.f2 rdX_ok | exact StX.f3 rdX_ok | exact StX.f4 rdX_ok | exact StX.f5 rdX_ok | exact StX.f6 rdX_ok | exact StX.f7 rdX_ok | exact StX.f8 rdX_ok | exact StX.f9 rdX_ok)
local macro_rules | `(tactic| walk_at "put") => `(tactic| first | exact rd_put_era | exact rd_put_inside | exact rd_put_saw | exact rd_put_waits)
local macro_rules | `(tactic| walk_at "fsl") => `(tactic| first | assumption | exact StX.fl rdX_ok)
local macro_rules | `(tactic| walk_at "fl") => `(tactic| first | assumption | exact stF_hands | exact stF_worth | exact stF_cells | exact stF_made | exact mk_marks | exact mk_waits | exact mk_m_look_mark | exact mk_m_state_of | exact mk_m_fetch | exact mk_m_set_mark | exact mk_m_sure | exact mk_m_read | exact mk_m_clear_mark | exact mk_m_marked | exact mk_m_sweep | exact StX.f1 mkX_ok | exact StX.f2 mkX_ok | exact StX.f3 mkX_ok | exact StX.f4 mkX_ok | exact StX.f5 mkX_ok | exact StX.f6 mkX_ok | exact StX.f7 mkX_ok | exact StX.f8 mkX_ok | exact StX.f9 mkX_ok)
local macro_rules | `(tactic| walk_at "put") => `(tactic| first | exact mk_put_marks | exact mk_put_waits | exact stF_put_made | exact stF_put_cells | exact stF_put_worth | exact stF_put_hands)
local macro_rules | `(tactic| walk_at "fsl") => `(tactic| first | assumption | exact StX.fl mkX_ok)
local macro_rules | `(tactic| walk_at "fl") => `(tactic| first | assumption | exact stF_hands | exact stF_worth | exact stF_cells | exact stF_made | exact ct_held | exact ct_m_count_of | exact ct_m_hold | exact ct_m_look_held | exact ct_m_read | exact ct_m_drop | exact ct_m_loose | exact ct_m_holds | exact StX.f1 ctX_ok | exact StX.f2 ctX_ok | exact StX.f3 ctX_ok | exact StX.f4 ctX_ok | exact StX.f5 ctX_ok | exact StX.f6 ctX_ok | exact StX.f7 ctX_ok | exact StX.f8 ctX_ok | exact StX.f9 ctX_ok)
local macro_rules | `(tactic| walk_at "put") => `(tactic| first | exact ct_put_held | exact stF_put_made | exact stF_put_cells | exact stF_put_worth | exact stF_put_hands)
local macro_rules | `(tactic| walk_at "fsl") => `(tactic| first | assumption | exact StX.fl ctX_ok)
local macro_rules | `(tactic| walk_at "fl") => `(tactic| first | assumption | exact ve_hands | exact ve_rows | exact ve_version | exact ve_begun | exact ve_asked | kernel_rfl)
local macro_rules | `(tactic| walk_at "put") => `(tactic| first | exact ve_put_hands | exact ve_put_rows | exact ve_put_version | exact ve_put_begun | exact ve_put_asked | exact ve_p1 | exact ve_p2 | exact ve_p3 | exact ve_p4 | exact ve_p5)
local macro_rules | `(tactic| walk_at "fsl") => `(tactic| first | assumption | exact ve_len | (show 0 < 1000; decide) | (show 1 < 1000; decide) | (show 2 < 1000; decide) | (show 3 < 1000; decide) | (show 4 < 1000; decide))
/-! ### k21: the hand leaves; the law -/
theorem cnt_true (wl : List Bool) : (wl.map V.bl).countP (fun z => eqV z (.bl true)) = wl.countP id := by
  rw [List.countP_map]
  refine List.countP_congr fun b _ => ?_
  cases b <;> decide
theorem sort_one {ys : List Int} {z : Int} {l : List Int} (h : ys.Perm l) (e : l = [z]) : ys = [z] := by
  rw [e] at h
  exact List.perm_singleton.mp h
section
variable {K : PySem.W.Frag} {CR CM CC CV a t p1 p2 p3 p4 tl wr : Addr} {n cell hand many : Int} {o12 o13 o14 : Option V} {nx bk ct : St → Hp → Prop} {rt : VK} {H : Hp} {rest : TS}
/-- the hand leaves everywhere -/
theorem k21_e {r1 : Rnd} {r2 : Mrk} {r3 : Cnt} {s : Ver} {wl : List Bool} {cs : List Int} {nn : Int} {R : List U} (f0 : 0 ≤ hand) (f1 : hand < 2) (I1 : R21 r1 cs nn hand 1) (I2 : M21 r2 cs nn hand cell) (I3 : K21 r3 cs nn hand cell) (I4 : V21 s wl hand) (hw : ∀ z ∈ r2.waits, z = cell) (hc : cell ∉ cs)
    (ht : ∀ (i : Nat) r, s.rows[i]? = some r → r.2.length = if wl.getD i false = true then 2 else 1)
    (hh : Has H (rndU CR p1 r1 :: mrkU CM p2 r2 :: cntU CC p3 r3 :: verU CV p4 s :: [(wr, .lst (wl.map V.bl))] :: R))
    (q : ∀ (u1 : Rnd) (u2 : Mrk) (u3 : Cnt) H', u1.wf → u1.free → u1.next.free → (∀ z, z ∈ u1.next.next.sto.kept ↔ z ∈ cs) → (u1.sto.vals.length : Int) = nn → u2.wf → (u2.sto.vals.length : Int) = nn → (∀ z, z ∈ u2.sto.kept ↔ z ∈ cs) → u3.sto.ok → (u3.sto.vals.length : Int) = nn → (∀ z, z ∈ u3.sto.kept ↔ z ∈ cs) →
      Has H' (rndU CR p1 u1 :: mrkU CM p2 u2 :: cntU CC p3 u3 :: R) → rest ⟨nx, rt, bk, ct⟩ (s21 a t n cell hand p1 p2 p3 p4 many tl wr o12 o13 o14) H') :
    tSeq (tDrop (tMeth CR "leave" (sp_leave CR) [] E0 (tVar 5) (tCons (tVar 4) (tNil))))
    (tSeq (tDrop (tMeth CM "clear_mark" (sp_clear_mark CM) [] E0 (tVar 6) (tCons (tVar 4) (tCons (tC (.int 1)) (tNil)))))
    (tSeq (tDrop (tMeth CV "finish" (sp_vfinish CV) [] E0 (tVar 8) (tCons (tVar 4) (tNil))))
    (tSeq (tIfS (tOr (tTest (tOp rNotB (tMeth CC "drop" (sp_drop CC) [] E0 (tVar 7) (tCons (tVar 4) (tCons (tVar 3) (tNil)))) (tC (.bl true)))) (tOr (tTest (tOp (rNeD K) (tMeth CM "sweep" (sp_sweep CM) [] E0 (tVar 6) tNil) (tLst (tCons (tVar 3) (tNil))))) (tTest (tOp rNe (tMeth CV "trim" (sp_vtrim CV) [] E0 (tVar 8) tNil) (tBM K "list" (rCntV K) (tVar 11) (tCons (tC (.bl true)) (tNil))))))) (tRet (tC (.bl false))) (tNext)) rest))) ⟨nx, rt, bk, ct⟩ (s21 a t n cell hand p1 p2 p3 p4 many tl wr o12 o13 o14) H := by
  obtain ⟨F1, F2, F3⟩ := I1.fin
  have W1 := I1.wf.leave hand
  have V1 := I1.vn
  obtain ⟨mv0, hm1, hm2, hm3⟩ := I2.mr
  have W2 := I2.wf.unmark hand 1
  obtain ⟨G2, T4⟩ := I4.fin ht
  walk_at "go"
  refine ⟨p1, r1, hand, _, rfl, hh, I1.wf, f0, by rw [I1.hh]; exact f1, by rw [I1.ins]; show (fd [(hand, (0 : Int))] hand).isSome = true; rw [fd_isSome]; exact List.mem_cons.mpr (.inl rfl), fun H1 h1 => ?_⟩
  replace h1 : Has H1 (rndU CR p1 (r1.leave hand) :: _) := h1
  have V1' : ((r1.leave hand).sto.vals.length : Int) = nn := V1
  clear hh
  generalize r1.leave hand = u1 at *
  walk_at "go"
  refine ⟨p2, r2, hand, 1, mv0, _, rfl, h1.sub (show Sub (mrkU CM p2 r2 :: _) _ by walk_at "sub"), I2.wf, f0, by rw [I2.hh]; exact f1, by decide, by decide, ?_, by rw [hm2]; decide +kernel, fun H2 h2 => ?_⟩
  · rw [hm1]
    unfold fd
    simp
  clear h1
  walk_at "go"
  refine ⟨p4, s, hand, _, rfl, h2.sub (show Sub (verU CV p4 s :: _) _ by walk_at "sub"), I4.wf, f0, by rw [I4.hh]; exact f1, by rw [I4.bg]; show (fd [(hand, (0 : Int))] hand).isSome = true; rw [fd_isSome]; exact List.mem_cons.mpr (.inl rfl), fun H3 h3 => ?_⟩
  clear h2
  walk_at "go"
  obtain ⟨D1, D2⟩ := I3.fin hc
  have W3 := I3.wf
  have hno : ¬ ((∃ q ∈ dn r3.held hand cell 1, q.1.2 = cell) ∨ cell ∈ r3.sto.cells) := by
    rw [D1, I3.cl]
    rintro (⟨q, hq, _⟩ | h)
    · cases hq
    · exact hc h
  refine ⟨p3, r3, hand, cell, 1, _, rfl, h3.sub (show Sub (cntU CC p3 r3 :: _) _ by walk_at "sub"), W3, f0, by rw [I3.hh]; exact f1, by rw [I3.hd]; unfold fd; simp, fun h => absurd h hno, fun _ H4 h4 => ?_⟩
  have ok3 : (r3.sto.less [cell]).ok := W3.ok.less fun k hk => by rw [List.mem_singleton.mp hk, I3.cl]; exact hc
  have V3 : ((r3.sto.less [cell]).vals.length : Int) = nn := I3.vn
  clear h3
  generalize hu3 : ({ r3 with held := dn r3.held hand cell 1, sto := r3.sto.less [cell] } : Cnt) = u3 at h4
  have ok3' : u3.sto.ok := by rw [← hu3]; exact ok3
  have V3' : (u3.sto.vals.length : Int) = nn := by rw [← hu3]; exact V3
  have K3' : ∀ z, z ∈ u3.sto.kept ↔ z ∈ cs := by rw [← hu3]; exact D2
  clear hu3
  walk_at "go"
  refine ifE (fun e => absurd rfl e) (fun _ => ?_)
  walk_at "go"
  refine ⟨p2, r2.unmark hand 1, _, rfl, h4.sub (show Sub (mrkU CM p2 (r2.unmark hand 1) :: _) _ by walk_at "sub"), W2, fun ys d5 wa H5 y1 y2 h5 => ?_⟩
  obtain ⟨g1, g2⟩ := I2.fin hw hc wa
  have W5 := W2.swept.at wa
  have V5 : (((r2.unmark hand 1).swept.at wa).sto.vals.length : Int) = nn := I2.vn
  have ey := sort_one y1 g1
  subst ey
  clear h4 y1 y2 g1
  generalize (r2.unmark hand 1).swept.at wa = u2 at *
  walk_at "go"
  rename_i d6 H6 h6
  have h7 : Has H6 ([(d6, .lst (([cell] : List Int).map V.int))] :: [(d5, .lst (([cell] : List Int).map V.int))] :: mrkU CM p2 u2 :: cntU CC p3 u3 :: verU CV p4 (s.finish hand) :: rndU CR p1 u1 :: [(wr, .lst (wl.map V.bl))] :: R) := h6.sub (show Sub ([(d6, .lst [V.int cell])] :: [(d5, .lst (([cell] : List Int).map V.int))] :: mrkU CM p2 u2 :: cntU CC p3 u3 :: verU CV p4 (s.finish hand) :: rndU CR p1 u1 :: [(wr, .lst (wl.map V.bl))] :: R) _ by walk_at "sub")
  clear h5 h6
  walk_at "go"
  refine ifE (fun e => absurd rfl e) (fun _ => ?_)
  walk_at "go"
  refine ⟨p4, s.finish hand, _, rfl, h7.sub (show Sub (verU CV p4 (s.finish hand) :: _) _ by walk_at "sub"), G2, fun zs rows H8 z1 z2 z3 h8 => ?_⟩
  have el := T4 zs rows z2 z3
  rw [show (s.finish hand).rows = s.rows from rfl, el]
  clear h7
  walk_at "go"
  refine k_cntV (by walk_at "hp") rfl (by rw [List.all_map]; exact List.all_eq_true.mpr fun b _ => rfl) ?_
  rw [cnt_true]
  walk_at "go"
  refine ifE (fun e => absurd rfl e) (fun _ => ?_)
  walk_at "go"
  exact q u1 u2 u3 H8 W1 F1 F2 F3 V1' W5 V5 g2 ok3' V3' K3' (h8.sub (show Sub (rndU CR p1 u1 :: mrkU CM p2 u2 :: cntU CC p3 u3 :: R) _ by walk_at "sub"))
end
end La
namespace La
open PySem L2 Sy
local macro_rules | `(tactic| walk_at "fl") => `(tactic| first | assumption | exact stF_hands | exact stF_worth | exact stF_cells | exact stF_made | exact StX.f1 (by assumption) | exact StX.f2 (by assumption) | exact StX.f3 (by assumption) | exact StX.f4 (by assumption) | exact StX.f5 (by assumption) | exact StX.f6 (by assumption) | exact StX.f7 (by assumption) | exact StX.f8 (by assumption) | exact StX.f9 (by assumption))
local macro_rules | `(tactic| walk_at "fsl") => `(tactic| first | assumption | exact StX.fl (by assumption))
local macro_rules | `(tactic| walk_at "put") => `(tactic| first | exact stF_put_made | exact stF_put_cells | exact stF_put_worth | exact stF_put_hands)
local macro_rules | `(tactic| walk_at "fl") => `(tactic| first | assumption | exact stF_hands | exact stF_worth | exact stF_cells | exact stF_made | exact rd_era | exact rd_inside | exact rd_saw | exact rd_waits | exact rd_m_enter | exact rd_m_look_in | exact rd_m_leave | exact rd_m_look | exact rd_m_read | exact rd_m_go_on | exact rd_m_round_now | exact rd_m_hands_in | exact StX.f1 rdX_ok | exact StX.f2 rdX_ok | exact StX.f3 rdX_ok | exact StX.f4 rdX_ok | exact StX.f5 rdX_ok | exact StX.f6 rdX_ok | exact StX.f7 rdX_ok | exact StX.f8 rdX_ok | exact StX.f9 rdX_ok)
local macro_rules | `(tactic| walk_at "put") => `(tactic| first | exact rd_put_era | exact rd_put_inside | exact rd_put_saw | exact rd_put_waits)
local macro_rules | `(tactic| walk_at "fsl") => `(tactic| first | assumption | exact StX.fl rdX_ok)
local macro_rules | `(tactic| walk_at "fl") => `(tactic| first | assumption | exact stF_hands | exact stF_worth | exact stF_cells | exact stF_made | exact mk_marks | exact mk_waits | exact mk_m_look_mark | exact mk_m_state_of | exact mk_m_fetch | exact mk_m_set_mark | exact mk_m_sure | exact mk_m_read | exact mk_m_clear_mark | exact mk_m_marked | exact mk_m_sweep | exact StX.f1 mkX_ok | exact StX.f2 mkX_ok | exact StX.f3 mkX_ok | exact StX.f4 mkX_ok | exact StX.f5 mkX_ok | exact StX.f6 mkX_ok | exact StX.f7 mkX_ok | exact StX.f8 mkX_ok | exact StX.f9 mkX_ok)
local macro_rules | `(tactic| walk_at "put") => `(tactic| first | exact mk_put_marks | exact mk_put_waits | exact stF_put_made | exact stF_put_cells | exact stF_put_worth | exact stF_put_hands)
local macro_rules | `(tactic| walk_at "fsl") => `(tactic| first | assumption | exact StX.fl mkX_ok)
local macro_rules | `(tactic| walk_at "fl") => `(tactic| first | assumption | exact stF_hands | exact stF_worth | exact stF_cells | exact stF_made | exact ct_held | exact ct_m_count_of | exact ct_m_hold | exact ct_m_look_held | exact ct_m_read | exact ct_m_drop | exact ct_m_loose | exact ct_m_holds | exact StX.f1 ctX_ok | exact StX.f2 ctX_ok | exact StX.f3 ctX_ok | exact StX.f4 ctX_ok | exact StX.f5 ctX_ok | exact StX.f6 ctX_ok | exact StX.f7 ctX_ok | exact StX.f8 ctX_ok | exact StX.f9 ctX_ok)
local macro_rules | `(tactic| walk_at "put") => `(tactic| first | exact ct_put_held | exact stF_put_made | exact stF_put_cells | exact stF_put_worth | exact stF_put_hands)
local macro_rules | `(tactic| walk_at "fsl") => `(tactic| first | assumption | exact StX.fl ctX_ok)
local macro_rules | `(tactic| walk_at "fl") => `(tactic| first | assumption | exact ve_hands | exact ve_rows | exact ve_version | exact ve_begun | exact ve_asked | kernel_rfl)
local macro_rules | `(tactic| walk_at "put") => `(tactic| first | exact ve_put_hands | exact ve_put_rows | exact ve_put_version | exact ve_put_begun | exact ve_put_asked | exact ve_p1 | exact ve_p2 | exact ve_p3 | exact ve_p4 | exact ve_p5)
local macro_rules | `(tactic| walk_at "fsl") => `(tactic| first | assumption | exact ve_len | (show 0 < 1000; decide) | (show 1 < 1000; decide) | (show 2 < 1000; decide) | (show 3 < 1000; decide) | (show 4 < 1000; decide))
/-! ### k21: the law -/
section
variable {K : PySem.W.Frag} {CR CM CC CV a t p1 p2 p3 p4 tl wr : Addr} {n cell hand many : Int} {o12 o13 o14 : Option V} {nx bk ct : St → Hp → Prop} {rt : VK} {H : Hp} {rest : TS}
theorem k21_f {u1 : Rnd} {u2 : Mrk} {u3 : Cnt} {cs : List Int} {nn : Int} (n64 : nn < 60) (nd : cs.Nodup) (hn : (cs.length : Int) = n) (W1 : u1.wf) (F1 : u1.free) (F2 : u1.next.free) (F3 : ∀ z, z ∈ u1.next.next.sto.kept ↔ z ∈ cs) (V1 : (u1.sto.vals.length : Int) = nn) (W2 : u2.wf) (V2 : (u2.sto.vals.length : Int) = nn) (K2 : ∀ z, z ∈ u2.sto.kept ↔ z ∈ cs) (W3 : u3.sto.ok) (V3 : (u3.sto.vals.length : Int) = nn) (K3 : ∀ z, z ∈ u3.sto.kept ↔ z ∈ cs)
    (hh : Has H (rndU CR p1 u1 :: mrkU CM p2 u2 :: cntU CC p3 u3 :: [])) (q : ∀ H', rt (.bl true) H') :
    tSeq (tAsg (tLst (tCons (tMeth CR "go_on" (sp_go_on CR) [] E0 (tVar 5) tNil) (tCons (tMeth CR "go_on" (sp_go_on CR) [] E0 (tVar 5) tNil) (tNil)))) (gName 17))
    (tRet (tAndV (tOp (rNotInN K) (tC .non) (tVar 17)) (tAndV (tOp rEq (tCB (rLenQ K) (tCons (tMeth CR "kept" (sp_kept CR) [] E0 (tVar 5) tNil) (tNil))) (tVar 2)) (tAndV (tOp (rEqD K) (tMeth CR "kept" (sp_kept CR) [] E0 (tVar 5) tNil) (tMeth CM "kept" (sp_kept CM) [] E0 (tVar 6) tNil)) (tOp (rEqD K) (tMeth CM "kept" (sp_kept CM) [] E0 (tVar 6) tNil) (tMeth CC "kept" (sp_kept CC) [] E0 (tVar 7) tNil)))))) ⟨nx, rt, bk, ct⟩ (s21 a t n cell hand p1 p2 p3 p4 many tl wr o12 o13 o14) H := by
  have W1a := W1.next
  have W1b := W1a.next
  have V1b : (u1.next.next.sto.vals.length : Int) = nn := V1
  have e12 : u1.next.next.sto.kept = u2.sto.kept := rise_eq W1b.ok.rise W2.ok.rise fun z => (F3 z).trans (K2 z).symm
  have e23 : u2.sto.kept = u3.sto.kept := rise_eq W2.ok.rise W3.rise fun z => (K2 z).trans (K3 z).symm
  have el : (u2.sto.kept.length : Int) = n := by rw [len_same W2.ok.rise nd K2]; exact hn
  walk_at "go"
  refine ⟨p1, u1, _, rfl, hh, W1, fun nf => absurd F1 nf, fun _ ys d1 H1 y1 y2 h1 => ?_⟩
  clear hh y1 y2
  walk_at "go"
  refine ⟨p1, u1.next, _, rfl, h1.sub (show Sub (rndU CR p1 u1.next :: _) _ by walk_at "sub"), W1a, fun nf => absurd F2 nf, fun _ zs d2 H2 z1 z2 h2 => ?_⟩
  clear h1 z1 z2
  generalize u1.next.next = v1 at *
  walk_at "go"
  rename_i d3 H3 h3
  clear h2
  refine k_notInN2 (by walk_at "hp") (by walk_at "hp") (by walk_at "hp") ?_
  have h4 := h3.sub (show Sub (rndU CR p1 v1 :: mrkU CM p2 u2 :: cntU CC p3 u3 :: []) _ by walk_at "sub")
  clear h3
  walk_at "go"
  refine use_keptR h4 Sub.rf W1b.ok (by omega) fun d5 H5 h5 => ?_
  clear h4
  walk_at "go"
  rw [List.length_map, e12, el]
  rw [decide_eq_true rfl]
  walk_at "go"
  refine use_keptR h5 (show Sub (rndU CR p1 v1 :: _) _ by walk_at "sub") W1b.ok (by omega) fun d6 H6 h6 => ?_
  clear h5
  walk_at "go"
  refine use_keptM h6 (show Sub (mrkU CM p2 u2 :: _) _ by walk_at "sub") W2.ok (by omega) fun d7 H7 h7 => ?_
  clear h6
  rw [e12] at h7
  walk_at "go"
  rw [decide_eq_true rfl]
  walk_at "go"
  refine use_keptM h7 (show Sub (mrkU CM p2 u2 :: _) _ by walk_at "sub") W2.ok (by omega) fun d8 H8 h8 => ?_
  clear h7
  walk_at "go"
  refine use_keptC h8 (show Sub (cntU CC p3 u3 :: _) _ by walk_at "sub") W3 (by omega) fun d9 H9 h9 => ?_
  clear h8
  rw [e23] at h9
  walk_at "go"
  rw [decide_eq_true rfl]
  exact q H9
/-- the last sweep, the last trim -/
theorem k21_a {r2 : Mrk} {s : Ver} {wl : List Bool} {cs : List Int} {nn : Int} {R : List U} (I2 : M21 r2 cs nn hand cell) (I4 : V21 s wl hand) (hh : Has H (mrkU CM p2 r2 :: verU CV p4 s :: R))
    (q : ∀ (u2 : Mrk) (s' : Ver) H', M21 u2 cs nn hand cell → (∀ z ∈ u2.waits, z = cell) → V21 s' wl hand → (∀ (i : Nat) r, s'.rows[i]? = some r → r.2.length = if wl.getD i false = true then 2 else 1) → Has H' (mrkU CM p2 u2 :: verU CV p4 s' :: R) → rest ⟨nx, rt, bk, ct⟩ (s21 a t n cell hand p1 p2 p3 p4 many tl wr o12 o13 o14) H') :
    tSeq (tDrop (tMeth CM "sweep" (sp_sweep CM) [] E0 (tVar 6) tNil)) (tSeq (tDrop (tMeth CV "trim" (sp_vtrim CV) [] E0 (tVar 8) tNil)) rest) ⟨nx, rt, bk, ct⟩ (s21 a t n cell hand p1 p2 p3 p4 many tl wr o12 o13 o14) H := by
  walk_at "go"
  refine ⟨p2, r2, _, rfl, hh, I2.wf, fun ys d wa H1 y1 y2 h1 => ?_⟩
  obtain ⟨M1, hw⟩ := I2.sweep wa
  clear hh
  generalize r2.swept.at wa = u2 at *
  walk_at "go"
  refine ⟨p4, s, _, rfl, h1.sub (show Sub (verU CV p4 s :: _) _ by walk_at "sub"), I4.trok, fun zs rows H2 z1 z2 z3 h2 => ?_⟩
  obtain ⟨V1, ht⟩ := I4.trim z2 z3
  walk_at "go"
  exact q u2 { s with rows := rows } H2 M1 hw V1 ht (h2.sub (show Sub (mrkU CM p2 u2 :: verU CV p4 { s with rows := rows } :: R) _ by walk_at "sub"))
end
def sp_law (K : PySem.W.Frag) : Sp := fun vs H Q _ => ∃ (a : Addr) (ns : List Int), vs = [.ref a] ∧ SqL K H a (ns.map V.int) ∧ ns.length ≤ 63 ∧ ∀ H', Q (.bl true) H'
theorem pure_law {K : PySem.W.Frag} {CR CM CC CV : Addr} {vs : List V} {H : Hp} {Q : VK} {E : XK} (h : sp_law K vs H Q E) :
    TL K CR CM CC CV t_law ⟨fun _ H' => Q .non H', Q, fun _ _ => False, fun _ _ => False⟩ (start ["script", "town", "size", "cell", "hand", "one", "two", "three", "four", "many", "told", "written", "turn", "place", "store", "row", "k", "gone"] vs) H := by
  obtain ⟨a, ns, rfl, hs, hl, q⟩ := h
  unfold TL t_law
  walk_at "go"
  refine ⟨a, ns, rfl, hs, hl, fun t ts H1 tok h1 => ?_⟩
  walk_at "go"
  refine use_draw h1 Sub.rf tok (by decide) (by decide) fun c ts2 H2 c0 c1 tok2 h2 => ?_
  clear h1
  walk_at "go"
  generalize hn : 1 + c = n at *
  have n1 : 1 ≤ n := by omega
  have n4 : n ≤ 4 := by omega
  refine use_draw h2 Sub.rf tok2 (by omega) (by omega) fun cell ts3 H3 e0 e1 tok3 h3 => ?_
  clear h2
  walk_at "go"
  refine use_draw h3 Sub.rf tok3 (by decide) (by decide) fun hand ts4 H4 f0 f1 tok4 h4 => ?_
  clear h3
  walk_at "go"
  refine ⟨n, hand, cell, _, rfl, n1, by omega, f0, f1, e0, e1, h4, fun tt p1 p2 p3 p4 r1 r2 r3 s H5 R0 M0 K0 V0 sv h5 => ?_⟩
  clear h4
  walk_at "go"
  refine use_draw (h5.sub (show Sub (townU t ts4 :: _) _ by walk_at "sub")) Sub.rf tok4 (by decide) (by decide) fun m ts6 H6 m0 m1 tok6 h6 => ?_
  clear h5
  walk_at "go"
  rename_i tl Ha ha d7 Hb hb wr H7 h7
  clear ha hb
  generalize hmm : 6 + m = many at *
  have M6 : 6 ≤ many := by omega
  have M13 : many ≤ 13 := by omega
  have z0 : n + ((0 : Nat) : Int) = n := Int.add_zero n
  have rl : (List.replicate n.toNat (V.bl false)) = (List.replicate n.toNat false).map V.bl := List.map_replicate.symm
  rw [rl] at h7
  refine k_forR (P21 CR CM CC CV a t p1 p2 p3 p4 tl wr n cell hand many) ⟨none, none, none, ts6, r1, r2, r3, s, rgI n, List.replicate n.toNat false, [], rfl, tok6, ⟨by rw [z0, if_pos rfl]; exact R0, by rw [z0]; exact M0, by rw [z0]; exact K0, V0, sv, by rw [rgI_len]; omega, by rw [List.length_replicate]; omega, fun _ => rfl, fun h => absurd h (Nat.lt_irrefl 0)⟩, .inl ⟨rfl, rfl⟩, h7.sub (show Sub (townU t ts6 :: rndU CR p1 r1 :: mrkU CM p2 r2 :: cntU CC p3 r3 :: verU CV p4 s :: [(tl, .lst [])] :: [(wr, .lst ((List.replicate n.toNat false).map V.bl))] :: []) _ by walk_at "sub")⟩ (by omega) (fun i σ H hi P => k21_turn n1 n4 e0 e1 (by omega) P) ?_
  clear h7 R0 M0 K0 V0 sv rl z0 hs
  rintro σ H8 ⟨o12, o13, o14, ts, r1, r2, r3, s, cs, wl, L, rfl, tok, J, hL, hh⟩
  obtain ⟨k, rfl⟩ := Int.eq_ofNat_of_zero_le (show 0 ≤ many by omega)
  rw [show ((k : Int)).toNat = k from Int.toNat_natCast k] at J hL
  have hc := J.c1 (by omega)
  have I1 := J.r
  rw [if_neg (show ¬ k = 0 by omega)] at I1
  obtain ⟨h0, _⟩ | ⟨k', v, ek, rfl⟩ := hL
  · omega
  have nd : cs.Nodup := by have := I1.wf.ok.cnd; rwa [I1.cl] at this
  refine k21_a J.m J.v (hh.sub (show Sub (mrkU CM p2 r2 :: verU CV p4 s :: _) _ by walk_at "sub")) fun u2 s' H9 M9 hw V9 ht h9 => ?_
  clear hh
  refine k21_b (k := k') (v := v) (by omega) (by omega) n4 (by omega) (by omega) I1.wf I1.vn I1.kp (h9.sub (show Sub ([(tl, _)] :: rndU CR p1 r1 :: _) _ by walk_at "sub")) fun H10 h10 => ?_
  clear h9
  have l2 := len_more M9.wf.ok.rise nd hc (M9.kept hw hc)
  have l3 := len_more J.k.wf.ok.rise nd hc (fun z => (J.k.kp z).trans or_comm)
  have hcl := J.cl
  have vn2 := M9.vn
  have vn3 := J.k.vn
  refine k21_c (by omega) n4 M9.wf J.k.wf (by omega) (by omega) (by omega) (by omega) ((M9.kept hw hc cell).mpr (.inl rfl)) (h10.sub (show Sub (mrkU CM p2 u2 :: cntU CC p3 r3 :: _) _ by walk_at "sub")) fun H11 h11 => ?_
  clear h10
  have hwn := J.wn
  have hwl := V9.wl
  refine k21_d (by omega) n4 V9.wf (by omega) J.wn ht (h11.sub (show Sub (verU CV p4 s' :: [(wr, .lst (wl.map V.bl))] :: _) _ by walk_at "sub")) fun H12 h12 => ?_
  clear h11
  refine k21_e f0 f1 I1 M9 J.k V9 hw hc ht (R := []) (h12.sub (show Sub (rndU CR p1 r1 :: mrkU CM p2 u2 :: cntU CC p3 r3 :: verU CV p4 s' :: [(wr, .lst (wl.map V.bl))] :: []) _ by walk_at "sub")) fun u1 u2' u3 H13 W1 F1 F2 F3 V1 W2 V2 K2 W3 V3 K3 h13 => ?_
  exact k21_f (by omega) nd hcl W1 F1 F2 F3 V1 W2 V2 K2 W3 V3 K3 h13 q
end La
namespace La
open PySem L2 Sy
def top (i : Nat) : Stmt := PySem.Challenge.pw_lastreader_k21_whole_sleeper.main.body.getD i (.Pass ⟨0, 0, 0, 0⟩)
abbrev s__law_town : Stmt := top 29
theorem sc__law_town : FnScope ["script"] ["script"] (defScope s__law_town) := ⟨rfl, rfl, rfl, by decide +kernel, rfl, by decide +kernel, by decide +kernel⟩
abbrev s__law_draw : Stmt := top 30
theorem sc__law_draw : FnScope ["town", "many", "row", "at", "cell", "mixed"] ["town", "many"] (defScope s__law_draw) := ⟨rfl, rfl, rfl, by decide +kernel, rfl, by decide +kernel, by decide +kernel⟩
abbrev s_is_whole : Stmt := top 12
theorem sc_is_whole : FnScope ["thing", "low", "high"] ["thing", "low", "high"] (defScope s_is_whole) := ⟨rfl, rfl, rfl, by decide +kernel, rfl, by decide +kernel, by decide +kernel⟩
abbrev s_look_number : Stmt := top 13
theorem sc_look_number : FnScope ["thing", "low", "high"] ["thing", "low", "high"] (defScope s_look_number) := ⟨rfl, rfl, rfl, by decide +kernel, rfl, by decide +kernel, by decide +kernel⟩
abbrev s_Versions_init : Stmt := inClass (top 27) 0
theorem sc_Versions_init : FnScope ["self", "hands", "cells", "cell"] ["self", "hands", "cells"] (defScope s_Versions_init) := ⟨rfl, rfl, rfl, by decide +kernel, rfl, by decide +kernel, by decide +kernel⟩
abbrev s_Store_init : Stmt := inClass (top 18) 0
theorem sc_Store_init : FnScope ["self", "hands", "cells", "thing"] ["self", "hands", "cells"] (defScope s_Store_init) := ⟨rfl, rfl, rfl, by decide +kernel, rfl, by decide +kernel, by decide +kernel⟩
abbrev s_Counts_init : Stmt := inClass (top 25) 0
theorem sc_Counts_init : FnScope ["self", "hands", "cells"] ["self", "hands", "cells"] (defScope s_Counts_init) := ⟨rfl, rfl, rfl, by decide +kernel, rfl, by decide +kernel, by decide +kernel⟩
abbrev s_Marks_init : Stmt := inClass (top 23) 0
theorem sc_Marks_init : FnScope ["self", "hands", "cells"] ["self", "hands", "cells"] (defScope s_Marks_init) := ⟨rfl, rfl, rfl, by decide +kernel, rfl, by decide +kernel, by decide +kernel⟩
abbrev s_Rounds_init : Stmt := inClass (top 20) 0
theorem sc_Rounds_init : FnScope ["self", "hands", "cells"] ["self", "hands", "cells"] (defScope s_Rounds_init) := ⟨rfl, rfl, rfl, by decide +kernel, rfl, by decide +kernel, by decide +kernel⟩
abbrev s_Store_look_hand : Stmt := inClass (top 18) 1
theorem sc_Store_look_hand : FnScope ["self", "hand"] ["self", "hand"] (defScope s_Store_look_hand) := ⟨rfl, rfl, rfl, by decide +kernel, rfl, by decide +kernel, by decide +kernel⟩
abbrev s_Rounds_enter : Stmt := inClass (top 20) 1
theorem sc_Rounds_enter : FnScope ["self", "hand"] ["self", "hand"] (defScope s_Rounds_enter) := ⟨rfl, rfl, rfl, by decide +kernel, rfl, by decide +kernel, by decide +kernel⟩
abbrev s_Rounds_look_in : Stmt := inClass (top 20) 2
theorem sc_Rounds_look_in : FnScope ["self", "hand"] ["self", "hand"] (defScope s_Rounds_look_in) := ⟨rfl, rfl, rfl, by decide +kernel, rfl, by decide +kernel, by decide +kernel⟩
abbrev s_Store_look_cell : Stmt := inClass (top 18) 2
theorem sc_Store_look_cell : FnScope ["self", "cell"] ["self", "cell"] (defScope s_Store_look_cell) := ⟨rfl, rfl, rfl, by decide +kernel, rfl, by decide +kernel, by decide +kernel⟩
abbrev s_Rounds_look : Stmt := inClass (top 20) 4
theorem sc_Rounds_look : FnScope ["self", "hand", "cell"] ["self", "hand", "cell"] (defScope s_Rounds_look) := ⟨rfl, rfl, rfl, by decide +kernel, rfl, by decide +kernel, by decide +kernel⟩
abbrev s_Marks_look_mark : Stmt := inClass (top 23) 1
theorem sc_Marks_look_mark : FnScope ["self", "hand", "mark"] ["self", "hand", "mark"] (defScope s_Marks_look_mark) := ⟨rfl, rfl, rfl, by decide +kernel, rfl, by decide +kernel, by decide +kernel⟩
abbrev s_Marks_fetch : Stmt := inClass (top 23) 3
theorem sc_Marks_fetch : FnScope ["self", "hand", "mark", "cell"] ["self", "hand", "mark", "cell"] (defScope s_Marks_fetch) := ⟨rfl, rfl, rfl, by decide +kernel, rfl, by decide +kernel, by decide +kernel⟩
abbrev s_Marks_state_of : Stmt := inClass (top 23) 2
theorem sc_Marks_state_of : FnScope ["self", "hand", "mark", "states", "found"] ["self", "hand", "mark", "states"] (defScope s_Marks_state_of) := ⟨rfl, rfl, rfl, by decide +kernel, rfl, by decide +kernel, by decide +kernel⟩
abbrev s_Marks_set_mark : Stmt := inClass (top 23) 4
theorem sc_Marks_set_mark : FnScope ["self", "hand", "mark", "state", "cell", "thing"] ["self", "hand", "mark"] (defScope s_Marks_set_mark) := ⟨rfl, rfl, rfl, by decide +kernel, rfl, by decide +kernel, by decide +kernel⟩
abbrev s_Marks_sure : Stmt := inClass (top 23) 5
theorem sc_Marks_sure : FnScope ["self", "hand", "mark", "state", "cell", "thing"] ["self", "hand", "mark"] (defScope s_Marks_sure) := ⟨rfl, rfl, rfl, by decide +kernel, rfl, by decide +kernel, by decide +kernel⟩
abbrev s_Counts_hold : Stmt := inClass (top 25) 2
theorem sc_Counts_hold : FnScope ["self", "hand", "cell", "thing"] ["self", "hand", "cell"] (defScope s_Counts_hold) := ⟨rfl, rfl, rfl, by decide +kernel, rfl, by decide +kernel, by decide +kernel⟩
abbrev s_Versions_look_hand : Stmt := inClass (top 27) 1
theorem sc_Versions_look_hand : FnScope ["self", "hand"] ["self", "hand"] (defScope s_Versions_look_hand) := ⟨rfl, rfl, rfl, by decide +kernel, rfl, by decide +kernel, by decide +kernel⟩
abbrev s_Versions_begin : Stmt := inClass (top 27) 5
theorem sc_Versions_begin : FnScope ["self", "hand"] ["self", "hand"] (defScope s_Versions_begin) := ⟨rfl, rfl, rfl, by decide +kernel, rfl, by decide +kernel, by decide +kernel⟩
abbrev s__law_stores : Stmt := top 31
theorem sc__law_stores : FnScope ["cells", "hand", "cell", "one", "two", "three", "four"] ["cells", "hand", "cell"] (defScope s__law_stores) := ⟨rfl, rfl, rfl, by decide +kernel, rfl, by decide +kernel, by decide +kernel⟩
abbrev s_Rounds_after_swap : Stmt := inClass (top 20) 6
theorem sc_Rounds_after_swap : FnScope ["self", "thing"] ["self", "thing"] (defScope s_Rounds_after_swap) := ⟨rfl, rfl, rfl, by decide +kernel, rfl, by decide +kernel, by decide +kernel⟩
abbrev s_Store_swap : Stmt := inClass (top 18) 5
theorem sc_Store_swap : FnScope ["self", "cell", "value", "old"] ["self", "cell", "value"] (defScope s_Store_swap) := ⟨rfl, rfl, rfl, by decide +kernel, rfl, by decide +kernel, by decide +kernel⟩
abbrev s_Marks_after_swap : Stmt := inClass (top 23) 8
theorem sc_Marks_after_swap : FnScope ["self", "thing"] ["self", "thing"] (defScope s_Marks_after_swap) := ⟨rfl, rfl, rfl, by decide +kernel, rfl, by decide +kernel, by decide +kernel⟩
abbrev s_Counts_count_of : Stmt := inClass (top 25) 1
theorem sc_Counts_count_of : FnScope ["self", "thing", "one"] ["self", "thing"] (defScope s_Counts_count_of) := ⟨rfl, rfl, rfl, by decide +kernel, rfl, by decide +kernel, by decide +kernel⟩
abbrev s_Store_is_out : Stmt := inClass (top 18) 3
theorem sc_Store_is_out : FnScope ["self", "thing"] ["self", "thing"] (defScope s_Store_is_out) := ⟨rfl, rfl, rfl, by decide +kernel, rfl, by decide +kernel, by decide +kernel⟩
abbrev s_Store_let_go : Stmt := inClass (top 18) 6
theorem sc_Store_let_go : FnScope ["self", "things", "thing"] ["self", "things"] (defScope s_Store_let_go) := ⟨rfl, rfl, rfl, by decide +kernel, rfl, by decide +kernel, by decide +kernel⟩
abbrev s_Counts_loose : Stmt := inClass (top 25) 6
theorem sc_Counts_loose : FnScope ["self", "thing"] ["self", "thing"] (defScope s_Counts_loose) := ⟨rfl, rfl, rfl, by decide +kernel, rfl, by decide +kernel, by decide +kernel⟩
abbrev s_Counts_after_swap : Stmt := inClass (top 25) 7
theorem sc_Counts_after_swap : FnScope ["self", "thing"] ["self", "thing"] (defScope s_Counts_after_swap) := ⟨rfl, rfl, rfl, by decide +kernel, rfl, by decide +kernel, by decide +kernel⟩
abbrev s_Versions_look_pairs : Stmt := inClass (top 27) 4
theorem sc_Versions_look_pairs : FnScope ["self", "pairs", "fine", "one", "cells", "cell", "value"] ["self", "pairs"] (defScope s_Versions_look_pairs) := ⟨rfl, rfl, rfl, by decide +kernel, rfl, by decide +kernel, by decide +kernel⟩
abbrev s_Versions_write : Stmt := inClass (top 27) 9
theorem sc_Versions_write : FnScope ["self", "pairs", "cell", "value"] ["self", "pairs"] (defScope s_Versions_write) := ⟨rfl, rfl, rfl, by decide +kernel, rfl, by decide +kernel, by decide +kernel⟩
abbrev s_Rounds_go_on : Stmt := inClass (top 20) 7
theorem sc_Rounds_go_on : FnScope ["self", "hand", "found", "thing"] ["self"] (defScope s_Rounds_go_on) := ⟨rfl, rfl, rfl, by decide +kernel, rfl, by decide +kernel, by decide +kernel⟩
abbrev s_Marks_marked : Stmt := inClass (top 23) 9
theorem sc_Marks_marked : FnScope ["self", "found", "one"] ["self"] (defScope s_Marks_marked) := ⟨rfl, rfl, rfl, by decide +kernel, rfl, by decide +kernel, by decide +kernel⟩
abbrev s_Marks_sweep : Stmt := inClass (top 23) 10
theorem sc_Marks_sweep : FnScope ["self", "bear", "found", "thing"] ["self"] (defScope s_Marks_sweep) := ⟨rfl, rfl, rfl, by decide +kernel, rfl, by decide +kernel, by decide +kernel⟩
abbrev s_Versions_trim : Stmt := inClass (top 27) 11
theorem sc_Versions_trim : FnScope ["self", "seen", "many", "cell", "row", "needed", "made", "value", "version", "one"] ["self"] (defScope s_Versions_trim) := ⟨rfl, rfl, rfl, by decide +kernel, rfl, by decide +kernel, by decide +kernel⟩
abbrev s_Store_kept : Stmt := inClass (top 18) 9
theorem sc_Store_kept : FnScope ["self"] ["self"] (defScope s_Store_kept) := ⟨rfl, rfl, rfl, by decide +kernel, rfl, by decide +kernel, by decide +kernel⟩
abbrev s_Versions_look_cell : Stmt := inClass (top 27) 3
theorem sc_Versions_look_cell : FnScope ["self", "cell"] ["self", "cell"] (defScope s_Versions_look_cell) := ⟨rfl, rfl, rfl, by decide +kernel, rfl, by decide +kernel, by decide +kernel⟩
abbrev s_Versions_kept : Stmt := inClass (top 27) 12
theorem sc_Versions_kept : FnScope ["self", "cell", "made", "value"] ["self", "cell"] (defScope s_Versions_kept) := ⟨rfl, rfl, rfl, by decide +kernel, rfl, by decide +kernel, by decide +kernel⟩
abbrev s_Rounds_leave : Stmt := inClass (top 20) 3
theorem sc_Rounds_leave : FnScope ["self", "hand"] ["self", "hand"] (defScope s_Rounds_leave) := ⟨rfl, rfl, rfl, by decide +kernel, rfl, by decide +kernel, by decide +kernel⟩
abbrev s_Marks_clear_mark : Stmt := inClass (top 23) 7
theorem sc_Marks_clear_mark : FnScope ["self", "hand", "mark"] ["self", "hand", "mark"] (defScope s_Marks_clear_mark) := ⟨rfl, rfl, rfl, by decide +kernel, rfl, by decide +kernel, by decide +kernel⟩
abbrev s_Versions_look_in : Stmt := inClass (top 27) 2
theorem sc_Versions_look_in : FnScope ["self", "hand"] ["self", "hand"] (defScope s_Versions_look_in) := ⟨rfl, rfl, rfl, by decide +kernel, rfl, by decide +kernel, by decide +kernel⟩
abbrev s_Versions_finish : Stmt := inClass (top 27) 6
theorem sc_Versions_finish : FnScope ["self", "hand"] ["self", "hand"] (defScope s_Versions_finish) := ⟨rfl, rfl, rfl, by decide +kernel, rfl, by decide +kernel, by decide +kernel⟩
abbrev s_Counts_look_held : Stmt := inClass (top 25) 3
theorem sc_Counts_look_held : FnScope ["self", "hand", "thing"] ["self", "hand", "thing"] (defScope s_Counts_look_held) := ⟨rfl, rfl, rfl, by decide +kernel, rfl, by decide +kernel, by decide +kernel⟩
abbrev s_Counts_drop : Stmt := inClass (top 25) 5
theorem sc_Counts_drop : FnScope ["self", "hand", "thing"] ["self", "hand", "thing"] (defScope s_Counts_drop) := ⟨rfl, rfl, rfl, by decide +kernel, rfl, by decide +kernel, by decide +kernel⟩
abbrev s_law : Stmt := top 32
theorem sc_law : FnScope ["script", "town", "size", "cell", "hand", "one", "two", "three", "four", "many", "told", "written", "turn", "place", "store", "row", "k", "gone"] ["script"] (defScope s_law) := ⟨rfl, rfl, rfl, by decide +kernel, rfl, by decide +kernel, by decide +kernel⟩
structure Adr where
  ds_Versions_init : List Value
  c_Versions : Addr
  c_Counts : Addr
  c_Store : Addr
  c_Marks : Addr
  c_Rounds : Addr
  f__law_town : Addr
  d__law_town : FuncData
  f__law_draw : Addr
  d__law_draw : FuncData
  f_is_whole : Addr
  d_is_whole : FuncData
  f_look_number : Addr
  d_look_number : FuncData
  f_Versions_init : Addr
  d_Versions_init : FuncData
  f_Store_init : Addr
  d_Store_init : FuncData
  f_Counts_init : Addr
  d_Counts_init : FuncData
  f_Marks_init : Addr
  d_Marks_init : FuncData
  f_Rounds_init : Addr
  d_Rounds_init : FuncData
  f_Store_look_hand : Addr
  d_Store_look_hand : FuncData
  f_Rounds_enter : Addr
  d_Rounds_enter : FuncData
  f_Rounds_look_in : Addr
  d_Rounds_look_in : FuncData
  f_Store_look_cell : Addr
  d_Store_look_cell : FuncData
  f_Rounds_look : Addr
  d_Rounds_look : FuncData
  f_Marks_look_mark : Addr
  d_Marks_look_mark : FuncData
  f_Marks_fetch : Addr
  d_Marks_fetch : FuncData
  f_Marks_state_of : Addr
  d_Marks_state_of : FuncData
  f_Marks_set_mark : Addr
  d_Marks_set_mark : FuncData
  f_Marks_sure : Addr
  d_Marks_sure : FuncData
  f_Counts_hold : Addr
  d_Counts_hold : FuncData
  f_Versions_look_hand : Addr
  d_Versions_look_hand : FuncData
  f_Versions_begin : Addr
  d_Versions_begin : FuncData
  f__law_stores : Addr
  d__law_stores : FuncData
  f_Rounds_after_swap : Addr
  d_Rounds_after_swap : FuncData
  f_Store_swap : Addr
  d_Store_swap : FuncData
  f_Marks_after_swap : Addr
  d_Marks_after_swap : FuncData
  f_Counts_count_of : Addr
  d_Counts_count_of : FuncData
  f_Store_is_out : Addr
  d_Store_is_out : FuncData
  f_Store_let_go : Addr
  d_Store_let_go : FuncData
  f_Counts_loose : Addr
  d_Counts_loose : FuncData
  f_Counts_after_swap : Addr
  d_Counts_after_swap : FuncData
  f_Versions_look_pairs : Addr
  d_Versions_look_pairs : FuncData
  f_Versions_write : Addr
  d_Versions_write : FuncData
  f_Rounds_go_on : Addr
  d_Rounds_go_on : FuncData
  f_Marks_marked : Addr
  d_Marks_marked : FuncData
  f_Marks_sweep : Addr
  d_Marks_sweep : FuncData
  f_Versions_trim : Addr
  d_Versions_trim : FuncData
  f_Store_kept : Addr
  d_Store_kept : FuncData
  f_Versions_look_cell : Addr
  d_Versions_look_cell : FuncData
  f_Versions_kept : Addr
  d_Versions_kept : FuncData
  f_Rounds_leave : Addr
  d_Rounds_leave : FuncData
  f_Marks_clear_mark : Addr
  d_Marks_clear_mark : FuncData
  f_Versions_look_in : Addr
  d_Versions_look_in : FuncData
  f_Versions_finish : Addr
  d_Versions_finish : FuncData
  f_Counts_look_held : Addr
  d_Counts_look_held : FuncData
  f_Counts_drop : Addr
  d_Counts_drop : FuncData
  f_law : Addr
  d_law : FuncData
  t_MARKS : Tok
  t_MOST_CELLS : Tok
  t_MOST_HANDS : Tok
  t_MOST_VALUE : Tok
structure Txt (K : PySem.W.Frag) (mg : Str → Option Value) (D : Adr) : Prop where
  F__law_town : Fun K "_law_town" "_law_town" s__law_town D.f__law_town D.d__law_town
  b__law_town : Binds K D.d__law_town ["script"] []
  g__law_town : mg "_law_town" = some (.ref D.f__law_town)
  F__law_draw : Fun K "_law_draw" "_law_draw" s__law_draw D.f__law_draw D.d__law_draw
  b__law_draw : Binds K D.d__law_draw ["town", "many"] []
  g__law_draw : mg "_law_draw" = some (.ref D.f__law_draw)
  F_is_whole : Fun K "is_whole" "is_whole" s_is_whole D.f_is_whole D.d_is_whole
  b_is_whole : Binds K D.d_is_whole ["thing", "low", "high"] []
  g_is_whole : mg "is_whole" = some (.ref D.f_is_whole)
  F_look_number : Fun K "look_number" "look_number" s_look_number D.f_look_number D.d_look_number
  b_look_number : Binds K D.d_look_number ["thing", "low", "high"] []
  g_look_number : mg "look_number" = some (.ref D.f_look_number)
  F_Versions_init : FunD K "__init__" "Versions.__init__" (defArgs s_Versions_init) (defBody s_Versions_init) (defScope s_Versions_init) [.int 3] [] D.f_Versions_init D.d_Versions_init
  bd_Versions_init : Binds K D.d_Versions_init ["self", "hands", "cells"] D.ds_Versions_init
  vd_Versions_init : Vals [.int 3] D.ds_Versions_init
  kb_Versions_init : KBn K D.d_Versions_init ["self", "hands", "cells"] 2 ["cells"] (fun us ws => us ++ ws) (fun vs zs => vs ++ zs)
  b_Versions_init : Binds K D.d_Versions_init ["self", "hands", "cells"] []
  F_Store_init : Fun K "__init__" "Store.__init__" s_Store_init D.f_Store_init D.d_Store_init
  b_Store_init : Binds K D.d_Store_init ["self", "hands", "cells"] []
  F_Counts_init : Fun K "__init__" "Counts.__init__" s_Counts_init D.f_Counts_init D.d_Counts_init
  b_Counts_init : Binds K D.d_Counts_init ["self", "hands", "cells"] []
  F_Marks_init : Fun K "__init__" "Marks.__init__" s_Marks_init D.f_Marks_init D.d_Marks_init
  b_Marks_init : Binds K D.d_Marks_init ["self", "hands", "cells"] []
  F_Rounds_init : Fun K "__init__" "Rounds.__init__" s_Rounds_init D.f_Rounds_init D.d_Rounds_init
  b_Rounds_init : Binds K D.d_Rounds_init ["self", "hands", "cells"] []
  F_Store_look_hand : Fun K "look_hand" "Store.look_hand" s_Store_look_hand D.f_Store_look_hand D.d_Store_look_hand
  b_Store_look_hand : Binds K D.d_Store_look_hand ["self", "hand"] []
  F_Rounds_enter : Fun K "enter" "Rounds.enter" s_Rounds_enter D.f_Rounds_enter D.d_Rounds_enter
  b_Rounds_enter : Binds K D.d_Rounds_enter ["self", "hand"] []
  F_Rounds_look_in : Fun K "look_in" "Rounds.look_in" s_Rounds_look_in D.f_Rounds_look_in D.d_Rounds_look_in
  b_Rounds_look_in : Binds K D.d_Rounds_look_in ["self", "hand"] []
  F_Store_look_cell : Fun K "look_cell" "Store.look_cell" s_Store_look_cell D.f_Store_look_cell D.d_Store_look_cell
  b_Store_look_cell : Binds K D.d_Store_look_cell ["self", "cell"] []
  F_Rounds_look : Fun K "look" "Rounds.look" s_Rounds_look D.f_Rounds_look D.d_Rounds_look
  b_Rounds_look : Binds K D.d_Rounds_look ["self", "hand", "cell"] []
  F_Marks_look_mark : Fun K "look_mark" "Marks.look_mark" s_Marks_look_mark D.f_Marks_look_mark D.d_Marks_look_mark
  b_Marks_look_mark : Binds K D.d_Marks_look_mark ["self", "hand", "mark"] []
  F_Marks_fetch : Fun K "fetch" "Marks.fetch" s_Marks_fetch D.f_Marks_fetch D.d_Marks_fetch
  b_Marks_fetch : Binds K D.d_Marks_fetch ["self", "hand", "mark", "cell"] []
  F_Marks_state_of : Fun K "state_of" "Marks.state_of" s_Marks_state_of D.f_Marks_state_of D.d_Marks_state_of
  b_Marks_state_of : Binds K D.d_Marks_state_of ["self", "hand", "mark", "states"] []
  F_Marks_set_mark : Fun K "set_mark" "Marks.set_mark" s_Marks_set_mark D.f_Marks_set_mark D.d_Marks_set_mark
  b_Marks_set_mark : Binds K D.d_Marks_set_mark ["self", "hand", "mark"] []
  F_Marks_sure : Fun K "sure" "Marks.sure" s_Marks_sure D.f_Marks_sure D.d_Marks_sure
  b_Marks_sure : Binds K D.d_Marks_sure ["self", "hand", "mark"] []
  F_Counts_hold : Fun K "hold" "Counts.hold" s_Counts_hold D.f_Counts_hold D.d_Counts_hold
  b_Counts_hold : Binds K D.d_Counts_hold ["self", "hand", "cell"] []
  F_Versions_look_hand : Fun K "look_hand" "Versions.look_hand" s_Versions_look_hand D.f_Versions_look_hand D.d_Versions_look_hand
  b_Versions_look_hand : Binds K D.d_Versions_look_hand ["self", "hand"] []
  F_Versions_begin : Fun K "begin" "Versions.begin" s_Versions_begin D.f_Versions_begin D.d_Versions_begin
  b_Versions_begin : Binds K D.d_Versions_begin ["self", "hand"] []
  F__law_stores : Fun K "_law_stores" "_law_stores" s__law_stores D.f__law_stores D.d__law_stores
  b__law_stores : Binds K D.d__law_stores ["cells", "hand", "cell"] []
  g__law_stores : mg "_law_stores" = some (.ref D.f__law_stores)
  F_Rounds_after_swap : Fun K "after_swap" "Rounds.after_swap" s_Rounds_after_swap D.f_Rounds_after_swap D.d_Rounds_after_swap
  b_Rounds_after_swap : Binds K D.d_Rounds_after_swap ["self", "thing"] []
  F_Store_swap : Fun K "swap" "Store.swap" s_Store_swap D.f_Store_swap D.d_Store_swap
  b_Store_swap : Binds K D.d_Store_swap ["self", "cell", "value"] []
  F_Marks_after_swap : Fun K "after_swap" "Marks.after_swap" s_Marks_after_swap D.f_Marks_after_swap D.d_Marks_after_swap
  b_Marks_after_swap : Binds K D.d_Marks_after_swap ["self", "thing"] []
  F_Counts_count_of : Fun K "count_of" "Counts.count_of" s_Counts_count_of D.f_Counts_count_of D.d_Counts_count_of
  b_Counts_count_of : Binds K D.d_Counts_count_of ["self", "thing"] []
  F_Store_is_out : Fun K "is_out" "Store.is_out" s_Store_is_out D.f_Store_is_out D.d_Store_is_out
  b_Store_is_out : Binds K D.d_Store_is_out ["self", "thing"] []
  F_Store_let_go : Fun K "let_go" "Store.let_go" s_Store_let_go D.f_Store_let_go D.d_Store_let_go
  b_Store_let_go : Binds K D.d_Store_let_go ["self", "things"] []
  F_Counts_loose : Fun K "loose" "Counts.loose" s_Counts_loose D.f_Counts_loose D.d_Counts_loose
  b_Counts_loose : Binds K D.d_Counts_loose ["self", "thing"] []
  F_Counts_after_swap : Fun K "after_swap" "Counts.after_swap" s_Counts_after_swap D.f_Counts_after_swap D.d_Counts_after_swap
  b_Counts_after_swap : Binds K D.d_Counts_after_swap ["self", "thing"] []
  F_Versions_look_pairs : Fun K "look_pairs" "Versions.look_pairs" s_Versions_look_pairs D.f_Versions_look_pairs D.d_Versions_look_pairs
  b_Versions_look_pairs : Binds K D.d_Versions_look_pairs ["self", "pairs"] []
  F_Versions_write : Fun K "write" "Versions.write" s_Versions_write D.f_Versions_write D.d_Versions_write
  b_Versions_write : Binds K D.d_Versions_write ["self", "pairs"] []
  F_Rounds_go_on : Fun K "go_on" "Rounds.go_on" s_Rounds_go_on D.f_Rounds_go_on D.d_Rounds_go_on
  b_Rounds_go_on : Binds K D.d_Rounds_go_on ["self"] []
  F_Marks_marked : Fun K "marked" "Marks.marked" s_Marks_marked D.f_Marks_marked D.d_Marks_marked
  b_Marks_marked : Binds K D.d_Marks_marked ["self"] []
  F_Marks_sweep : Fun K "sweep" "Marks.sweep" s_Marks_sweep D.f_Marks_sweep D.d_Marks_sweep
  b_Marks_sweep : Binds K D.d_Marks_sweep ["self"] []
  F_Versions_trim : Fun K "trim" "Versions.trim" s_Versions_trim D.f_Versions_trim D.d_Versions_trim
  b_Versions_trim : Binds K D.d_Versions_trim ["self"] []
  F_Store_kept : Fun K "kept" "Store.kept" s_Store_kept D.f_Store_kept D.d_Store_kept
  b_Store_kept : Binds K D.d_Store_kept ["self"] []
  F_Versions_look_cell : Fun K "look_cell" "Versions.look_cell" s_Versions_look_cell D.f_Versions_look_cell D.d_Versions_look_cell
  b_Versions_look_cell : Binds K D.d_Versions_look_cell ["self", "cell"] []
  F_Versions_kept : Fun K "kept" "Versions.kept" s_Versions_kept D.f_Versions_kept D.d_Versions_kept
  b_Versions_kept : Binds K D.d_Versions_kept ["self", "cell"] []
  F_Rounds_leave : Fun K "leave" "Rounds.leave" s_Rounds_leave D.f_Rounds_leave D.d_Rounds_leave
  b_Rounds_leave : Binds K D.d_Rounds_leave ["self", "hand"] []
  F_Marks_clear_mark : Fun K "clear_mark" "Marks.clear_mark" s_Marks_clear_mark D.f_Marks_clear_mark D.d_Marks_clear_mark
  b_Marks_clear_mark : Binds K D.d_Marks_clear_mark ["self", "hand", "mark"] []
  F_Versions_look_in : Fun K "look_in" "Versions.look_in" s_Versions_look_in D.f_Versions_look_in D.d_Versions_look_in
  b_Versions_look_in : Binds K D.d_Versions_look_in ["self", "hand"] []
  F_Versions_finish : Fun K "finish" "Versions.finish" s_Versions_finish D.f_Versions_finish D.d_Versions_finish
  b_Versions_finish : Binds K D.d_Versions_finish ["self", "hand"] []
  F_Counts_look_held : Fun K "look_held" "Counts.look_held" s_Counts_look_held D.f_Counts_look_held D.d_Counts_look_held
  b_Counts_look_held : Binds K D.d_Counts_look_held ["self", "hand", "thing"] []
  F_Counts_drop : Fun K "drop" "Counts.drop" s_Counts_drop D.f_Counts_drop D.d_Counts_drop
  b_Counts_drop : Binds K D.d_Counts_drop ["self", "hand", "thing"] []
  F_law : Fun K "law" "law" s_law D.f_law D.d_law
  b_law : Binds K D.d_law ["script"] []
  g_law : mg "law" = some (.ref D.f_law)
  cl_Versions : Cls K D.c_Versions
  g_Versions : mg "Versions" = some (.ref D.c_Versions)
  na_Versions_hands : NoAttr K D.c_Versions "hands"
  na_Versions_rows : NoAttr K D.c_Versions "rows"
  na_Versions_version : NoAttr K D.c_Versions "version"
  na_Versions_begun : NoAttr K D.c_Versions "begun"
  na_Versions_asked : NoAttr K D.c_Versions "asked"
  mk_Versions : Mk K D.c_Versions D.f_Versions_init
  cl_Counts : Cls K D.c_Counts
  g_Counts : mg "Counts" = some (.ref D.c_Counts)
  na_Counts_hands : NoAttr K D.c_Counts "hands"
  na_Counts_worth : NoAttr K D.c_Counts "worth"
  na_Counts_cells : NoAttr K D.c_Counts "cells"
  na_Counts_made : NoAttr K D.c_Counts "made"
  na_Counts_held : NoAttr K D.c_Counts "held"
  mk_Counts : Mk K D.c_Counts D.f_Counts_init
  cl_Store : Cls K D.c_Store
  g_Store : mg "Store" = some (.ref D.c_Store)
  cl_Marks : Cls K D.c_Marks
  g_Marks : mg "Marks" = some (.ref D.c_Marks)
  na_Marks_hands : NoAttr K D.c_Marks "hands"
  na_Marks_worth : NoAttr K D.c_Marks "worth"
  na_Marks_cells : NoAttr K D.c_Marks "cells"
  na_Marks_made : NoAttr K D.c_Marks "made"
  na_Marks_marks : NoAttr K D.c_Marks "marks"
  na_Marks_waits : NoAttr K D.c_Marks "waits"
  mk_Marks : Mk K D.c_Marks D.f_Marks_init
  cl_Rounds : Cls K D.c_Rounds
  g_Rounds : mg "Rounds" = some (.ref D.c_Rounds)
  na_Rounds_hands : NoAttr K D.c_Rounds "hands"
  na_Rounds_worth : NoAttr K D.c_Rounds "worth"
  na_Rounds_cells : NoAttr K D.c_Rounds "cells"
  na_Rounds_made : NoAttr K D.c_Rounds "made"
  na_Rounds_era : NoAttr K D.c_Rounds "era"
  na_Rounds_inside : NoAttr K D.c_Rounds "inside"
  na_Rounds_saw : NoAttr K D.c_Rounds "saw"
  na_Rounds_waits : NoAttr K D.c_Rounds "waits"
  mk_Rounds : Mk K D.c_Rounds D.f_Rounds_init
  me_Rounds_look_hand : Meth K D.c_Rounds "look_hand" D.f_Store_look_hand
  me_Rounds_enter : Meth K D.c_Rounds "enter" D.f_Rounds_enter
  me_Rounds_look_in : Meth K D.c_Rounds "look_in" D.f_Rounds_look_in
  me_Rounds_look_cell : Meth K D.c_Rounds "look_cell" D.f_Store_look_cell
  me_Rounds_look : Meth K D.c_Rounds "look" D.f_Rounds_look
  me_Marks_look_hand : Meth K D.c_Marks "look_hand" D.f_Store_look_hand
  me_Marks_look_mark : Meth K D.c_Marks "look_mark" D.f_Marks_look_mark
  me_Marks_look_cell : Meth K D.c_Marks "look_cell" D.f_Store_look_cell
  me_Marks_fetch : Meth K D.c_Marks "fetch" D.f_Marks_fetch
  me_Marks_state_of : Meth K D.c_Marks "state_of" D.f_Marks_state_of
  me_Marks_set_mark : Meth K D.c_Marks "set_mark" D.f_Marks_set_mark
  me_Marks_sure : Meth K D.c_Marks "sure" D.f_Marks_sure
  me_Counts_look_hand : Meth K D.c_Counts "look_hand" D.f_Store_look_hand
  me_Counts_look_cell : Meth K D.c_Counts "look_cell" D.f_Store_look_cell
  me_Counts_hold : Meth K D.c_Counts "hold" D.f_Counts_hold
  me_Versions_look_hand : Meth K D.c_Versions "look_hand" D.f_Versions_look_hand
  me_Versions_begin : Meth K D.c_Versions "begin" D.f_Versions_begin
  me_Rounds_after_swap : Meth K D.c_Rounds "after_swap" D.f_Rounds_after_swap
  me_Rounds_swap : Meth K D.c_Rounds "swap" D.f_Store_swap
  me_Marks_after_swap : Meth K D.c_Marks "after_swap" D.f_Marks_after_swap
  me_Marks_swap : Meth K D.c_Marks "swap" D.f_Store_swap
  me_Counts_count_of : Meth K D.c_Counts "count_of" D.f_Counts_count_of
  me_Counts_is_out : Meth K D.c_Counts "is_out" D.f_Store_is_out
  me_Counts_let_go : Meth K D.c_Counts "let_go" D.f_Store_let_go
  me_Counts_loose : Meth K D.c_Counts "loose" D.f_Counts_loose
  me_Counts_after_swap : Meth K D.c_Counts "after_swap" D.f_Counts_after_swap
  me_Counts_swap : Meth K D.c_Counts "swap" D.f_Store_swap
  me_Versions_look_pairs : Meth K D.c_Versions "look_pairs" D.f_Versions_look_pairs
  me_Versions_write : Meth K D.c_Versions "write" D.f_Versions_write
  me_Rounds_let_go : Meth K D.c_Rounds "let_go" D.f_Store_let_go
  me_Rounds_go_on : Meth K D.c_Rounds "go_on" D.f_Rounds_go_on
  me_Marks_marked : Meth K D.c_Marks "marked" D.f_Marks_marked
  me_Marks_let_go : Meth K D.c_Marks "let_go" D.f_Store_let_go
  me_Marks_sweep : Meth K D.c_Marks "sweep" D.f_Marks_sweep
  me_Versions_trim : Meth K D.c_Versions "trim" D.f_Versions_trim
  me_Rounds_kept : Meth K D.c_Rounds "kept" D.f_Store_kept
  me_Marks_kept : Meth K D.c_Marks "kept" D.f_Store_kept
  me_Counts_kept : Meth K D.c_Counts "kept" D.f_Store_kept
  me_Versions_look_cell : Meth K D.c_Versions "look_cell" D.f_Versions_look_cell
  me_Versions_kept : Meth K D.c_Versions "kept" D.f_Versions_kept
  me_Rounds_leave : Meth K D.c_Rounds "leave" D.f_Rounds_leave
  me_Marks_clear_mark : Meth K D.c_Marks "clear_mark" D.f_Marks_clear_mark
  me_Versions_look_in : Meth K D.c_Versions "look_in" D.f_Versions_look_in
  me_Versions_finish : Meth K D.c_Versions "finish" D.f_Versions_finish
  me_Counts_look_held : Meth K D.c_Counts "look_held" D.f_Counts_look_held
  me_Counts_drop : Meth K D.c_Counts "drop" D.f_Counts_drop
  cf_Store_init : CFn K D.c_Store (.type "type") "__init__" D.f_Store_init
  m_all : mg "all" = none
  m_bool : mg "bool" = none
  m_dict : mg "dict" = none
  m_int : mg "int" = none
  m_isinstance : mg "isinstance" = none
  m_len : mg "len" = none
  m_list : mg "list" = none
  m_max : mg "max" = none
  m_range : mg "range" = none
  m_set : mg "set" = none
  m_sorted : mg "sorted" = none
  m_sum : mg "sum" = none
  m_tuple : mg "tuple" = none
  k_MARKS : mg "MARKS" = some (.int (2) D.t_MARKS)
  k_MOST_CELLS : mg "MOST_CELLS" = some (.int (5) D.t_MOST_CELLS)
  k_MOST_HANDS : mg "MOST_HANDS" = some (.int (6) D.t_MOST_HANDS)
  k_MOST_VALUE : mg "MOST_VALUE" = some (.int (999) D.t_MOST_VALUE)
section
variable {P : Program} {w : World} {K : PySem.W.Frag} {mg : Str → Option Value} {base : Heap} {D : Adr}
set_option maxHeartbeats 8000000 in
theorem ok__law_town (T : Txt K mg D) : FnOk P w K mg base CX0 1 D.f__law_town D.d__law_town ["script"] (sp__law_town K) := by
  refine T.F__law_town.ok sc__law_town (fun vs H Q E h => ?_) (fun cdv A outer s H vs Q E hr h => ⟨t__law_town K, ?_, ?_⟩)
  · first | (obtain ⟨_, rfl, _⟩ := h; rfl) | (obtain ⟨_, _, rfl, _⟩ := h; rfl) | (obtain ⟨_, _, _, rfl, _⟩ := h; rfl) | (obtain ⟨_, _, _, _, rfl, _⟩ := h; rfl) | (obtain ⟨_, _, _, _, _, rfl, _⟩ := h; rfl) | (obtain ⟨_, _, _, _, _, _, rfl, _⟩ := h; rfl) | (obtain ⟨_, _, _, _, _, _, _, rfl, _⟩ := h; rfl) | (obtain ⟨_, _, _, _, _, _, _, _, rfl, _⟩ := h; rfl) | (obtain ⟨_, _, _, _, _, _, _, _, _, rfl, _⟩ := h; rfl) | (obtain ⟨_, _, _, _, _, _, _, _, _, _, rfl, _⟩ := h; rfl) | (obtain ⟨_, _, _, _, _, _, _, _, _, _, _, rfl, _⟩ := h; rfl) | (obtain ⟨_, _, _, _, _, _, _, _, _, _, _, _, rfl, _⟩ := h; rfl) | (obtain ⟨_, _, _, _, _, _, _, _, _, _, _, _, _, rfl, _⟩ := h; rfl) | (obtain ⟨_, _, _, _, _, _, _, _, _, _, _, _, _, _, rfl, _⟩ := h; rfl) | (obtain ⟨_, _, _, _, _, _, _, _, _, _, _, _, _, _, _, rfl, _⟩ := h; rfl)
  · have hu := hu_of hr
    exact pss_one (ps_ret (pe_lst (pa_cons (pe_ifExp (pt_cmpR (op_neD hr.units) (pv 0) (pe_lst (pa_nil)) (nomark _)) (pe_callTy call_listOf (by rfl) T.m_list (by decide +kernel) (pa_cons (pv 0) (pa_nil))) (pe_lst (pa_cons (pe_int) (pa_nil)))) (pa_cons (pe_int) (pa_nil)))))
  · exact pure__law_town h
set_option maxHeartbeats 8000000 in
theorem ok__law_draw (T : Txt K mg D) : FnOk P w K mg base CX0 1 D.f__law_draw D.d__law_draw ["town", "many"] (sp__law_draw) := by
  refine T.F__law_draw.ok sc__law_draw (fun vs H Q E h => ?_) (fun cdv A outer s H vs Q E hr h => ⟨t__law_draw K, ?_, ?_⟩)
  · first | (obtain ⟨_, rfl, _⟩ := h; rfl) | (obtain ⟨_, _, rfl, _⟩ := h; rfl) | (obtain ⟨_, _, _, rfl, _⟩ := h; rfl) | (obtain ⟨_, _, _, _, rfl, _⟩ := h; rfl) | (obtain ⟨_, _, _, _, _, rfl, _⟩ := h; rfl) | (obtain ⟨_, _, _, _, _, _, rfl, _⟩ := h; rfl) | (obtain ⟨_, _, _, _, _, _, _, rfl, _⟩ := h; rfl) | (obtain ⟨_, _, _, _, _, _, _, _, rfl, _⟩ := h; rfl) | (obtain ⟨_, _, _, _, _, _, _, _, _, rfl, _⟩ := h; rfl) | (obtain ⟨_, _, _, _, _, _, _, _, _, _, rfl, _⟩ := h; rfl) | (obtain ⟨_, _, _, _, _, _, _, _, _, _, _, rfl, _⟩ := h; rfl) | (obtain ⟨_, _, _, _, _, _, _, _, _, _, _, _, rfl, _⟩ := h; rfl) | (obtain ⟨_, _, _, _, _, _, _, _, _, _, _, _, _, rfl, _⟩ := h; rfl) | (obtain ⟨_, _, _, _, _, _, _, _, _, _, _, _, _, _, rfl, _⟩ := h; rfl) | (obtain ⟨_, _, _, _, _, _, _, _, _, _, _, _, _, _, _, rfl, _⟩ := h; rfl)
  · have hu := hu_of hr
    exact pss_cons (ps_set (i := 2) sc__law_draw.nd rfl (by first | exact Or.inl rfl | exact Or.inr rfl) (pe_ix ix_list (pv 0) (pe_int) (fun _ _ => rfl)))
      (pss_cons (ps_asg (pe_op op_addI (pe_ix ix_list (pv 0) (pe_int) (fun _ _ => rfl)) (pe_int)) (pg_sub (pv 0) (pe_int) set_list))
      (pss_cons (ps_set (i := 3) sc__law_draw.nd rfl (by first | exact Or.inl rfl | exact Or.inr rfl) (pe_op op_modI (pe_ix ix_list (pv 0) (pe_int) (fun _ _ => rfl)) (pe_callB call_lenQ (by rfl) T.m_len PySem.boot_len (pa_cons (pv 2) (pa_nil)))))
      (pss_cons (ps_set (i := 4) sc__law_draw.nd rfl (by first | exact Or.inl rfl | exact Or.inr rfl) (pe_ix ix_list (pv 2) (pv 3) (fun _ _ => rfl)))
      (pss_cons (ps_if (pt_cmpR op_geI (pv 4) (pe_int) (nomark _)) (pss_cons (ps_asg (pe_op op_divI (pv 4) (pv 1)) (pg_sub (pv 2) (pv 3) set_list))
      (pss_one (ps_ret (pe_op op_modI (pv 4) (pv 1))))) (pss_nil))
      (pss_cons (ps_set (i := 5) sc__law_draw.nd rfl (by first | exact Or.inl rfl | exact Or.inr rfl) (pe_op op_modI (pe_op op_addI (pv 4) (pe_op op_mulI (pe_int) (pe_ix ix_list (pv 0) (pe_int) (fun _ _ => rfl)))) (pe_int)))
      (pss_cons (ps_set (i := 5) sc__law_draw.nd rfl (by first | exact Or.inl rfl | exact Or.inr rfl) (pe_op op_modI (pe_op op_powI (pv 5) (pe_int)) (pe_int)))
      (pss_one (ps_ret (pe_op op_modI (pe_op op_divI (pe_op op_modI (pe_op op_addI (pe_op op_mulI (pe_op op_divI (pv 5) (pe_int)) (pe_int)) (pv 5)) (pe_int)) (pe_int)) (pv 1))))))))))
  · exact pure__law_draw h
set_option maxHeartbeats 8000000 in
theorem ok_is_whole (T : Txt K mg D) : FnOk P w K mg base CX0 1 D.f_is_whole D.d_is_whole ["thing", "low", "high"] (sp_is_whole) := by
  refine T.F_is_whole.ok sc_is_whole (fun vs H Q E h => ?_) (fun cdv A outer s H vs Q E hr h => ⟨t_is_whole K, ?_, ?_⟩)
  · first | (obtain ⟨_, rfl, _⟩ := h; rfl) | (obtain ⟨_, _, rfl, _⟩ := h; rfl) | (obtain ⟨_, _, _, rfl, _⟩ := h; rfl) | (obtain ⟨_, _, _, _, rfl, _⟩ := h; rfl) | (obtain ⟨_, _, _, _, _, rfl, _⟩ := h; rfl) | (obtain ⟨_, _, _, _, _, _, rfl, _⟩ := h; rfl) | (obtain ⟨_, _, _, _, _, _, _, rfl, _⟩ := h; rfl) | (obtain ⟨_, _, _, _, _, _, _, _, rfl, _⟩ := h; rfl) | (obtain ⟨_, _, _, _, _, _, _, _, _, rfl, _⟩ := h; rfl) | (obtain ⟨_, _, _, _, _, _, _, _, _, _, rfl, _⟩ := h; rfl) | (obtain ⟨_, _, _, _, _, _, _, _, _, _, _, rfl, _⟩ := h; rfl) | (obtain ⟨_, _, _, _, _, _, _, _, _, _, _, _, rfl, _⟩ := h; rfl) | (obtain ⟨_, _, _, _, _, _, _, _, _, _, _, _, _, rfl, _⟩ := h; rfl) | (obtain ⟨_, _, _, _, _, _, _, _, _, _, _, _, _, _, rfl, _⟩ := h; rfl) | (obtain ⟨_, _, _, _, _, _, _, _, _, _, _, _, _, _, _, rfl, _⟩ := h; rfl)
  · have hu := hu_of hr
    exact pss_one (ps_ret (pe_and (pe_callB call_isi (by rfl) T.m_isinstance (by decide +kernel) (pa_cons (pv 0) (pa_cons (pe_bltn (v := .ty "int") (by rfl) T.m_int (by decide +kernel) rfl) (pa_nil)))) (pe_and (pe_not (pe_callB call_isi (by rfl) T.m_isinstance (by decide +kernel) (pa_cons (pv 0) (pa_cons (pe_bltn (v := .ty "bool") (by rfl) T.m_bool (by decide +kernel) rfl) (pa_nil))))) (pe_one (pe_chain op_leI op_leI (pv 1) (pv 0) (pv 2))))))
  · exact pure_is_whole h
set_option maxHeartbeats 8000000 in
theorem ok_look_number (T : Txt K mg D) : FnOk P w K mg base CX0 2 D.f_look_number D.d_look_number ["thing", "low", "high"] (sp_look_number) := by
  have G_is_whole : FnOk P w K mg base CX0 1 D.f_is_whole D.d_is_whole ["thing", "low", "high"] (sp_is_whole) := ok_is_whole T
  refine T.F_look_number.ok sc_look_number (fun vs H Q E h => ?_) (fun cdv A outer s H vs Q E hr h => ⟨t_look_number K (sp_is_whole), ?_, ?_⟩)
  · first | (obtain ⟨_, rfl, _⟩ := h; rfl) | (obtain ⟨_, _, rfl, _⟩ := h; rfl) | (obtain ⟨_, _, _, rfl, _⟩ := h; rfl) | (obtain ⟨_, _, _, _, rfl, _⟩ := h; rfl) | (obtain ⟨_, _, _, _, _, rfl, _⟩ := h; rfl) | (obtain ⟨_, _, _, _, _, _, rfl, _⟩ := h; rfl) | (obtain ⟨_, _, _, _, _, _, _, rfl, _⟩ := h; rfl) | (obtain ⟨_, _, _, _, _, _, _, _, rfl, _⟩ := h; rfl) | (obtain ⟨_, _, _, _, _, _, _, _, _, rfl, _⟩ := h; rfl) | (obtain ⟨_, _, _, _, _, _, _, _, _, _, rfl, _⟩ := h; rfl) | (obtain ⟨_, _, _, _, _, _, _, _, _, _, _, rfl, _⟩ := h; rfl) | (obtain ⟨_, _, _, _, _, _, _, _, _, _, _, _, rfl, _⟩ := h; rfl) | (obtain ⟨_, _, _, _, _, _, _, _, _, _, _, _, _, rfl, _⟩ := h; rfl) | (obtain ⟨_, _, _, _, _, _, _, _, _, _, _, _, _, _, rfl, _⟩ := h; rfl) | (obtain ⟨_, _, _, _, _, _, _, _, _, _, _, _, _, _, _, rfl, _⟩ := h; rfl)
  · have hu := hu_of hr
    exact pss_one (ps_if (pt_not (pt_val (pe_call G_is_whole (hr.mono (by decide)) (by rfl) T.g_is_whole T.F_is_whole.kp T.b_is_whole .nil pass0 (pa_cons (pv 0) (pa_cons (pv 1) (pa_cons (pv 2) (pa_nil))))))) (pss_one (ps_never)) (pss_nil))
  · exact pure_look_number h
set_option maxHeartbeats 8000000 in
theorem ok_mk_Versions (T : Txt K mg D) : FnOk P w K mg base CX0 3 D.f_Versions_init D.d_Versions_init ["self", "hands", "cells"] (sp_vinit D.c_Versions) := by
  have G_look_number : FnOk P w K mg base CX0 2 D.f_look_number D.d_look_number ["thing", "low", "high"] (sp_look_number) := ok_look_number T
  refine T.F_Versions_init.ok sc_Versions_init (fun vs H Q E h => ?_) (fun cdv A outer s H vs Q E hr h => ⟨t_Versions_init K (sp_look_number), ?_, ?_⟩)
  · first | (obtain ⟨_, rfl, _⟩ := h; rfl) | (obtain ⟨_, _, rfl, _⟩ := h; rfl) | (obtain ⟨_, _, _, rfl, _⟩ := h; rfl) | (obtain ⟨_, _, _, _, rfl, _⟩ := h; rfl) | (obtain ⟨_, _, _, _, _, rfl, _⟩ := h; rfl) | (obtain ⟨_, _, _, _, _, _, rfl, _⟩ := h; rfl) | (obtain ⟨_, _, _, _, _, _, _, rfl, _⟩ := h; rfl) | (obtain ⟨_, _, _, _, _, _, _, _, rfl, _⟩ := h; rfl) | (obtain ⟨_, _, _, _, _, _, _, _, _, rfl, _⟩ := h; rfl) | (obtain ⟨_, _, _, _, _, _, _, _, _, _, rfl, _⟩ := h; rfl) | (obtain ⟨_, _, _, _, _, _, _, _, _, _, _, rfl, _⟩ := h; rfl) | (obtain ⟨_, _, _, _, _, _, _, _, _, _, _, _, rfl, _⟩ := h; rfl) | (obtain ⟨_, _, _, _, _, _, _, _, _, _, _, _, _, rfl, _⟩ := h; rfl) | (obtain ⟨_, _, _, _, _, _, _, _, _, _, _, _, _, _, rfl, _⟩ := h; rfl) | (obtain ⟨_, _, _, _, _, _, _, _, _, _, _, _, _, _, _, rfl, _⟩ := h; rfl)
  · have hu := hu_of hr
    exact pss_cons (ps_expr (pe_call G_look_number (hr.mono (by decide)) (by rfl) T.g_look_number T.F_look_number.kp T.b_look_number .nil pass0 (pa_cons (pv 1) (pa_cons (pe_int) (pa_cons (pe_glob (by rfl) T.k_MOST_HANDS ⟨_, rfl⟩) (pa_nil))))))
      (pss_cons (ps_expr (pe_call G_look_number (hr.mono (by decide)) (by rfl) T.g_look_number T.F_look_number.kp T.b_look_number .nil pass0 (pa_cons (pv 2) (pa_cons (pe_int) (pa_cons (pe_glob (by rfl) T.k_MOST_CELLS ⟨_, rfl⟩) (pa_nil))))))
      (pss_cons (ps_fld (pv 0) (pv 1) (by rfl))
      (pss_cons (ps_fld (pv 0) (pe_lc (own := [("cell", 3)]) (by rfl) sc_Versions_init.nd (pi_range1 (by rfl) T.m_range (pa_cons (pv 2) (pa_nil))) (blkOk_by (own := [("cell", 3)]) (N := ["self", "hands", "cells", "cell"]) (sc := defScope s_Versions_init) (by decide +kernel)) (fun _ _ _ _ _ => pg_name (i := 3) sc_Versions_init.nd rfl (by first | exact Or.inl rfl | exact Or.inr rfl)) (fun _ _ _ _ _ => pts_nil) (fun _ _ _ _ _ => pe_lst (pa_cons (pe_tup (pa_cons (pe_int) (pa_cons (pe_int) (pa_nil)))) (pa_nil)))) (by rfl))
      (pss_cons (ps_fld (pv 0) (pe_int) (by rfl))
      (pss_cons (ps_fld (pv 0) (pe_dnewK) (by rfl))
      (pss_one (ps_fld (pv 0) (pe_dnewK) (by rfl))))))))
  · exact pure_vinit ⟨T.cl_Versions, T.na_Versions_hands, T.na_Versions_rows, T.na_Versions_version, T.na_Versions_begun, T.na_Versions_asked⟩ h
set_option maxHeartbeats 8000000 in
theorem ok_Counts__Store_init (T : Txt K mg D) : FnOk P w K mg base CX0 3 D.f_Store_init D.d_Store_init ["self", "hands", "cells"] (sp_init D.c_Counts) := by
  have G_look_number : FnOk P w K mg base CX0 2 D.f_look_number D.d_look_number ["thing", "low", "high"] (sp_look_number) := ok_look_number T
  refine T.F_Store_init.ok sc_Store_init (fun vs H Q E h => ?_) (fun cdv A outer s H vs Q E hr h => ⟨t_Store_init K (sp_look_number), ?_, ?_⟩)
  · first | (obtain ⟨_, rfl, _⟩ := h; rfl) | (obtain ⟨_, _, rfl, _⟩ := h; rfl) | (obtain ⟨_, _, _, rfl, _⟩ := h; rfl) | (obtain ⟨_, _, _, _, rfl, _⟩ := h; rfl) | (obtain ⟨_, _, _, _, _, rfl, _⟩ := h; rfl) | (obtain ⟨_, _, _, _, _, _, rfl, _⟩ := h; rfl) | (obtain ⟨_, _, _, _, _, _, _, rfl, _⟩ := h; rfl) | (obtain ⟨_, _, _, _, _, _, _, _, rfl, _⟩ := h; rfl) | (obtain ⟨_, _, _, _, _, _, _, _, _, rfl, _⟩ := h; rfl) | (obtain ⟨_, _, _, _, _, _, _, _, _, _, rfl, _⟩ := h; rfl) | (obtain ⟨_, _, _, _, _, _, _, _, _, _, _, rfl, _⟩ := h; rfl) | (obtain ⟨_, _, _, _, _, _, _, _, _, _, _, _, rfl, _⟩ := h; rfl) | (obtain ⟨_, _, _, _, _, _, _, _, _, _, _, _, _, rfl, _⟩ := h; rfl) | (obtain ⟨_, _, _, _, _, _, _, _, _, _, _, _, _, _, rfl, _⟩ := h; rfl) | (obtain ⟨_, _, _, _, _, _, _, _, _, _, _, _, _, _, _, rfl, _⟩ := h; rfl)
  · have hu := hu_of hr
    exact pss_cons (ps_expr (pe_call G_look_number (hr.mono (by decide)) (by rfl) T.g_look_number T.F_look_number.kp T.b_look_number .nil pass0 (pa_cons (pv 1) (pa_cons (pe_int) (pa_cons (pe_glob (by rfl) T.k_MOST_HANDS ⟨_, rfl⟩) (pa_nil))))))
      (pss_cons (ps_expr (pe_call G_look_number (hr.mono (by decide)) (by rfl) T.g_look_number T.F_look_number.kp T.b_look_number .nil pass0 (pa_cons (pv 2) (pa_cons (pe_int) (pa_cons (pe_glob (by rfl) T.k_MOST_CELLS ⟨_, rfl⟩) (pa_nil))))))
      (pss_cons (ps_fld (pv 0) (pv 1) (by rfl))
      (pss_cons (ps_fld (pv 0) (pe_callTy (call_dictPr rfl) (by rfl) T.m_dict (by decide +kernel) (pa_cons (pe_lc (own := [("thing", 3)]) (by rfl) sc_Store_init.nd (pi_range1 (by rfl) T.m_range (pa_cons (pv 2) (pa_nil))) (blkOk_by (own := [("thing", 3)]) (N := ["self", "hands", "cells", "thing"]) (sc := defScope s_Store_init) (by decide +kernel)) (fun _ _ _ _ _ => pg_name (i := 3) sc_Store_init.nd rfl (by first | exact Or.inl rfl | exact Or.inr rfl)) (fun _ _ _ _ _ => pts_nil) (fun _ _ _ _ _ => pe_tup (pa_cons (pv 3) (pa_cons (pe_int) (pa_nil))))) (pa_nil))) (by rfl))
      (pss_cons (ps_fld (pv 0) (pe_listRg rfl (by rfl) T.m_list (prg_1 (by rfl) T.m_range (pv 2))) (by rfl))
      (pss_one (ps_fld (pv 0) (pv 2) (by rfl)))))))
  · exact pure_init ⟨T.cl_Counts, T.na_Counts_hands, T.na_Counts_worth, T.na_Counts_cells, T.na_Counts_made⟩ h
set_option maxHeartbeats 8000000 in
theorem ok_mk_Counts (T : Txt K mg D) : FnOk P w K mg base CX0 4 D.f_Counts_init D.d_Counts_init ["self", "hands", "cells"] (sp_cinit D.c_Counts) := by
  have G_Counts__Store_init : FnOk P w K mg base CX0 3 D.f_Store_init D.d_Store_init ["self", "hands", "cells"] (sp_init D.c_Counts) := ok_Counts__Store_init T
  refine T.F_Counts_init.ok sc_Counts_init (fun vs H Q E h => ?_) (fun cdv A outer s H vs Q E hr h => ⟨t_Counts_init K D.c_Store (sp_init D.c_Counts), ?_, ?_⟩)
  · first | (obtain ⟨_, rfl, _⟩ := h; rfl) | (obtain ⟨_, _, rfl, _⟩ := h; rfl) | (obtain ⟨_, _, _, rfl, _⟩ := h; rfl) | (obtain ⟨_, _, _, _, rfl, _⟩ := h; rfl) | (obtain ⟨_, _, _, _, _, rfl, _⟩ := h; rfl) | (obtain ⟨_, _, _, _, _, _, rfl, _⟩ := h; rfl) | (obtain ⟨_, _, _, _, _, _, _, rfl, _⟩ := h; rfl) | (obtain ⟨_, _, _, _, _, _, _, _, rfl, _⟩ := h; rfl) | (obtain ⟨_, _, _, _, _, _, _, _, _, rfl, _⟩ := h; rfl) | (obtain ⟨_, _, _, _, _, _, _, _, _, _, rfl, _⟩ := h; rfl) | (obtain ⟨_, _, _, _, _, _, _, _, _, _, _, rfl, _⟩ := h; rfl) | (obtain ⟨_, _, _, _, _, _, _, _, _, _, _, _, rfl, _⟩ := h; rfl) | (obtain ⟨_, _, _, _, _, _, _, _, _, _, _, _, _, rfl, _⟩ := h; rfl) | (obtain ⟨_, _, _, _, _, _, _, _, _, _, _, _, _, _, rfl, _⟩ := h; rfl) | (obtain ⟨_, _, _, _, _, _, _, _, _, _, _, _, _, _, _, rfl, _⟩ := h; rfl)
  · have hu := hu_of hr
    exact pss_cons (ps_expr (pe_cfn (pe_glob (by rfl) T.g_Store rfl) T.cf_Store_init G_Counts__Store_init (hr.mono (by decide)) T.b_Store_init .nil pass0 (pa_cons (pv 0) (pa_cons (pv 1) (pa_cons (pv 2) (pa_nil))))))
      (pss_one (ps_fld (pv 0) (pe_dnewT) (by rfl)))
  · exact pure_cinit ⟨⟨T.cl_Counts, T.na_Counts_hands, T.na_Counts_worth, T.na_Counts_cells, T.na_Counts_made⟩, T.na_Counts_held⟩ h
set_option maxHeartbeats 8000000 in
theorem ok_Marks__Store_init (T : Txt K mg D) : FnOk P w K mg base CX0 3 D.f_Store_init D.d_Store_init ["self", "hands", "cells"] (sp_init D.c_Marks) := by
  have G_look_number : FnOk P w K mg base CX0 2 D.f_look_number D.d_look_number ["thing", "low", "high"] (sp_look_number) := ok_look_number T
  refine T.F_Store_init.ok sc_Store_init (fun vs H Q E h => ?_) (fun cdv A outer s H vs Q E hr h => ⟨t_Store_init K (sp_look_number), ?_, ?_⟩)
  · first | (obtain ⟨_, rfl, _⟩ := h; rfl) | (obtain ⟨_, _, rfl, _⟩ := h; rfl) | (obtain ⟨_, _, _, rfl, _⟩ := h; rfl) | (obtain ⟨_, _, _, _, rfl, _⟩ := h; rfl) | (obtain ⟨_, _, _, _, _, rfl, _⟩ := h; rfl) | (obtain ⟨_, _, _, _, _, _, rfl, _⟩ := h; rfl) | (obtain ⟨_, _, _, _, _, _, _, rfl, _⟩ := h; rfl) | (obtain ⟨_, _, _, _, _, _, _, _, rfl, _⟩ := h; rfl) | (obtain ⟨_, _, _, _, _, _, _, _, _, rfl, _⟩ := h; rfl) | (obtain ⟨_, _, _, _, _, _, _, _, _, _, rfl, _⟩ := h; rfl) | (obtain ⟨_, _, _, _, _, _, _, _, _, _, _, rfl, _⟩ := h; rfl) | (obtain ⟨_, _, _, _, _, _, _, _, _, _, _, _, rfl, _⟩ := h; rfl) | (obtain ⟨_, _, _, _, _, _, _, _, _, _, _, _, _, rfl, _⟩ := h; rfl) | (obtain ⟨_, _, _, _, _, _, _, _, _, _, _, _, _, _, rfl, _⟩ := h; rfl) | (obtain ⟨_, _, _, _, _, _, _, _, _, _, _, _, _, _, _, rfl, _⟩ := h; rfl)
  · have hu := hu_of hr
    exact pss_cons (ps_expr (pe_call G_look_number (hr.mono (by decide)) (by rfl) T.g_look_number T.F_look_number.kp T.b_look_number .nil pass0 (pa_cons (pv 1) (pa_cons (pe_int) (pa_cons (pe_glob (by rfl) T.k_MOST_HANDS ⟨_, rfl⟩) (pa_nil))))))
      (pss_cons (ps_expr (pe_call G_look_number (hr.mono (by decide)) (by rfl) T.g_look_number T.F_look_number.kp T.b_look_number .nil pass0 (pa_cons (pv 2) (pa_cons (pe_int) (pa_cons (pe_glob (by rfl) T.k_MOST_CELLS ⟨_, rfl⟩) (pa_nil))))))
      (pss_cons (ps_fld (pv 0) (pv 1) (by rfl))
      (pss_cons (ps_fld (pv 0) (pe_callTy (call_dictPr rfl) (by rfl) T.m_dict (by decide +kernel) (pa_cons (pe_lc (own := [("thing", 3)]) (by rfl) sc_Store_init.nd (pi_range1 (by rfl) T.m_range (pa_cons (pv 2) (pa_nil))) (blkOk_by (own := [("thing", 3)]) (N := ["self", "hands", "cells", "thing"]) (sc := defScope s_Store_init) (by decide +kernel)) (fun _ _ _ _ _ => pg_name (i := 3) sc_Store_init.nd rfl (by first | exact Or.inl rfl | exact Or.inr rfl)) (fun _ _ _ _ _ => pts_nil) (fun _ _ _ _ _ => pe_tup (pa_cons (pv 3) (pa_cons (pe_int) (pa_nil))))) (pa_nil))) (by rfl))
      (pss_cons (ps_fld (pv 0) (pe_listRg rfl (by rfl) T.m_list (prg_1 (by rfl) T.m_range (pv 2))) (by rfl))
      (pss_one (ps_fld (pv 0) (pv 2) (by rfl)))))))
  · exact pure_init ⟨T.cl_Marks, T.na_Marks_hands, T.na_Marks_worth, T.na_Marks_cells, T.na_Marks_made⟩ h
set_option maxHeartbeats 8000000 in
theorem ok_mk_Marks (T : Txt K mg D) : FnOk P w K mg base CX0 4 D.f_Marks_init D.d_Marks_init ["self", "hands", "cells"] (sp_minit D.c_Marks) := by
  have G_Marks__Store_init : FnOk P w K mg base CX0 3 D.f_Store_init D.d_Store_init ["self", "hands", "cells"] (sp_init D.c_Marks) := ok_Marks__Store_init T
  refine T.F_Marks_init.ok sc_Marks_init (fun vs H Q E h => ?_) (fun cdv A outer s H vs Q E hr h => ⟨t_Marks_init K D.c_Store (sp_init D.c_Marks), ?_, ?_⟩)
  · first | (obtain ⟨_, rfl, _⟩ := h; rfl) | (obtain ⟨_, _, rfl, _⟩ := h; rfl) | (obtain ⟨_, _, _, rfl, _⟩ := h; rfl) | (obtain ⟨_, _, _, _, rfl, _⟩ := h; rfl) | (obtain ⟨_, _, _, _, _, rfl, _⟩ := h; rfl) | (obtain ⟨_, _, _, _, _, _, rfl, _⟩ := h; rfl) | (obtain ⟨_, _, _, _, _, _, _, rfl, _⟩ := h; rfl) | (obtain ⟨_, _, _, _, _, _, _, _, rfl, _⟩ := h; rfl) | (obtain ⟨_, _, _, _, _, _, _, _, _, rfl, _⟩ := h; rfl) | (obtain ⟨_, _, _, _, _, _, _, _, _, _, rfl, _⟩ := h; rfl) | (obtain ⟨_, _, _, _, _, _, _, _, _, _, _, rfl, _⟩ := h; rfl) | (obtain ⟨_, _, _, _, _, _, _, _, _, _, _, _, rfl, _⟩ := h; rfl) | (obtain ⟨_, _, _, _, _, _, _, _, _, _, _, _, _, rfl, _⟩ := h; rfl) | (obtain ⟨_, _, _, _, _, _, _, _, _, _, _, _, _, _, rfl, _⟩ := h; rfl) | (obtain ⟨_, _, _, _, _, _, _, _, _, _, _, _, _, _, _, rfl, _⟩ := h; rfl)
  · have hu := hu_of hr
    exact pss_cons (ps_expr (pe_cfn (pe_glob (by rfl) T.g_Store rfl) T.cf_Store_init G_Marks__Store_init (hr.mono (by decide)) T.b_Store_init .nil pass0 (pa_cons (pv 0) (pa_cons (pv 1) (pa_cons (pv 2) (pa_nil))))))
      (pss_cons (ps_fld (pv 0) (pe_dnewT) (by rfl))
      (pss_one (ps_fld (pv 0) (pe_lst (pa_nil)) (by rfl))))
  · exact pure_minit ⟨⟨T.cl_Marks, T.na_Marks_hands, T.na_Marks_worth, T.na_Marks_cells, T.na_Marks_made⟩, T.na_Marks_marks, T.na_Marks_waits⟩ h
set_option maxHeartbeats 8000000 in
theorem ok_Rounds__Store_init (T : Txt K mg D) : FnOk P w K mg base CX0 3 D.f_Store_init D.d_Store_init ["self", "hands", "cells"] (sp_init D.c_Rounds) := by
  have G_look_number : FnOk P w K mg base CX0 2 D.f_look_number D.d_look_number ["thing", "low", "high"] (sp_look_number) := ok_look_number T
  refine T.F_Store_init.ok sc_Store_init (fun vs H Q E h => ?_) (fun cdv A outer s H vs Q E hr h => ⟨t_Store_init K (sp_look_number), ?_, ?_⟩)
  · first | (obtain ⟨_, rfl, _⟩ := h; rfl) | (obtain ⟨_, _, rfl, _⟩ := h; rfl) | (obtain ⟨_, _, _, rfl, _⟩ := h; rfl) | (obtain ⟨_, _, _, _, rfl, _⟩ := h; rfl) | (obtain ⟨_, _, _, _, _, rfl, _⟩ := h; rfl) | (obtain ⟨_, _, _, _, _, _, rfl, _⟩ := h; rfl) | (obtain ⟨_, _, _, _, _, _, _, rfl, _⟩ := h; rfl) | (obtain ⟨_, _, _, _, _, _, _, _, rfl, _⟩ := h; rfl) | (obtain ⟨_, _, _, _, _, _, _, _, _, rfl, _⟩ := h; rfl) | (obtain ⟨_, _, _, _, _, _, _, _, _, _, rfl, _⟩ := h; rfl) | (obtain ⟨_, _, _, _, _, _, _, _, _, _, _, rfl, _⟩ := h; rfl) | (obtain ⟨_, _, _, _, _, _, _, _, _, _, _, _, rfl, _⟩ := h; rfl) | (obtain ⟨_, _, _, _, _, _, _, _, _, _, _, _, _, rfl, _⟩ := h; rfl) | (obtain ⟨_, _, _, _, _, _, _, _, _, _, _, _, _, _, rfl, _⟩ := h; rfl) | (obtain ⟨_, _, _, _, _, _, _, _, _, _, _, _, _, _, _, rfl, _⟩ := h; rfl)
  · have hu := hu_of hr
    exact pss_cons (ps_expr (pe_call G_look_number (hr.mono (by decide)) (by rfl) T.g_look_number T.F_look_number.kp T.b_look_number .nil pass0 (pa_cons (pv 1) (pa_cons (pe_int) (pa_cons (pe_glob (by rfl) T.k_MOST_HANDS ⟨_, rfl⟩) (pa_nil))))))
      (pss_cons (ps_expr (pe_call G_look_number (hr.mono (by decide)) (by rfl) T.g_look_number T.F_look_number.kp T.b_look_number .nil pass0 (pa_cons (pv 2) (pa_cons (pe_int) (pa_cons (pe_glob (by rfl) T.k_MOST_CELLS ⟨_, rfl⟩) (pa_nil))))))
      (pss_cons (ps_fld (pv 0) (pv 1) (by rfl))
      (pss_cons (ps_fld (pv 0) (pe_callTy (call_dictPr rfl) (by rfl) T.m_dict (by decide +kernel) (pa_cons (pe_lc (own := [("thing", 3)]) (by rfl) sc_Store_init.nd (pi_range1 (by rfl) T.m_range (pa_cons (pv 2) (pa_nil))) (blkOk_by (own := [("thing", 3)]) (N := ["self", "hands", "cells", "thing"]) (sc := defScope s_Store_init) (by decide +kernel)) (fun _ _ _ _ _ => pg_name (i := 3) sc_Store_init.nd rfl (by first | exact Or.inl rfl | exact Or.inr rfl)) (fun _ _ _ _ _ => pts_nil) (fun _ _ _ _ _ => pe_tup (pa_cons (pv 3) (pa_cons (pe_int) (pa_nil))))) (pa_nil))) (by rfl))
      (pss_cons (ps_fld (pv 0) (pe_listRg rfl (by rfl) T.m_list (prg_1 (by rfl) T.m_range (pv 2))) (by rfl))
      (pss_one (ps_fld (pv 0) (pv 2) (by rfl)))))))
  · exact pure_init ⟨T.cl_Rounds, T.na_Rounds_hands, T.na_Rounds_worth, T.na_Rounds_cells, T.na_Rounds_made⟩ h
set_option maxHeartbeats 8000000 in
theorem ok_mk_Rounds (T : Txt K mg D) : FnOk P w K mg base CX0 4 D.f_Rounds_init D.d_Rounds_init ["self", "hands", "cells"] (sp_rinit D.c_Rounds) := by
  have G_Rounds__Store_init : FnOk P w K mg base CX0 3 D.f_Store_init D.d_Store_init ["self", "hands", "cells"] (sp_init D.c_Rounds) := ok_Rounds__Store_init T
  refine T.F_Rounds_init.ok sc_Rounds_init (fun vs H Q E h => ?_) (fun cdv A outer s H vs Q E hr h => ⟨t_Rounds_init K D.c_Store (sp_init D.c_Rounds), ?_, ?_⟩)
  · first | (obtain ⟨_, rfl, _⟩ := h; rfl) | (obtain ⟨_, _, rfl, _⟩ := h; rfl) | (obtain ⟨_, _, _, rfl, _⟩ := h; rfl) | (obtain ⟨_, _, _, _, rfl, _⟩ := h; rfl) | (obtain ⟨_, _, _, _, _, rfl, _⟩ := h; rfl) | (obtain ⟨_, _, _, _, _, _, rfl, _⟩ := h; rfl) | (obtain ⟨_, _, _, _, _, _, _, rfl, _⟩ := h; rfl) | (obtain ⟨_, _, _, _, _, _, _, _, rfl, _⟩ := h; rfl) | (obtain ⟨_, _, _, _, _, _, _, _, _, rfl, _⟩ := h; rfl) | (obtain ⟨_, _, _, _, _, _, _, _, _, _, rfl, _⟩ := h; rfl) | (obtain ⟨_, _, _, _, _, _, _, _, _, _, _, rfl, _⟩ := h; rfl) | (obtain ⟨_, _, _, _, _, _, _, _, _, _, _, _, rfl, _⟩ := h; rfl) | (obtain ⟨_, _, _, _, _, _, _, _, _, _, _, _, _, rfl, _⟩ := h; rfl) | (obtain ⟨_, _, _, _, _, _, _, _, _, _, _, _, _, _, rfl, _⟩ := h; rfl) | (obtain ⟨_, _, _, _, _, _, _, _, _, _, _, _, _, _, _, rfl, _⟩ := h; rfl)
  · have hu := hu_of hr
    exact pss_cons (ps_expr (pe_cfn (pe_glob (by rfl) T.g_Store rfl) T.cf_Store_init G_Rounds__Store_init (hr.mono (by decide)) T.b_Store_init .nil pass0 (pa_cons (pv 0) (pa_cons (pv 1) (pa_cons (pv 2) (pa_nil))))))
      (pss_cons (ps_fld (pv 0) (pe_int) (by rfl))
      (pss_cons (ps_fld (pv 0) (pe_dnewK) (by rfl))
      (pss_cons (ps_fld (pv 0) (pe_dnewK) (by rfl))
      (pss_one (ps_fld (pv 0) (pe_dnewK) (by rfl))))))
  · exact pure_rinit ⟨⟨T.cl_Rounds, T.na_Rounds_hands, T.na_Rounds_worth, T.na_Rounds_cells, T.na_Rounds_made⟩, T.na_Rounds_era, T.na_Rounds_inside, T.na_Rounds_saw, T.na_Rounds_waits⟩ h
set_option maxHeartbeats 8000000 in
theorem ok_Rounds__Store_look_hand (T : Txt K mg D) : FnOk P w K mg base CX0 2 D.f_Store_look_hand D.d_Store_look_hand ["self", "hand"] (sp_look_hand D.c_Rounds) := by
  have G_is_whole : FnOk P w K mg base CX0 1 D.f_is_whole D.d_is_whole ["thing", "low", "high"] (sp_is_whole) := ok_is_whole T
  refine T.F_Store_look_hand.ok sc_Store_look_hand (fun vs H Q E h => ?_) (fun cdv A outer s H vs Q E hr h => ⟨t_Store_look_hand K (sp_is_whole), ?_, ?_⟩)
  · first | (obtain ⟨_, rfl, _⟩ := h; rfl) | (obtain ⟨_, _, rfl, _⟩ := h; rfl) | (obtain ⟨_, _, _, rfl, _⟩ := h; rfl) | (obtain ⟨_, _, _, _, rfl, _⟩ := h; rfl) | (obtain ⟨_, _, _, _, _, rfl, _⟩ := h; rfl) | (obtain ⟨_, _, _, _, _, _, rfl, _⟩ := h; rfl) | (obtain ⟨_, _, _, _, _, _, _, rfl, _⟩ := h; rfl) | (obtain ⟨_, _, _, _, _, _, _, _, rfl, _⟩ := h; rfl) | (obtain ⟨_, _, _, _, _, _, _, _, _, rfl, _⟩ := h; rfl) | (obtain ⟨_, _, _, _, _, _, _, _, _, _, rfl, _⟩ := h; rfl) | (obtain ⟨_, _, _, _, _, _, _, _, _, _, _, rfl, _⟩ := h; rfl) | (obtain ⟨_, _, _, _, _, _, _, _, _, _, _, _, rfl, _⟩ := h; rfl) | (obtain ⟨_, _, _, _, _, _, _, _, _, _, _, _, _, rfl, _⟩ := h; rfl) | (obtain ⟨_, _, _, _, _, _, _, _, _, _, _, _, _, _, rfl, _⟩ := h; rfl) | (obtain ⟨_, _, _, _, _, _, _, _, _, _, _, _, _, _, _, rfl, _⟩ := h; rfl)
  · have hu := hu_of hr
    exact pss_one (ps_if (pt_not (pt_val (pe_call G_is_whole (hr.mono (by decide)) (by rfl) T.g_is_whole T.F_is_whole.kp T.b_is_whole .nil pass0 (pa_cons (pv 1) (pa_cons (pe_int) (pa_cons (pe_op op_subI (pe_fld (pv 0) (by rfl)) (pe_int)) (pa_nil))))))) (pss_one (ps_never)) (pss_nil))
  · exact pure_look_hand ⟨T.cl_Rounds, T.na_Rounds_hands, T.na_Rounds_worth, T.na_Rounds_cells, T.na_Rounds_made⟩ h
set_option maxHeartbeats 8000000 in
theorem ok_Rounds__Rounds_enter (T : Txt K mg D) : FnOk P w K mg base CX0 3 D.f_Rounds_enter D.d_Rounds_enter ["self", "hand"] (sp_enter D.c_Rounds) := by
  have G_Rounds__Store_look_hand : FnOk P w K mg base CX0 2 D.f_Store_look_hand D.d_Store_look_hand ["self", "hand"] (sp_look_hand D.c_Rounds) := ok_Rounds__Store_look_hand T
  refine T.F_Rounds_enter.ok sc_Rounds_enter (fun vs H Q E h => ?_) (fun cdv A outer s H vs Q E hr h => ⟨t_Rounds_enter K D.c_Rounds (sp_look_hand D.c_Rounds), ?_, ?_⟩)
  · first | (obtain ⟨_, rfl, _⟩ := h; rfl) | (obtain ⟨_, _, rfl, _⟩ := h; rfl) | (obtain ⟨_, _, _, rfl, _⟩ := h; rfl) | (obtain ⟨_, _, _, _, rfl, _⟩ := h; rfl) | (obtain ⟨_, _, _, _, _, rfl, _⟩ := h; rfl) | (obtain ⟨_, _, _, _, _, _, rfl, _⟩ := h; rfl) | (obtain ⟨_, _, _, _, _, _, _, rfl, _⟩ := h; rfl) | (obtain ⟨_, _, _, _, _, _, _, _, rfl, _⟩ := h; rfl) | (obtain ⟨_, _, _, _, _, _, _, _, _, rfl, _⟩ := h; rfl) | (obtain ⟨_, _, _, _, _, _, _, _, _, _, rfl, _⟩ := h; rfl) | (obtain ⟨_, _, _, _, _, _, _, _, _, _, _, rfl, _⟩ := h; rfl) | (obtain ⟨_, _, _, _, _, _, _, _, _, _, _, _, rfl, _⟩ := h; rfl) | (obtain ⟨_, _, _, _, _, _, _, _, _, _, _, _, _, rfl, _⟩ := h; rfl) | (obtain ⟨_, _, _, _, _, _, _, _, _, _, _, _, _, _, rfl, _⟩ := h; rfl) | (obtain ⟨_, _, _, _, _, _, _, _, _, _, _, _, _, _, _, rfl, _⟩ := h; rfl)
  · have hu := hu_of hr
    exact pss_cons (ps_expr (pe_meth (pv 0) T.cl_Rounds T.me_Rounds_look_hand G_Rounds__Store_look_hand (hr.mono (by decide)) T.b_Store_look_hand .nil pass0 (pa_cons (pv 1) (pa_nil))))
      (pss_cons (ps_if (pt_cmp (pc_din hu (pv 1) (pe_fld (pv 0) (by rfl))) (by rfl)) (pss_one (ps_never)) (pss_nil))
      (pss_cons (ps_dput hu (pe_fld (pv 0) (by rfl)) (pv 1) (pe_fld (pv 0) (by rfl)) (by rfl))
      (pss_cons (ps_dput hu (pe_fld (pv 0) (by rfl)) (pv 1) (pe_lst (pa_nil)) (by rfl))
      (pss_one (ps_ret (pe_fld (pv 0) (by rfl)))))))
  · exact pure_enter ⟨⟨T.cl_Rounds, T.na_Rounds_hands, T.na_Rounds_worth, T.na_Rounds_cells, T.na_Rounds_made⟩, T.na_Rounds_era, T.na_Rounds_inside, T.na_Rounds_saw, T.na_Rounds_waits⟩ h
set_option maxHeartbeats 8000000 in
theorem ok_Rounds__Rounds_look_in (T : Txt K mg D) : FnOk P w K mg base CX0 3 D.f_Rounds_look_in D.d_Rounds_look_in ["self", "hand"] (sp_rlook_in D.c_Rounds) := by
  have G_Rounds__Store_look_hand : FnOk P w K mg base CX0 2 D.f_Store_look_hand D.d_Store_look_hand ["self", "hand"] (sp_look_hand D.c_Rounds) := ok_Rounds__Store_look_hand T
  refine T.F_Rounds_look_in.ok sc_Rounds_look_in (fun vs H Q E h => ?_) (fun cdv A outer s H vs Q E hr h => ⟨t_Rounds_look_in K D.c_Rounds (sp_look_hand D.c_Rounds), ?_, ?_⟩)
  · first | (obtain ⟨_, rfl, _⟩ := h; rfl) | (obtain ⟨_, _, rfl, _⟩ := h; rfl) | (obtain ⟨_, _, _, rfl, _⟩ := h; rfl) | (obtain ⟨_, _, _, _, rfl, _⟩ := h; rfl) | (obtain ⟨_, _, _, _, _, rfl, _⟩ := h; rfl) | (obtain ⟨_, _, _, _, _, _, rfl, _⟩ := h; rfl) | (obtain ⟨_, _, _, _, _, _, _, rfl, _⟩ := h; rfl) | (obtain ⟨_, _, _, _, _, _, _, _, rfl, _⟩ := h; rfl) | (obtain ⟨_, _, _, _, _, _, _, _, _, rfl, _⟩ := h; rfl) | (obtain ⟨_, _, _, _, _, _, _, _, _, _, rfl, _⟩ := h; rfl) | (obtain ⟨_, _, _, _, _, _, _, _, _, _, _, rfl, _⟩ := h; rfl) | (obtain ⟨_, _, _, _, _, _, _, _, _, _, _, _, rfl, _⟩ := h; rfl) | (obtain ⟨_, _, _, _, _, _, _, _, _, _, _, _, _, rfl, _⟩ := h; rfl) | (obtain ⟨_, _, _, _, _, _, _, _, _, _, _, _, _, _, rfl, _⟩ := h; rfl) | (obtain ⟨_, _, _, _, _, _, _, _, _, _, _, _, _, _, _, rfl, _⟩ := h; rfl)
  · have hu := hu_of hr
    exact pss_cons (ps_expr (pe_meth (pv 0) T.cl_Rounds T.me_Rounds_look_hand G_Rounds__Store_look_hand (hr.mono (by decide)) T.b_Store_look_hand .nil pass0 (pa_cons (pv 1) (pa_nil))))
      (pss_one (ps_if (pt_cmp (pc_dnotin hu (pv 1) (pe_fld (pv 0) (by rfl))) (by rfl)) (pss_one (ps_never)) (pss_nil)))
  · exact pure_rlook_in ⟨⟨T.cl_Rounds, T.na_Rounds_hands, T.na_Rounds_worth, T.na_Rounds_cells, T.na_Rounds_made⟩, T.na_Rounds_era, T.na_Rounds_inside, T.na_Rounds_saw, T.na_Rounds_waits⟩ h
set_option maxHeartbeats 8000000 in
theorem ok_Rounds__Store_look_cell (T : Txt K mg D) : FnOk P w K mg base CX0 2 D.f_Store_look_cell D.d_Store_look_cell ["self", "cell"] (sp_look_cell D.c_Rounds) := by
  have G_is_whole : FnOk P w K mg base CX0 1 D.f_is_whole D.d_is_whole ["thing", "low", "high"] (sp_is_whole) := ok_is_whole T
  refine T.F_Store_look_cell.ok sc_Store_look_cell (fun vs H Q E h => ?_) (fun cdv A outer s H vs Q E hr h => ⟨t_Store_look_cell K (sp_is_whole), ?_, ?_⟩)
  · first | (obtain ⟨_, rfl, _⟩ := h; rfl) | (obtain ⟨_, _, rfl, _⟩ := h; rfl) | (obtain ⟨_, _, _, rfl, _⟩ := h; rfl) | (obtain ⟨_, _, _, _, rfl, _⟩ := h; rfl) | (obtain ⟨_, _, _, _, _, rfl, _⟩ := h; rfl) | (obtain ⟨_, _, _, _, _, _, rfl, _⟩ := h; rfl) | (obtain ⟨_, _, _, _, _, _, _, rfl, _⟩ := h; rfl) | (obtain ⟨_, _, _, _, _, _, _, _, rfl, _⟩ := h; rfl) | (obtain ⟨_, _, _, _, _, _, _, _, _, rfl, _⟩ := h; rfl) | (obtain ⟨_, _, _, _, _, _, _, _, _, _, rfl, _⟩ := h; rfl) | (obtain ⟨_, _, _, _, _, _, _, _, _, _, _, rfl, _⟩ := h; rfl) | (obtain ⟨_, _, _, _, _, _, _, _, _, _, _, _, rfl, _⟩ := h; rfl) | (obtain ⟨_, _, _, _, _, _, _, _, _, _, _, _, _, rfl, _⟩ := h; rfl) | (obtain ⟨_, _, _, _, _, _, _, _, _, _, _, _, _, _, rfl, _⟩ := h; rfl) | (obtain ⟨_, _, _, _, _, _, _, _, _, _, _, _, _, _, _, rfl, _⟩ := h; rfl)
  · have hu := hu_of hr
    exact pss_one (ps_if (pt_not (pt_val (pe_call G_is_whole (hr.mono (by decide)) (by rfl) T.g_is_whole T.F_is_whole.kp T.b_is_whole .nil pass0 (pa_cons (pv 1) (pa_cons (pe_int) (pa_cons (pe_op op_subI (pe_callB call_lenQ (by rfl) T.m_len PySem.boot_len (pa_cons (pe_fld (pv 0) (by rfl)) (pa_nil))) (pe_int)) (pa_nil))))))) (pss_one (ps_never)) (pss_nil))
  · exact pure_look_cell ⟨T.cl_Rounds, T.na_Rounds_hands, T.na_Rounds_worth, T.na_Rounds_cells, T.na_Rounds_made⟩ h
set_option maxHeartbeats 8000000 in
theorem ok_Rounds__Rounds_look (T : Txt K mg D) : FnOk P w K mg base CX0 4 D.f_Rounds_look D.d_Rounds_look ["self", "hand", "cell"] (sp_look D.c_Rounds) := by
  have G_Rounds__Rounds_look_in : FnOk P w K mg base CX0 3 D.f_Rounds_look_in D.d_Rounds_look_in ["self", "hand"] (sp_rlook_in D.c_Rounds) := ok_Rounds__Rounds_look_in T
  have G_Rounds__Store_look_cell : FnOk P w K mg base CX0 2 D.f_Store_look_cell D.d_Store_look_cell ["self", "cell"] (sp_look_cell D.c_Rounds) := ok_Rounds__Store_look_cell T
  refine T.F_Rounds_look.ok sc_Rounds_look (fun vs H Q E h => ?_) (fun cdv A outer s H vs Q E hr h => ⟨t_Rounds_look K D.c_Rounds (sp_rlook_in D.c_Rounds) (sp_look_cell D.c_Rounds), ?_, ?_⟩)
  · first | (obtain ⟨_, rfl, _⟩ := h; rfl) | (obtain ⟨_, _, rfl, _⟩ := h; rfl) | (obtain ⟨_, _, _, rfl, _⟩ := h; rfl) | (obtain ⟨_, _, _, _, rfl, _⟩ := h; rfl) | (obtain ⟨_, _, _, _, _, rfl, _⟩ := h; rfl) | (obtain ⟨_, _, _, _, _, _, rfl, _⟩ := h; rfl) | (obtain ⟨_, _, _, _, _, _, _, rfl, _⟩ := h; rfl) | (obtain ⟨_, _, _, _, _, _, _, _, rfl, _⟩ := h; rfl) | (obtain ⟨_, _, _, _, _, _, _, _, _, rfl, _⟩ := h; rfl) | (obtain ⟨_, _, _, _, _, _, _, _, _, _, rfl, _⟩ := h; rfl) | (obtain ⟨_, _, _, _, _, _, _, _, _, _, _, rfl, _⟩ := h; rfl) | (obtain ⟨_, _, _, _, _, _, _, _, _, _, _, _, rfl, _⟩ := h; rfl) | (obtain ⟨_, _, _, _, _, _, _, _, _, _, _, _, _, rfl, _⟩ := h; rfl) | (obtain ⟨_, _, _, _, _, _, _, _, _, _, _, _, _, _, rfl, _⟩ := h; rfl) | (obtain ⟨_, _, _, _, _, _, _, _, _, _, _, _, _, _, _, rfl, _⟩ := h; rfl)
  · have hu := hu_of hr
    exact pss_cons (ps_expr (pe_meth (pv 0) T.cl_Rounds T.me_Rounds_look_in G_Rounds__Rounds_look_in (hr.mono (by decide)) T.b_Rounds_look_in .nil pass0 (pa_cons (pv 1) (pa_nil))))
      (pss_cons (ps_expr (pe_meth (pv 0) T.cl_Rounds T.me_Rounds_look_cell G_Rounds__Store_look_cell (hr.mono (by decide)) T.b_Store_look_cell .nil pass0 (pa_cons (pv 2) (pa_nil))))
      (pss_cons (ps_expr (pe_bm PySem.F.plainAttrs_list PySem.F.slot_list_append PySem.F.type_list_append mt_append (pe_dget hu (pe_fld (pv 0) (by rfl)) (pv 1) (fun _ _ => rfl)) (pa_cons (pe_ix ix_list (pe_fld (pv 0) (by rfl)) (pv 2) (fun _ _ => rfl)) (pa_nil))))
      (pss_one (ps_ret (pe_ix ix_list (pe_fld (pv 0) (by rfl)) (pv 2) (fun _ _ => rfl))))))
  · exact pure_look ⟨⟨T.cl_Rounds, T.na_Rounds_hands, T.na_Rounds_worth, T.na_Rounds_cells, T.na_Rounds_made⟩, T.na_Rounds_era, T.na_Rounds_inside, T.na_Rounds_saw, T.na_Rounds_waits⟩ h
set_option maxHeartbeats 8000000 in
theorem ok_Marks__Store_look_hand (T : Txt K mg D) : FnOk P w K mg base CX0 2 D.f_Store_look_hand D.d_Store_look_hand ["self", "hand"] (sp_look_hand D.c_Marks) := by
  have G_is_whole : FnOk P w K mg base CX0 1 D.f_is_whole D.d_is_whole ["thing", "low", "high"] (sp_is_whole) := ok_is_whole T
  refine T.F_Store_look_hand.ok sc_Store_look_hand (fun vs H Q E h => ?_) (fun cdv A outer s H vs Q E hr h => ⟨t_Store_look_hand K (sp_is_whole), ?_, ?_⟩)
  · first | (obtain ⟨_, rfl, _⟩ := h; rfl) | (obtain ⟨_, _, rfl, _⟩ := h; rfl) | (obtain ⟨_, _, _, rfl, _⟩ := h; rfl) | (obtain ⟨_, _, _, _, rfl, _⟩ := h; rfl) | (obtain ⟨_, _, _, _, _, rfl, _⟩ := h; rfl) | (obtain ⟨_, _, _, _, _, _, rfl, _⟩ := h; rfl) | (obtain ⟨_, _, _, _, _, _, _, rfl, _⟩ := h; rfl) | (obtain ⟨_, _, _, _, _, _, _, _, rfl, _⟩ := h; rfl) | (obtain ⟨_, _, _, _, _, _, _, _, _, rfl, _⟩ := h; rfl) | (obtain ⟨_, _, _, _, _, _, _, _, _, _, rfl, _⟩ := h; rfl) | (obtain ⟨_, _, _, _, _, _, _, _, _, _, _, rfl, _⟩ := h; rfl) | (obtain ⟨_, _, _, _, _, _, _, _, _, _, _, _, rfl, _⟩ := h; rfl) | (obtain ⟨_, _, _, _, _, _, _, _, _, _, _, _, _, rfl, _⟩ := h; rfl) | (obtain ⟨_, _, _, _, _, _, _, _, _, _, _, _, _, _, rfl, _⟩ := h; rfl) | (obtain ⟨_, _, _, _, _, _, _, _, _, _, _, _, _, _, _, rfl, _⟩ := h; rfl)
  · have hu := hu_of hr
    exact pss_one (ps_if (pt_not (pt_val (pe_call G_is_whole (hr.mono (by decide)) (by rfl) T.g_is_whole T.F_is_whole.kp T.b_is_whole .nil pass0 (pa_cons (pv 1) (pa_cons (pe_int) (pa_cons (pe_op op_subI (pe_fld (pv 0) (by rfl)) (pe_int)) (pa_nil))))))) (pss_one (ps_never)) (pss_nil))
  · exact pure_look_hand ⟨T.cl_Marks, T.na_Marks_hands, T.na_Marks_worth, T.na_Marks_cells, T.na_Marks_made⟩ h
set_option maxHeartbeats 8000000 in
theorem ok_Marks__Marks_look_mark (T : Txt K mg D) : FnOk P w K mg base CX0 3 D.f_Marks_look_mark D.d_Marks_look_mark ["self", "hand", "mark"] (sp_look_mark D.c_Marks) := by
  have G_Marks__Store_look_hand : FnOk P w K mg base CX0 2 D.f_Store_look_hand D.d_Store_look_hand ["self", "hand"] (sp_look_hand D.c_Marks) := ok_Marks__Store_look_hand T
  have G_is_whole : FnOk P w K mg base CX0 1 D.f_is_whole D.d_is_whole ["thing", "low", "high"] (sp_is_whole) := ok_is_whole T
  refine T.F_Marks_look_mark.ok sc_Marks_look_mark (fun vs H Q E h => ?_) (fun cdv A outer s H vs Q E hr h => ⟨t_Marks_look_mark K D.c_Marks (sp_look_hand D.c_Marks) (sp_is_whole), ?_, ?_⟩)
  · first | (obtain ⟨_, rfl, _⟩ := h; rfl) | (obtain ⟨_, _, rfl, _⟩ := h; rfl) | (obtain ⟨_, _, _, rfl, _⟩ := h; rfl) | (obtain ⟨_, _, _, _, rfl, _⟩ := h; rfl) | (obtain ⟨_, _, _, _, _, rfl, _⟩ := h; rfl) | (obtain ⟨_, _, _, _, _, _, rfl, _⟩ := h; rfl) | (obtain ⟨_, _, _, _, _, _, _, rfl, _⟩ := h; rfl) | (obtain ⟨_, _, _, _, _, _, _, _, rfl, _⟩ := h; rfl) | (obtain ⟨_, _, _, _, _, _, _, _, _, rfl, _⟩ := h; rfl) | (obtain ⟨_, _, _, _, _, _, _, _, _, _, rfl, _⟩ := h; rfl) | (obtain ⟨_, _, _, _, _, _, _, _, _, _, _, rfl, _⟩ := h; rfl) | (obtain ⟨_, _, _, _, _, _, _, _, _, _, _, _, rfl, _⟩ := h; rfl) | (obtain ⟨_, _, _, _, _, _, _, _, _, _, _, _, _, rfl, _⟩ := h; rfl) | (obtain ⟨_, _, _, _, _, _, _, _, _, _, _, _, _, _, rfl, _⟩ := h; rfl) | (obtain ⟨_, _, _, _, _, _, _, _, _, _, _, _, _, _, _, rfl, _⟩ := h; rfl)
  · have hu := hu_of hr
    exact pss_cons (ps_expr (pe_meth (pv 0) T.cl_Marks T.me_Marks_look_hand G_Marks__Store_look_hand (hr.mono (by decide)) T.b_Store_look_hand .nil pass0 (pa_cons (pv 1) (pa_nil))))
      (pss_one (ps_if (pt_not (pt_val (pe_call G_is_whole (hr.mono (by decide)) (by rfl) T.g_is_whole T.F_is_whole.kp T.b_is_whole .nil pass0 (pa_cons (pv 2) (pa_cons (pe_int) (pa_cons (pe_op op_subI (pe_glob (by rfl) T.k_MARKS ⟨_, rfl⟩) (pe_int)) (pa_nil))))))) (pss_one (ps_never)) (pss_nil)))
  · exact pure_look_mark ⟨⟨T.cl_Marks, T.na_Marks_hands, T.na_Marks_worth, T.na_Marks_cells, T.na_Marks_made⟩, T.na_Marks_marks, T.na_Marks_waits⟩ h
set_option maxHeartbeats 8000000 in
theorem ok_Marks__Store_look_cell (T : Txt K mg D) : FnOk P w K mg base CX0 2 D.f_Store_look_cell D.d_Store_look_cell ["self", "cell"] (sp_look_cell D.c_Marks) := by
  have G_is_whole : FnOk P w K mg base CX0 1 D.f_is_whole D.d_is_whole ["thing", "low", "high"] (sp_is_whole) := ok_is_whole T
  refine T.F_Store_look_cell.ok sc_Store_look_cell (fun vs H Q E h => ?_) (fun cdv A outer s H vs Q E hr h => ⟨t_Store_look_cell K (sp_is_whole), ?_, ?_⟩)
  · first | (obtain ⟨_, rfl, _⟩ := h; rfl) | (obtain ⟨_, _, rfl, _⟩ := h; rfl) | (obtain ⟨_, _, _, rfl, _⟩ := h; rfl) | (obtain ⟨_, _, _, _, rfl, _⟩ := h; rfl) | (obtain ⟨_, _, _, _, _, rfl, _⟩ := h; rfl) | (obtain ⟨_, _, _, _, _, _, rfl, _⟩ := h; rfl) | (obtain ⟨_, _, _, _, _, _, _, rfl, _⟩ := h; rfl) | (obtain ⟨_, _, _, _, _, _, _, _, rfl, _⟩ := h; rfl) | (obtain ⟨_, _, _, _, _, _, _, _, _, rfl, _⟩ := h; rfl) | (obtain ⟨_, _, _, _, _, _, _, _, _, _, rfl, _⟩ := h; rfl) | (obtain ⟨_, _, _, _, _, _, _, _, _, _, _, rfl, _⟩ := h; rfl) | (obtain ⟨_, _, _, _, _, _, _, _, _, _, _, _, rfl, _⟩ := h; rfl) | (obtain ⟨_, _, _, _, _, _, _, _, _, _, _, _, _, rfl, _⟩ := h; rfl) | (obtain ⟨_, _, _, _, _, _, _, _, _, _, _, _, _, _, rfl, _⟩ := h; rfl) | (obtain ⟨_, _, _, _, _, _, _, _, _, _, _, _, _, _, _, rfl, _⟩ := h; rfl)
  · have hu := hu_of hr
    exact pss_one (ps_if (pt_not (pt_val (pe_call G_is_whole (hr.mono (by decide)) (by rfl) T.g_is_whole T.F_is_whole.kp T.b_is_whole .nil pass0 (pa_cons (pv 1) (pa_cons (pe_int) (pa_cons (pe_op op_subI (pe_callB call_lenQ (by rfl) T.m_len PySem.boot_len (pa_cons (pe_fld (pv 0) (by rfl)) (pa_nil))) (pe_int)) (pa_nil))))))) (pss_one (ps_never)) (pss_nil))
  · exact pure_look_cell ⟨T.cl_Marks, T.na_Marks_hands, T.na_Marks_worth, T.na_Marks_cells, T.na_Marks_made⟩ h
set_option maxHeartbeats 8000000 in
theorem ok_Marks__Marks_fetch (T : Txt K mg D) : FnOk P w K mg base CX0 4 D.f_Marks_fetch D.d_Marks_fetch ["self", "hand", "mark", "cell"] (sp_fetch D.c_Marks) := by
  have G_Marks__Marks_look_mark : FnOk P w K mg base CX0 3 D.f_Marks_look_mark D.d_Marks_look_mark ["self", "hand", "mark"] (sp_look_mark D.c_Marks) := ok_Marks__Marks_look_mark T
  have G_Marks__Store_look_cell : FnOk P w K mg base CX0 2 D.f_Store_look_cell D.d_Store_look_cell ["self", "cell"] (sp_look_cell D.c_Marks) := ok_Marks__Store_look_cell T
  refine T.F_Marks_fetch.ok sc_Marks_fetch (fun vs H Q E h => ?_) (fun cdv A outer s H vs Q E hr h => ⟨t_Marks_fetch K D.c_Marks (sp_look_mark D.c_Marks) (sp_look_cell D.c_Marks), ?_, ?_⟩)
  · first | (obtain ⟨_, rfl, _⟩ := h; rfl) | (obtain ⟨_, _, rfl, _⟩ := h; rfl) | (obtain ⟨_, _, _, rfl, _⟩ := h; rfl) | (obtain ⟨_, _, _, _, rfl, _⟩ := h; rfl) | (obtain ⟨_, _, _, _, _, rfl, _⟩ := h; rfl) | (obtain ⟨_, _, _, _, _, _, rfl, _⟩ := h; rfl) | (obtain ⟨_, _, _, _, _, _, _, rfl, _⟩ := h; rfl) | (obtain ⟨_, _, _, _, _, _, _, _, rfl, _⟩ := h; rfl) | (obtain ⟨_, _, _, _, _, _, _, _, _, rfl, _⟩ := h; rfl) | (obtain ⟨_, _, _, _, _, _, _, _, _, _, rfl, _⟩ := h; rfl) | (obtain ⟨_, _, _, _, _, _, _, _, _, _, _, rfl, _⟩ := h; rfl) | (obtain ⟨_, _, _, _, _, _, _, _, _, _, _, _, rfl, _⟩ := h; rfl) | (obtain ⟨_, _, _, _, _, _, _, _, _, _, _, _, _, rfl, _⟩ := h; rfl) | (obtain ⟨_, _, _, _, _, _, _, _, _, _, _, _, _, _, rfl, _⟩ := h; rfl) | (obtain ⟨_, _, _, _, _, _, _, _, _, _, _, _, _, _, _, rfl, _⟩ := h; rfl)
  · have hu := hu_of hr
    exact pss_cons (ps_expr (pe_meth (pv 0) T.cl_Marks T.me_Marks_look_mark G_Marks__Marks_look_mark (hr.mono (by decide)) T.b_Marks_look_mark .nil pass0 (pa_cons (pv 1) (pa_cons (pv 2) (pa_nil)))))
      (pss_cons (ps_expr (pe_meth (pv 0) T.cl_Marks T.me_Marks_look_cell G_Marks__Store_look_cell (hr.mono (by decide)) T.b_Store_look_cell .nil pass0 (pa_cons (pv 3) (pa_nil))))
      (pss_cons (ps_dput hu (pe_fld (pv 0) (by rfl)) (pe_tup (pa_cons (pv 1) (pa_cons (pv 2) (pa_nil)))) (pe_tup (pa_cons (pe_str) (pa_cons (pv 3) (pa_cons (pe_ix ix_list (pe_fld (pv 0) (by rfl)) (pv 3) (fun _ _ => rfl)) (pa_nil))))) (by rfl))
      (pss_one (ps_ret (pe_ix ix_list (pe_fld (pv 0) (by rfl)) (pv 3) (fun _ _ => rfl))))))
  · exact pure_fetch ⟨⟨T.cl_Marks, T.na_Marks_hands, T.na_Marks_worth, T.na_Marks_cells, T.na_Marks_made⟩, T.na_Marks_marks, T.na_Marks_waits⟩ h
set_option maxHeartbeats 8000000 in
theorem ok_Marks__Marks_state_of (T : Txt K mg D) : FnOk P w K mg base CX0 4 D.f_Marks_state_of D.d_Marks_state_of ["self", "hand", "mark", "states"] (sp_state_of D.c_Marks) := by
  have G_Marks__Marks_look_mark : FnOk P w K mg base CX0 3 D.f_Marks_look_mark D.d_Marks_look_mark ["self", "hand", "mark"] (sp_look_mark D.c_Marks) := ok_Marks__Marks_look_mark T
  refine T.F_Marks_state_of.ok sc_Marks_state_of (fun vs H Q E h => ?_) (fun cdv A outer s H vs Q E hr h => ⟨t_Marks_state_of K D.c_Marks (sp_look_mark D.c_Marks), ?_, ?_⟩)
  · first | (obtain ⟨_, rfl, _⟩ := h; rfl) | (obtain ⟨_, _, rfl, _⟩ := h; rfl) | (obtain ⟨_, _, _, rfl, _⟩ := h; rfl) | (obtain ⟨_, _, _, _, rfl, _⟩ := h; rfl) | (obtain ⟨_, _, _, _, _, rfl, _⟩ := h; rfl) | (obtain ⟨_, _, _, _, _, _, rfl, _⟩ := h; rfl) | (obtain ⟨_, _, _, _, _, _, _, rfl, _⟩ := h; rfl) | (obtain ⟨_, _, _, _, _, _, _, _, rfl, _⟩ := h; rfl) | (obtain ⟨_, _, _, _, _, _, _, _, _, rfl, _⟩ := h; rfl) | (obtain ⟨_, _, _, _, _, _, _, _, _, _, rfl, _⟩ := h; rfl) | (obtain ⟨_, _, _, _, _, _, _, _, _, _, _, rfl, _⟩ := h; rfl) | (obtain ⟨_, _, _, _, _, _, _, _, _, _, _, _, rfl, _⟩ := h; rfl) | (obtain ⟨_, _, _, _, _, _, _, _, _, _, _, _, _, rfl, _⟩ := h; rfl) | (obtain ⟨_, _, _, _, _, _, _, _, _, _, _, _, _, _, rfl, _⟩ := h; rfl) | (obtain ⟨_, _, _, _, _, _, _, _, _, _, _, _, _, _, _, rfl, _⟩ := h; rfl)
  · have hu := hu_of hr
    exact pss_cons (ps_expr (pe_meth (pv 0) T.cl_Marks T.me_Marks_look_mark G_Marks__Marks_look_mark (hr.mono (by decide)) T.b_Marks_look_mark .nil pass0 (pa_cons (pv 1) (pa_cons (pv 2) (pa_nil)))))
      (pss_cons (ps_set (i := 4) sc_Marks_state_of.nd rfl (by first | exact Or.inl rfl | exact Or.inr rfl) (pe_dget2 hu (pe_fld (pv 0) (by rfl)) (pe_tup (pa_cons (pv 1) (pa_cons (pv 2) (pa_nil)))) (pe_tup (pa_cons (pe_str) (pa_cons (pe_int) (pa_cons (pe_int) (pa_nil))))) ⟨rfl, rfl, rfl, rfl⟩))
      (pss_cons (ps_if (pt_cmpR op_notIn_seq (pe_ix ix_tup (pv 4) (pe_int) (fun _ _ => rfl)) (pv 3) (by rfl)) (pss_one (ps_never)) (pss_nil))
      (pss_one (ps_ret (pv 4)))))
  · exact pure_state_of ⟨⟨T.cl_Marks, T.na_Marks_hands, T.na_Marks_worth, T.na_Marks_cells, T.na_Marks_made⟩, T.na_Marks_marks, T.na_Marks_waits⟩ h
set_option maxHeartbeats 8000000 in
theorem ok_Marks__Marks_set_mark (T : Txt K mg D) : FnOk P w K mg base CX0 5 D.f_Marks_set_mark D.d_Marks_set_mark ["self", "hand", "mark"] (sp_set_mark D.c_Marks) := by
  have G_Marks__Marks_state_of : FnOk P w K mg base CX0 4 D.f_Marks_state_of D.d_Marks_state_of ["self", "hand", "mark", "states"] (sp_state_of D.c_Marks) := ok_Marks__Marks_state_of T
  refine T.F_Marks_set_mark.ok sc_Marks_set_mark (fun vs H Q E h => ?_) (fun cdv A outer s H vs Q E hr h => ⟨t_Marks_set_mark K D.c_Marks (sp_state_of D.c_Marks), ?_, ?_⟩)
  · first | (obtain ⟨_, rfl, _⟩ := h; rfl) | (obtain ⟨_, _, rfl, _⟩ := h; rfl) | (obtain ⟨_, _, _, rfl, _⟩ := h; rfl) | (obtain ⟨_, _, _, _, rfl, _⟩ := h; rfl) | (obtain ⟨_, _, _, _, _, rfl, _⟩ := h; rfl) | (obtain ⟨_, _, _, _, _, _, rfl, _⟩ := h; rfl) | (obtain ⟨_, _, _, _, _, _, _, rfl, _⟩ := h; rfl) | (obtain ⟨_, _, _, _, _, _, _, _, rfl, _⟩ := h; rfl) | (obtain ⟨_, _, _, _, _, _, _, _, _, rfl, _⟩ := h; rfl) | (obtain ⟨_, _, _, _, _, _, _, _, _, _, rfl, _⟩ := h; rfl) | (obtain ⟨_, _, _, _, _, _, _, _, _, _, _, rfl, _⟩ := h; rfl) | (obtain ⟨_, _, _, _, _, _, _, _, _, _, _, _, rfl, _⟩ := h; rfl) | (obtain ⟨_, _, _, _, _, _, _, _, _, _, _, _, _, rfl, _⟩ := h; rfl) | (obtain ⟨_, _, _, _, _, _, _, _, _, _, _, _, _, _, rfl, _⟩ := h; rfl) | (obtain ⟨_, _, _, _, _, _, _, _, _, _, _, _, _, _, _, rfl, _⟩ := h; rfl)
  · have hu := hu_of hr
    exact pss_cons (ps_asg (pe_meth (pv 0) T.cl_Marks T.me_Marks_state_of G_Marks__Marks_state_of (hr.mono (by decide)) T.b_Marks_state_of .nil pass0 (pa_cons (pv 1) (pa_cons (pv 2) (pa_cons (pe_tup (pa_cons (pe_str) (pa_nil))) (pa_nil))))) (pg_tup rfl (pgs_cons (pg_name (i := 3) sc_Marks_set_mark.nd rfl (by first | exact Or.inl rfl | exact Or.inr rfl)) (pgs_cons (pg_name (i := 4) sc_Marks_set_mark.nd rfl (by first | exact Or.inl rfl | exact Or.inr rfl)) (pgs_cons (pg_name (i := 5) sc_Marks_set_mark.nd rfl (by first | exact Or.inl rfl | exact Or.inr rfl)) (pgs_nil))))))
      (pss_one (ps_dput hu (pe_fld (pv 0) (by rfl)) (pe_tup (pa_cons (pv 1) (pa_cons (pv 2) (pa_nil)))) (pe_tup (pa_cons (pe_str) (pa_cons (pv 4) (pa_cons (pv 5) (pa_nil))))) (by rfl)))
  · exact pure_set_mark ⟨⟨T.cl_Marks, T.na_Marks_hands, T.na_Marks_worth, T.na_Marks_cells, T.na_Marks_made⟩, T.na_Marks_marks, T.na_Marks_waits⟩ h
set_option maxHeartbeats 8000000 in
theorem ok_Marks__Marks_sure (T : Txt K mg D) : FnOk P w K mg base CX0 5 D.f_Marks_sure D.d_Marks_sure ["self", "hand", "mark"] (sp_sure D.c_Marks) := by
  have G_Marks__Marks_state_of : FnOk P w K mg base CX0 4 D.f_Marks_state_of D.d_Marks_state_of ["self", "hand", "mark", "states"] (sp_state_of D.c_Marks) := ok_Marks__Marks_state_of T
  refine T.F_Marks_sure.ok sc_Marks_sure (fun vs H Q E h => ?_) (fun cdv A outer s H vs Q E hr h => ⟨t_Marks_sure K D.c_Marks (sp_state_of D.c_Marks), ?_, ?_⟩)
  · first | (obtain ⟨_, rfl, _⟩ := h; rfl) | (obtain ⟨_, _, rfl, _⟩ := h; rfl) | (obtain ⟨_, _, _, rfl, _⟩ := h; rfl) | (obtain ⟨_, _, _, _, rfl, _⟩ := h; rfl) | (obtain ⟨_, _, _, _, _, rfl, _⟩ := h; rfl) | (obtain ⟨_, _, _, _, _, _, rfl, _⟩ := h; rfl) | (obtain ⟨_, _, _, _, _, _, _, rfl, _⟩ := h; rfl) | (obtain ⟨_, _, _, _, _, _, _, _, rfl, _⟩ := h; rfl) | (obtain ⟨_, _, _, _, _, _, _, _, _, rfl, _⟩ := h; rfl) | (obtain ⟨_, _, _, _, _, _, _, _, _, _, rfl, _⟩ := h; rfl) | (obtain ⟨_, _, _, _, _, _, _, _, _, _, _, rfl, _⟩ := h; rfl) | (obtain ⟨_, _, _, _, _, _, _, _, _, _, _, _, rfl, _⟩ := h; rfl) | (obtain ⟨_, _, _, _, _, _, _, _, _, _, _, _, _, rfl, _⟩ := h; rfl) | (obtain ⟨_, _, _, _, _, _, _, _, _, _, _, _, _, _, rfl, _⟩ := h; rfl) | (obtain ⟨_, _, _, _, _, _, _, _, _, _, _, _, _, _, _, rfl, _⟩ := h; rfl)
  · have hu := hu_of hr
    exact pss_cons (ps_asg (pe_meth (pv 0) T.cl_Marks T.me_Marks_state_of G_Marks__Marks_state_of (hr.mono (by decide)) T.b_Marks_state_of .nil pass0 (pa_cons (pv 1) (pa_cons (pv 2) (pa_cons (pe_tup (pa_cons (pe_str) (pa_nil))) (pa_nil))))) (pg_tup rfl (pgs_cons (pg_name (i := 3) sc_Marks_sure.nd rfl (by first | exact Or.inl rfl | exact Or.inr rfl)) (pgs_cons (pg_name (i := 4) sc_Marks_sure.nd rfl (by first | exact Or.inl rfl | exact Or.inr rfl)) (pgs_cons (pg_name (i := 5) sc_Marks_sure.nd rfl (by first | exact Or.inl rfl | exact Or.inr rfl)) (pgs_nil))))))
      (pss_cons (ps_if (pt_cmpR op_ne (pe_ix ix_list (pe_fld (pv 0) (by rfl)) (pv 4) (fun _ _ => rfl)) (pv 5) (nomark _)) (pss_cons (ps_expr (pe_dpopT hu (pe_fld (pv 0) (by rfl)) (pe_tup (pa_cons (pv 1) (pa_cons (pv 2) (pa_nil)))) ⟨rfl, rfl, rfl, rfl⟩))
      (pss_one (ps_ret (pe_bl)))) (pss_nil))
      (pss_cons (ps_dput hu (pe_fld (pv 0) (by rfl)) (pe_tup (pa_cons (pv 1) (pa_cons (pv 2) (pa_nil)))) (pe_tup (pa_cons (pe_str) (pa_cons (pv 4) (pa_cons (pv 5) (pa_nil))))) (by rfl))
      (pss_one (ps_ret (pe_bl)))))
  · exact pure_sure ⟨⟨T.cl_Marks, T.na_Marks_hands, T.na_Marks_worth, T.na_Marks_cells, T.na_Marks_made⟩, T.na_Marks_marks, T.na_Marks_waits⟩ h
set_option maxHeartbeats 8000000 in
theorem ok_Counts__Store_look_hand (T : Txt K mg D) : FnOk P w K mg base CX0 2 D.f_Store_look_hand D.d_Store_look_hand ["self", "hand"] (sp_look_hand D.c_Counts) := by
  have G_is_whole : FnOk P w K mg base CX0 1 D.f_is_whole D.d_is_whole ["thing", "low", "high"] (sp_is_whole) := ok_is_whole T
  refine T.F_Store_look_hand.ok sc_Store_look_hand (fun vs H Q E h => ?_) (fun cdv A outer s H vs Q E hr h => ⟨t_Store_look_hand K (sp_is_whole), ?_, ?_⟩)
  · first | (obtain ⟨_, rfl, _⟩ := h; rfl) | (obtain ⟨_, _, rfl, _⟩ := h; rfl) | (obtain ⟨_, _, _, rfl, _⟩ := h; rfl) | (obtain ⟨_, _, _, _, rfl, _⟩ := h; rfl) | (obtain ⟨_, _, _, _, _, rfl, _⟩ := h; rfl) | (obtain ⟨_, _, _, _, _, _, rfl, _⟩ := h; rfl) | (obtain ⟨_, _, _, _, _, _, _, rfl, _⟩ := h; rfl) | (obtain ⟨_, _, _, _, _, _, _, _, rfl, _⟩ := h; rfl) | (obtain ⟨_, _, _, _, _, _, _, _, _, rfl, _⟩ := h; rfl) | (obtain ⟨_, _, _, _, _, _, _, _, _, _, rfl, _⟩ := h; rfl) | (obtain ⟨_, _, _, _, _, _, _, _, _, _, _, rfl, _⟩ := h; rfl) | (obtain ⟨_, _, _, _, _, _, _, _, _, _, _, _, rfl, _⟩ := h; rfl) | (obtain ⟨_, _, _, _, _, _, _, _, _, _, _, _, _, rfl, _⟩ := h; rfl) | (obtain ⟨_, _, _, _, _, _, _, _, _, _, _, _, _, _, rfl, _⟩ := h; rfl) | (obtain ⟨_, _, _, _, _, _, _, _, _, _, _, _, _, _, _, rfl, _⟩ := h; rfl)
  · have hu := hu_of hr
    exact pss_one (ps_if (pt_not (pt_val (pe_call G_is_whole (hr.mono (by decide)) (by rfl) T.g_is_whole T.F_is_whole.kp T.b_is_whole .nil pass0 (pa_cons (pv 1) (pa_cons (pe_int) (pa_cons (pe_op op_subI (pe_fld (pv 0) (by rfl)) (pe_int)) (pa_nil))))))) (pss_one (ps_never)) (pss_nil))
  · exact pure_look_hand ⟨T.cl_Counts, T.na_Counts_hands, T.na_Counts_worth, T.na_Counts_cells, T.na_Counts_made⟩ h
set_option maxHeartbeats 8000000 in
theorem ok_Counts__Store_look_cell (T : Txt K mg D) : FnOk P w K mg base CX0 2 D.f_Store_look_cell D.d_Store_look_cell ["self", "cell"] (sp_look_cell D.c_Counts) := by
  have G_is_whole : FnOk P w K mg base CX0 1 D.f_is_whole D.d_is_whole ["thing", "low", "high"] (sp_is_whole) := ok_is_whole T
  refine T.F_Store_look_cell.ok sc_Store_look_cell (fun vs H Q E h => ?_) (fun cdv A outer s H vs Q E hr h => ⟨t_Store_look_cell K (sp_is_whole), ?_, ?_⟩)
  · first | (obtain ⟨_, rfl, _⟩ := h; rfl) | (obtain ⟨_, _, rfl, _⟩ := h; rfl) | (obtain ⟨_, _, _, rfl, _⟩ := h; rfl) | (obtain ⟨_, _, _, _, rfl, _⟩ := h; rfl) | (obtain ⟨_, _, _, _, _, rfl, _⟩ := h; rfl) | (obtain ⟨_, _, _, _, _, _, rfl, _⟩ := h; rfl) | (obtain ⟨_, _, _, _, _, _, _, rfl, _⟩ := h; rfl) | (obtain ⟨_, _, _, _, _, _, _, _, rfl, _⟩ := h; rfl) | (obtain ⟨_, _, _, _, _, _, _, _, _, rfl, _⟩ := h; rfl) | (obtain ⟨_, _, _, _, _, _, _, _, _, _, rfl, _⟩ := h; rfl) | (obtain ⟨_, _, _, _, _, _, _, _, _, _, _, rfl, _⟩ := h; rfl) | (obtain ⟨_, _, _, _, _, _, _, _, _, _, _, _, rfl, _⟩ := h; rfl) | (obtain ⟨_, _, _, _, _, _, _, _, _, _, _, _, _, rfl, _⟩ := h; rfl) | (obtain ⟨_, _, _, _, _, _, _, _, _, _, _, _, _, _, rfl, _⟩ := h; rfl) | (obtain ⟨_, _, _, _, _, _, _, _, _, _, _, _, _, _, _, rfl, _⟩ := h; rfl)
  · have hu := hu_of hr
    exact pss_one (ps_if (pt_not (pt_val (pe_call G_is_whole (hr.mono (by decide)) (by rfl) T.g_is_whole T.F_is_whole.kp T.b_is_whole .nil pass0 (pa_cons (pv 1) (pa_cons (pe_int) (pa_cons (pe_op op_subI (pe_callB call_lenQ (by rfl) T.m_len PySem.boot_len (pa_cons (pe_fld (pv 0) (by rfl)) (pa_nil))) (pe_int)) (pa_nil))))))) (pss_one (ps_never)) (pss_nil))
  · exact pure_look_cell ⟨T.cl_Counts, T.na_Counts_hands, T.na_Counts_worth, T.na_Counts_cells, T.na_Counts_made⟩ h
set_option maxHeartbeats 8000000 in
theorem ok_Counts__Counts_hold (T : Txt K mg D) : FnOk P w K mg base CX0 3 D.f_Counts_hold D.d_Counts_hold ["self", "hand", "cell"] (sp_hold D.c_Counts) := by
  have G_Counts__Store_look_hand : FnOk P w K mg base CX0 2 D.f_Store_look_hand D.d_Store_look_hand ["self", "hand"] (sp_look_hand D.c_Counts) := ok_Counts__Store_look_hand T
  have G_Counts__Store_look_cell : FnOk P w K mg base CX0 2 D.f_Store_look_cell D.d_Store_look_cell ["self", "cell"] (sp_look_cell D.c_Counts) := ok_Counts__Store_look_cell T
  refine T.F_Counts_hold.ok sc_Counts_hold (fun vs H Q E h => ?_) (fun cdv A outer s H vs Q E hr h => ⟨t_Counts_hold K D.c_Counts (sp_look_hand D.c_Counts) (sp_look_cell D.c_Counts), ?_, ?_⟩)
  · first | (obtain ⟨_, rfl, _⟩ := h; rfl) | (obtain ⟨_, _, rfl, _⟩ := h; rfl) | (obtain ⟨_, _, _, rfl, _⟩ := h; rfl) | (obtain ⟨_, _, _, _, rfl, _⟩ := h; rfl) | (obtain ⟨_, _, _, _, _, rfl, _⟩ := h; rfl) | (obtain ⟨_, _, _, _, _, _, rfl, _⟩ := h; rfl) | (obtain ⟨_, _, _, _, _, _, _, rfl, _⟩ := h; rfl) | (obtain ⟨_, _, _, _, _, _, _, _, rfl, _⟩ := h; rfl) | (obtain ⟨_, _, _, _, _, _, _, _, _, rfl, _⟩ := h; rfl) | (obtain ⟨_, _, _, _, _, _, _, _, _, _, rfl, _⟩ := h; rfl) | (obtain ⟨_, _, _, _, _, _, _, _, _, _, _, rfl, _⟩ := h; rfl) | (obtain ⟨_, _, _, _, _, _, _, _, _, _, _, _, rfl, _⟩ := h; rfl) | (obtain ⟨_, _, _, _, _, _, _, _, _, _, _, _, _, rfl, _⟩ := h; rfl) | (obtain ⟨_, _, _, _, _, _, _, _, _, _, _, _, _, _, rfl, _⟩ := h; rfl) | (obtain ⟨_, _, _, _, _, _, _, _, _, _, _, _, _, _, _, rfl, _⟩ := h; rfl)
  · have hu := hu_of hr
    exact pss_cons (ps_expr (pe_meth (pv 0) T.cl_Counts T.me_Counts_look_hand G_Counts__Store_look_hand (hr.mono (by decide)) T.b_Store_look_hand .nil pass0 (pa_cons (pv 1) (pa_nil))))
      (pss_cons (ps_expr (pe_meth (pv 0) T.cl_Counts T.me_Counts_look_cell G_Counts__Store_look_cell (hr.mono (by decide)) T.b_Store_look_cell .nil pass0 (pa_cons (pv 2) (pa_nil))))
      (pss_cons (ps_set (i := 3) sc_Counts_hold.nd rfl (by first | exact Or.inl rfl | exact Or.inr rfl) (pe_ix ix_list (pe_fld (pv 0) (by rfl)) (pv 2) (fun _ _ => rfl)))
      (pss_cons (ps_dput hu (pe_fld (pv 0) (by rfl)) (pe_tup (pa_cons (pv 1) (pa_cons (pv 3) (pa_nil)))) (pe_op op_addI (pe_dget2 hu (pe_fld (pv 0) (by rfl)) (pe_tup (pa_cons (pv 1) (pa_cons (pv 3) (pa_nil)))) (pe_int) ⟨rfl, rfl, rfl, rfl⟩) (pe_int)) (by rfl))
      (pss_one (ps_ret (pv 3))))))
  · exact pure_hold ⟨⟨T.cl_Counts, T.na_Counts_hands, T.na_Counts_worth, T.na_Counts_cells, T.na_Counts_made⟩, T.na_Counts_held⟩ h
set_option maxHeartbeats 8000000 in
theorem ok_Versions__Versions_look_hand (T : Txt K mg D) : FnOk P w K mg base CX0 2 D.f_Versions_look_hand D.d_Versions_look_hand ["self", "hand"] (sp_vlook_hand D.c_Versions) := by
  have G_is_whole : FnOk P w K mg base CX0 1 D.f_is_whole D.d_is_whole ["thing", "low", "high"] (sp_is_whole) := ok_is_whole T
  refine T.F_Versions_look_hand.ok sc_Versions_look_hand (fun vs H Q E h => ?_) (fun cdv A outer s H vs Q E hr h => ⟨t_Versions_look_hand K (sp_is_whole), ?_, ?_⟩)
  · first | (obtain ⟨_, rfl, _⟩ := h; rfl) | (obtain ⟨_, _, rfl, _⟩ := h; rfl) | (obtain ⟨_, _, _, rfl, _⟩ := h; rfl) | (obtain ⟨_, _, _, _, rfl, _⟩ := h; rfl) | (obtain ⟨_, _, _, _, _, rfl, _⟩ := h; rfl) | (obtain ⟨_, _, _, _, _, _, rfl, _⟩ := h; rfl) | (obtain ⟨_, _, _, _, _, _, _, rfl, _⟩ := h; rfl) | (obtain ⟨_, _, _, _, _, _, _, _, rfl, _⟩ := h; rfl) | (obtain ⟨_, _, _, _, _, _, _, _, _, rfl, _⟩ := h; rfl) | (obtain ⟨_, _, _, _, _, _, _, _, _, _, rfl, _⟩ := h; rfl) | (obtain ⟨_, _, _, _, _, _, _, _, _, _, _, rfl, _⟩ := h; rfl) | (obtain ⟨_, _, _, _, _, _, _, _, _, _, _, _, rfl, _⟩ := h; rfl) | (obtain ⟨_, _, _, _, _, _, _, _, _, _, _, _, _, rfl, _⟩ := h; rfl) | (obtain ⟨_, _, _, _, _, _, _, _, _, _, _, _, _, _, rfl, _⟩ := h; rfl) | (obtain ⟨_, _, _, _, _, _, _, _, _, _, _, _, _, _, _, rfl, _⟩ := h; rfl)
  · have hu := hu_of hr
    exact pss_one (ps_if (pt_not (pt_val (pe_call G_is_whole (hr.mono (by decide)) (by rfl) T.g_is_whole T.F_is_whole.kp T.b_is_whole .nil pass0 (pa_cons (pv 1) (pa_cons (pe_int) (pa_cons (pe_op op_subI (pe_fld (pv 0) (by rfl)) (pe_int)) (pa_nil))))))) (pss_one (ps_never)) (pss_nil))
  · exact pure_vlook_hand ⟨T.cl_Versions, T.na_Versions_hands, T.na_Versions_rows, T.na_Versions_version, T.na_Versions_begun, T.na_Versions_asked⟩ h
set_option maxHeartbeats 8000000 in
theorem ok_Versions__Versions_begin (T : Txt K mg D) : FnOk P w K mg base CX0 3 D.f_Versions_begin D.d_Versions_begin ["self", "hand"] (sp_vbegin D.c_Versions) := by
  have G_Versions__Versions_look_hand : FnOk P w K mg base CX0 2 D.f_Versions_look_hand D.d_Versions_look_hand ["self", "hand"] (sp_vlook_hand D.c_Versions) := ok_Versions__Versions_look_hand T
  refine T.F_Versions_begin.ok sc_Versions_begin (fun vs H Q E h => ?_) (fun cdv A outer s H vs Q E hr h => ⟨t_Versions_begin K D.c_Versions (sp_vlook_hand D.c_Versions), ?_, ?_⟩)
  · first | (obtain ⟨_, rfl, _⟩ := h; rfl) | (obtain ⟨_, _, rfl, _⟩ := h; rfl) | (obtain ⟨_, _, _, rfl, _⟩ := h; rfl) | (obtain ⟨_, _, _, _, rfl, _⟩ := h; rfl) | (obtain ⟨_, _, _, _, _, rfl, _⟩ := h; rfl) | (obtain ⟨_, _, _, _, _, _, rfl, _⟩ := h; rfl) | (obtain ⟨_, _, _, _, _, _, _, rfl, _⟩ := h; rfl) | (obtain ⟨_, _, _, _, _, _, _, _, rfl, _⟩ := h; rfl) | (obtain ⟨_, _, _, _, _, _, _, _, _, rfl, _⟩ := h; rfl) | (obtain ⟨_, _, _, _, _, _, _, _, _, _, rfl, _⟩ := h; rfl) | (obtain ⟨_, _, _, _, _, _, _, _, _, _, _, rfl, _⟩ := h; rfl) | (obtain ⟨_, _, _, _, _, _, _, _, _, _, _, _, rfl, _⟩ := h; rfl) | (obtain ⟨_, _, _, _, _, _, _, _, _, _, _, _, _, rfl, _⟩ := h; rfl) | (obtain ⟨_, _, _, _, _, _, _, _, _, _, _, _, _, _, rfl, _⟩ := h; rfl) | (obtain ⟨_, _, _, _, _, _, _, _, _, _, _, _, _, _, _, rfl, _⟩ := h; rfl)
  · have hu := hu_of hr
    exact pss_cons (ps_expr (pe_meth (pv 0) T.cl_Versions T.me_Versions_look_hand G_Versions__Versions_look_hand (hr.mono (by decide)) T.b_Versions_look_hand .nil pass0 (pa_cons (pv 1) (pa_nil))))
      (pss_cons (ps_if (pt_cmp (pc_din hu (pv 1) (pe_fld (pv 0) (by rfl))) (by rfl)) (pss_one (ps_never)) (pss_nil))
      (pss_cons (ps_dput hu (pe_fld (pv 0) (by rfl)) (pv 1) (pe_fld (pv 0) (by rfl)) (by rfl))
      (pss_cons (ps_dput hu (pe_fld (pv 0) (by rfl)) (pv 1) (pe_lst (pa_nil)) (by rfl))
      (pss_one (ps_ret (pe_fld (pv 0) (by rfl)))))))
  · exact pure_vbegin ⟨T.cl_Versions, T.na_Versions_hands, T.na_Versions_rows, T.na_Versions_version, T.na_Versions_begun, T.na_Versions_asked⟩ h
set_option maxHeartbeats 8000000 in
theorem ok__law_stores (T : Txt K mg D) : FnOk P w K mg base CX0 6 D.f__law_stores D.d__law_stores ["cells", "hand", "cell"] (sp__law_stores D.c_Rounds D.c_Marks D.c_Counts D.c_Versions) := by
  have G_mk_Versions : FnOk P w K mg base CX0 3 D.f_Versions_init D.d_Versions_init ["self", "hands", "cells"] (sp_vinit D.c_Versions) := ok_mk_Versions T
  have G_mk_Counts : FnOk P w K mg base CX0 4 D.f_Counts_init D.d_Counts_init ["self", "hands", "cells"] (sp_cinit D.c_Counts) := ok_mk_Counts T
  have G_mk_Marks : FnOk P w K mg base CX0 4 D.f_Marks_init D.d_Marks_init ["self", "hands", "cells"] (sp_minit D.c_Marks) := ok_mk_Marks T
  have G_mk_Rounds : FnOk P w K mg base CX0 4 D.f_Rounds_init D.d_Rounds_init ["self", "hands", "cells"] (sp_rinit D.c_Rounds) := ok_mk_Rounds T
  have G_Rounds__Rounds_enter : FnOk P w K mg base CX0 3 D.f_Rounds_enter D.d_Rounds_enter ["self", "hand"] (sp_enter D.c_Rounds) := ok_Rounds__Rounds_enter T
  have G_Rounds__Rounds_look : FnOk P w K mg base CX0 4 D.f_Rounds_look D.d_Rounds_look ["self", "hand", "cell"] (sp_look D.c_Rounds) := ok_Rounds__Rounds_look T
  have G_Marks__Marks_fetch : FnOk P w K mg base CX0 4 D.f_Marks_fetch D.d_Marks_fetch ["self", "hand", "mark", "cell"] (sp_fetch D.c_Marks) := ok_Marks__Marks_fetch T
  have G_Marks__Marks_set_mark : FnOk P w K mg base CX0 5 D.f_Marks_set_mark D.d_Marks_set_mark ["self", "hand", "mark"] (sp_set_mark D.c_Marks) := ok_Marks__Marks_set_mark T
  have G_Marks__Marks_sure : FnOk P w K mg base CX0 5 D.f_Marks_sure D.d_Marks_sure ["self", "hand", "mark"] (sp_sure D.c_Marks) := ok_Marks__Marks_sure T
  have G_Counts__Counts_hold : FnOk P w K mg base CX0 3 D.f_Counts_hold D.d_Counts_hold ["self", "hand", "cell"] (sp_hold D.c_Counts) := ok_Counts__Counts_hold T
  have G_Versions__Versions_begin : FnOk P w K mg base CX0 3 D.f_Versions_begin D.d_Versions_begin ["self", "hand"] (sp_vbegin D.c_Versions) := ok_Versions__Versions_begin T
  refine T.F__law_stores.ok sc__law_stores (fun vs H Q E h => ?_) (fun cdv A outer s H vs Q E hr h => ⟨t__law_stores K D.c_Versions D.c_Counts D.c_Marks D.c_Rounds (sp_vinit D.c_Versions) (sp_cinit D.c_Counts) (sp_minit D.c_Marks) (sp_rinit D.c_Rounds) (sp_enter D.c_Rounds) (sp_look D.c_Rounds) (sp_fetch D.c_Marks) (sp_set_mark D.c_Marks) (sp_sure D.c_Marks) (sp_hold D.c_Counts) (sp_vbegin D.c_Versions), ?_, ?_⟩)
  · first | (obtain ⟨_, rfl, _⟩ := h; rfl) | (obtain ⟨_, _, rfl, _⟩ := h; rfl) | (obtain ⟨_, _, _, rfl, _⟩ := h; rfl) | (obtain ⟨_, _, _, _, rfl, _⟩ := h; rfl) | (obtain ⟨_, _, _, _, _, rfl, _⟩ := h; rfl) | (obtain ⟨_, _, _, _, _, _, rfl, _⟩ := h; rfl) | (obtain ⟨_, _, _, _, _, _, _, rfl, _⟩ := h; rfl) | (obtain ⟨_, _, _, _, _, _, _, _, rfl, _⟩ := h; rfl) | (obtain ⟨_, _, _, _, _, _, _, _, _, rfl, _⟩ := h; rfl) | (obtain ⟨_, _, _, _, _, _, _, _, _, _, rfl, _⟩ := h; rfl) | (obtain ⟨_, _, _, _, _, _, _, _, _, _, _, rfl, _⟩ := h; rfl) | (obtain ⟨_, _, _, _, _, _, _, _, _, _, _, _, rfl, _⟩ := h; rfl) | (obtain ⟨_, _, _, _, _, _, _, _, _, _, _, _, _, rfl, _⟩ := h; rfl) | (obtain ⟨_, _, _, _, _, _, _, _, _, _, _, _, _, _, rfl, _⟩ := h; rfl) | (obtain ⟨_, _, _, _, _, _, _, _, _, _, _, _, _, _, _, rfl, _⟩ := h; rfl)
  · have hu := hu_of hr
    exact pss_cons (ps_asg (pe_tup (pa_cons (pe_make T.mk_Rounds G_mk_Rounds (hr.mono (by decide)) (by rfl) T.g_Rounds T.b_Rounds_init .nil pass0 (pa_cons (pe_int) (pa_cons (pv 0) (pa_nil)))) (pa_cons (pe_make T.mk_Marks G_mk_Marks (hr.mono (by decide)) (by rfl) T.g_Marks T.b_Marks_init .nil pass0 (pa_cons (pe_int) (pa_cons (pv 0) (pa_nil)))) (pa_cons (pe_make T.mk_Counts G_mk_Counts (hr.mono (by decide)) (by rfl) T.g_Counts T.b_Counts_init .nil pass0 (pa_cons (pe_int) (pa_cons (pv 0) (pa_nil)))) (pa_cons (pe_make T.mk_Versions G_mk_Versions (hr.mono (by decide)) (by rfl) T.g_Versions T.b_Versions_init .nil pass0 (pa_cons (pe_int) (pa_cons (pv 0) (pa_nil)))) (pa_nil)))))) (pg_tup rfl (pgs_cons (pg_name (i := 3) sc__law_stores.nd rfl (by first | exact Or.inl rfl | exact Or.inr rfl)) (pgs_cons (pg_name (i := 4) sc__law_stores.nd rfl (by first | exact Or.inl rfl | exact Or.inr rfl)) (pgs_cons (pg_name (i := 5) sc__law_stores.nd rfl (by first | exact Or.inl rfl | exact Or.inr rfl)) (pgs_cons (pg_name (i := 6) sc__law_stores.nd rfl (by first | exact Or.inl rfl | exact Or.inr rfl)) (pgs_nil)))))))
      (pss_cons (ps_expr (pe_meth (pv 3) T.cl_Rounds T.me_Rounds_enter G_Rounds__Rounds_enter (hr.mono (by decide)) T.b_Rounds_enter .nil pass0 (pa_cons (pv 1) (pa_nil))))
      (pss_cons (ps_expr (pe_meth (pv 3) T.cl_Rounds T.me_Rounds_look G_Rounds__Rounds_look (hr.mono (by decide)) T.b_Rounds_look .nil pass0 (pa_cons (pv 1) (pa_cons (pv 2) (pa_nil)))))
      (pss_cons (ps_expr (pe_meth (pv 4) T.cl_Marks T.me_Marks_fetch G_Marks__Marks_fetch (hr.mono (by decide)) T.b_Marks_fetch .nil pass0 (pa_cons (pv 1) (pa_cons (pe_int) (pa_cons (pv 2) (pa_nil))))))
      (pss_cons (ps_expr (pe_meth (pv 4) T.cl_Marks T.me_Marks_set_mark G_Marks__Marks_set_mark (hr.mono (by decide)) T.b_Marks_set_mark .nil pass0 (pa_cons (pv 1) (pa_cons (pe_int) (pa_nil)))))
      (pss_cons (ps_expr (pe_meth (pv 4) T.cl_Marks T.me_Marks_sure G_Marks__Marks_sure (hr.mono (by decide)) T.b_Marks_sure .nil pass0 (pa_cons (pv 1) (pa_cons (pe_int) (pa_nil)))))
      (pss_cons (ps_expr (pe_meth (pv 5) T.cl_Counts T.me_Counts_hold G_Counts__Counts_hold (hr.mono (by decide)) T.b_Counts_hold .nil pass0 (pa_cons (pv 1) (pa_cons (pv 2) (pa_nil)))))
      (pss_cons (ps_expr (pe_meth (pv 6) T.cl_Versions T.me_Versions_begin G_Versions__Versions_begin (hr.mono (by decide)) T.b_Versions_begin .nil pass0 (pa_cons (pv 1) (pa_nil))))
      (pss_one (ps_ret (pe_tup (pa_cons (pv 3) (pa_cons (pv 4) (pa_cons (pv 5) (pa_cons (pv 6) (pa_nil)))))))))))))))
  · exact pure__law_stores h
set_option maxHeartbeats 8000000 in
theorem ok_Rounds__Rounds_after_swap (T : Txt K mg D) : FnOk P w K mg base CX0 1 D.f_Rounds_after_swap D.d_Rounds_after_swap ["self", "thing"] (sp_rafter D.c_Rounds) := by
  refine T.F_Rounds_after_swap.ok sc_Rounds_after_swap (fun vs H Q E h => ?_) (fun cdv A outer s H vs Q E hr h => ⟨t_Rounds_after_swap K, ?_, ?_⟩)
  · first | (obtain ⟨_, rfl, _⟩ := h; rfl) | (obtain ⟨_, _, rfl, _⟩ := h; rfl) | (obtain ⟨_, _, _, rfl, _⟩ := h; rfl) | (obtain ⟨_, _, _, _, rfl, _⟩ := h; rfl) | (obtain ⟨_, _, _, _, _, rfl, _⟩ := h; rfl) | (obtain ⟨_, _, _, _, _, _, rfl, _⟩ := h; rfl) | (obtain ⟨_, _, _, _, _, _, _, rfl, _⟩ := h; rfl) | (obtain ⟨_, _, _, _, _, _, _, _, rfl, _⟩ := h; rfl) | (obtain ⟨_, _, _, _, _, _, _, _, _, rfl, _⟩ := h; rfl) | (obtain ⟨_, _, _, _, _, _, _, _, _, _, rfl, _⟩ := h; rfl) | (obtain ⟨_, _, _, _, _, _, _, _, _, _, _, rfl, _⟩ := h; rfl) | (obtain ⟨_, _, _, _, _, _, _, _, _, _, _, _, rfl, _⟩ := h; rfl) | (obtain ⟨_, _, _, _, _, _, _, _, _, _, _, _, _, rfl, _⟩ := h; rfl) | (obtain ⟨_, _, _, _, _, _, _, _, _, _, _, _, _, _, rfl, _⟩ := h; rfl) | (obtain ⟨_, _, _, _, _, _, _, _, _, _, _, _, _, _, _, rfl, _⟩ := h; rfl)
  · have hu := hu_of hr
    exact pss_one (ps_dput hu (pe_fld (pv 0) (by rfl)) (pv 1) (pe_fld (pv 0) (by rfl)) (by rfl))
  · exact pure_rafter ⟨⟨T.cl_Rounds, T.na_Rounds_hands, T.na_Rounds_worth, T.na_Rounds_cells, T.na_Rounds_made⟩, T.na_Rounds_era, T.na_Rounds_inside, T.na_Rounds_saw, T.na_Rounds_waits⟩ h
set_option maxHeartbeats 8000000 in
theorem ok_Rounds__Store_swap (T : Txt K mg D) : FnOk P w K mg base CX0 3 D.f_Store_swap D.d_Store_swap ["self", "cell", "value"] (sp_swapR D.c_Rounds) := by
  have G_Rounds__Store_look_cell : FnOk P w K mg base CX0 2 D.f_Store_look_cell D.d_Store_look_cell ["self", "cell"] (sp_look_cell D.c_Rounds) := ok_Rounds__Store_look_cell T
  have G_look_number : FnOk P w K mg base CX0 2 D.f_look_number D.d_look_number ["thing", "low", "high"] (sp_look_number) := ok_look_number T
  have G_Rounds__Rounds_after_swap : FnOk P w K mg base CX0 1 D.f_Rounds_after_swap D.d_Rounds_after_swap ["self", "thing"] (sp_rafter D.c_Rounds) := ok_Rounds__Rounds_after_swap T
  refine T.F_Store_swap.ok sc_Store_swap (fun vs H Q E h => ?_) (fun cdv A outer s H vs Q E hr h => ⟨t_Store_swap K D.c_Rounds (sp_look_cell D.c_Rounds) (sp_look_number) (sp_rafter D.c_Rounds), ?_, ?_⟩)
  · first | (obtain ⟨_, rfl, _⟩ := h; rfl) | (obtain ⟨_, _, rfl, _⟩ := h; rfl) | (obtain ⟨_, _, _, rfl, _⟩ := h; rfl) | (obtain ⟨_, _, _, _, rfl, _⟩ := h; rfl) | (obtain ⟨_, _, _, _, _, rfl, _⟩ := h; rfl) | (obtain ⟨_, _, _, _, _, _, rfl, _⟩ := h; rfl) | (obtain ⟨_, _, _, _, _, _, _, rfl, _⟩ := h; rfl) | (obtain ⟨_, _, _, _, _, _, _, _, rfl, _⟩ := h; rfl) | (obtain ⟨_, _, _, _, _, _, _, _, _, rfl, _⟩ := h; rfl) | (obtain ⟨_, _, _, _, _, _, _, _, _, _, rfl, _⟩ := h; rfl) | (obtain ⟨_, _, _, _, _, _, _, _, _, _, _, rfl, _⟩ := h; rfl) | (obtain ⟨_, _, _, _, _, _, _, _, _, _, _, _, rfl, _⟩ := h; rfl) | (obtain ⟨_, _, _, _, _, _, _, _, _, _, _, _, _, rfl, _⟩ := h; rfl) | (obtain ⟨_, _, _, _, _, _, _, _, _, _, _, _, _, _, rfl, _⟩ := h; rfl) | (obtain ⟨_, _, _, _, _, _, _, _, _, _, _, _, _, _, _, rfl, _⟩ := h; rfl)
  · have hu := hu_of hr
    exact pss_cons (ps_expr (pe_meth (pv 0) T.cl_Rounds T.me_Rounds_look_cell G_Rounds__Store_look_cell (hr.mono (by decide)) T.b_Store_look_cell .nil pass0 (pa_cons (pv 1) (pa_nil))))
      (pss_cons (ps_expr (pe_call G_look_number (hr.mono (by decide)) (by rfl) T.g_look_number T.F_look_number.kp T.b_look_number .nil pass0 (pa_cons (pv 2) (pa_cons (pe_int) (pa_cons (pe_glob (by rfl) T.k_MOST_VALUE ⟨_, rfl⟩) (pa_nil))))))
      (pss_cons (ps_set (i := 3) sc_Store_swap.nd rfl (by first | exact Or.inl rfl | exact Or.inr rfl) (pe_ix ix_list (pe_fld (pv 0) (by rfl)) (pv 1) (fun _ _ => rfl)))
      (pss_cons (ps_dput hu (pe_fld (pv 0) (by rfl)) (pe_fld (pv 0) (by rfl)) (pv 2) (by rfl))
      (pss_cons (ps_asg (pe_fld (pv 0) (by rfl)) (pg_sub (pe_fld (pv 0) (by rfl)) (pv 1) set_list))
      (pss_cons (ps_fld (pv 0) (pe_op op_addI (pe_fld (pv 0) (by rfl)) (pe_int)) (by rfl))
      (pss_cons (ps_expr (pe_meth (pv 0) T.cl_Rounds T.me_Rounds_after_swap G_Rounds__Rounds_after_swap (hr.mono (by decide)) T.b_Rounds_after_swap .nil pass0 (pa_cons (pv 3) (pa_nil))))
      (pss_one (ps_ret (pv 3)))))))))
  · exact pure_swap ⟨T.cl_Rounds, T.na_Rounds_hands, T.na_Rounds_worth, T.na_Rounds_cells, T.na_Rounds_made⟩ h
set_option maxHeartbeats 8000000 in
theorem ok_Marks__Marks_after_swap (T : Txt K mg D) : FnOk P w K mg base CX0 1 D.f_Marks_after_swap D.d_Marks_after_swap ["self", "thing"] (sp_mafter D.c_Marks) := by
  refine T.F_Marks_after_swap.ok sc_Marks_after_swap (fun vs H Q E h => ?_) (fun cdv A outer s H vs Q E hr h => ⟨t_Marks_after_swap K, ?_, ?_⟩)
  · first | (obtain ⟨_, rfl, _⟩ := h; rfl) | (obtain ⟨_, _, rfl, _⟩ := h; rfl) | (obtain ⟨_, _, _, rfl, _⟩ := h; rfl) | (obtain ⟨_, _, _, _, rfl, _⟩ := h; rfl) | (obtain ⟨_, _, _, _, _, rfl, _⟩ := h; rfl) | (obtain ⟨_, _, _, _, _, _, rfl, _⟩ := h; rfl) | (obtain ⟨_, _, _, _, _, _, _, rfl, _⟩ := h; rfl) | (obtain ⟨_, _, _, _, _, _, _, _, rfl, _⟩ := h; rfl) | (obtain ⟨_, _, _, _, _, _, _, _, _, rfl, _⟩ := h; rfl) | (obtain ⟨_, _, _, _, _, _, _, _, _, _, rfl, _⟩ := h; rfl) | (obtain ⟨_, _, _, _, _, _, _, _, _, _, _, rfl, _⟩ := h; rfl) | (obtain ⟨_, _, _, _, _, _, _, _, _, _, _, _, rfl, _⟩ := h; rfl) | (obtain ⟨_, _, _, _, _, _, _, _, _, _, _, _, _, rfl, _⟩ := h; rfl) | (obtain ⟨_, _, _, _, _, _, _, _, _, _, _, _, _, _, rfl, _⟩ := h; rfl) | (obtain ⟨_, _, _, _, _, _, _, _, _, _, _, _, _, _, _, rfl, _⟩ := h; rfl)
  · have hu := hu_of hr
    exact pss_one (ps_expr (pe_bm PySem.F.plainAttrs_list PySem.F.slot_list_append PySem.F.type_list_append mt_append (pe_fld (pv 0) (by rfl)) (pa_cons (pv 1) (pa_nil))))
  · exact pure_mafter ⟨⟨T.cl_Marks, T.na_Marks_hands, T.na_Marks_worth, T.na_Marks_cells, T.na_Marks_made⟩, T.na_Marks_marks, T.na_Marks_waits⟩ h
set_option maxHeartbeats 8000000 in
theorem ok_Marks__Store_swap (T : Txt K mg D) : FnOk P w K mg base CX0 3 D.f_Store_swap D.d_Store_swap ["self", "cell", "value"] (sp_swapM D.c_Marks) := by
  have G_Marks__Store_look_cell : FnOk P w K mg base CX0 2 D.f_Store_look_cell D.d_Store_look_cell ["self", "cell"] (sp_look_cell D.c_Marks) := ok_Marks__Store_look_cell T
  have G_look_number : FnOk P w K mg base CX0 2 D.f_look_number D.d_look_number ["thing", "low", "high"] (sp_look_number) := ok_look_number T
  have G_Marks__Marks_after_swap : FnOk P w K mg base CX0 1 D.f_Marks_after_swap D.d_Marks_after_swap ["self", "thing"] (sp_mafter D.c_Marks) := ok_Marks__Marks_after_swap T
  refine T.F_Store_swap.ok sc_Store_swap (fun vs H Q E h => ?_) (fun cdv A outer s H vs Q E hr h => ⟨t_Store_swap K D.c_Marks (sp_look_cell D.c_Marks) (sp_look_number) (sp_mafter D.c_Marks), ?_, ?_⟩)
  · first | (obtain ⟨_, rfl, _⟩ := h; rfl) | (obtain ⟨_, _, rfl, _⟩ := h; rfl) | (obtain ⟨_, _, _, rfl, _⟩ := h; rfl) | (obtain ⟨_, _, _, _, rfl, _⟩ := h; rfl) | (obtain ⟨_, _, _, _, _, rfl, _⟩ := h; rfl) | (obtain ⟨_, _, _, _, _, _, rfl, _⟩ := h; rfl) | (obtain ⟨_, _, _, _, _, _, _, rfl, _⟩ := h; rfl) | (obtain ⟨_, _, _, _, _, _, _, _, rfl, _⟩ := h; rfl) | (obtain ⟨_, _, _, _, _, _, _, _, _, rfl, _⟩ := h; rfl) | (obtain ⟨_, _, _, _, _, _, _, _, _, _, rfl, _⟩ := h; rfl) | (obtain ⟨_, _, _, _, _, _, _, _, _, _, _, rfl, _⟩ := h; rfl) | (obtain ⟨_, _, _, _, _, _, _, _, _, _, _, _, rfl, _⟩ := h; rfl) | (obtain ⟨_, _, _, _, _, _, _, _, _, _, _, _, _, rfl, _⟩ := h; rfl) | (obtain ⟨_, _, _, _, _, _, _, _, _, _, _, _, _, _, rfl, _⟩ := h; rfl) | (obtain ⟨_, _, _, _, _, _, _, _, _, _, _, _, _, _, _, rfl, _⟩ := h; rfl)
  · have hu := hu_of hr
    exact pss_cons (ps_expr (pe_meth (pv 0) T.cl_Marks T.me_Marks_look_cell G_Marks__Store_look_cell (hr.mono (by decide)) T.b_Store_look_cell .nil pass0 (pa_cons (pv 1) (pa_nil))))
      (pss_cons (ps_expr (pe_call G_look_number (hr.mono (by decide)) (by rfl) T.g_look_number T.F_look_number.kp T.b_look_number .nil pass0 (pa_cons (pv 2) (pa_cons (pe_int) (pa_cons (pe_glob (by rfl) T.k_MOST_VALUE ⟨_, rfl⟩) (pa_nil))))))
      (pss_cons (ps_set (i := 3) sc_Store_swap.nd rfl (by first | exact Or.inl rfl | exact Or.inr rfl) (pe_ix ix_list (pe_fld (pv 0) (by rfl)) (pv 1) (fun _ _ => rfl)))
      (pss_cons (ps_dput hu (pe_fld (pv 0) (by rfl)) (pe_fld (pv 0) (by rfl)) (pv 2) (by rfl))
      (pss_cons (ps_asg (pe_fld (pv 0) (by rfl)) (pg_sub (pe_fld (pv 0) (by rfl)) (pv 1) set_list))
      (pss_cons (ps_fld (pv 0) (pe_op op_addI (pe_fld (pv 0) (by rfl)) (pe_int)) (by rfl))
      (pss_cons (ps_expr (pe_meth (pv 0) T.cl_Marks T.me_Marks_after_swap G_Marks__Marks_after_swap (hr.mono (by decide)) T.b_Marks_after_swap .nil pass0 (pa_cons (pv 3) (pa_nil))))
      (pss_one (ps_ret (pv 3)))))))))
  · exact pure_swap ⟨T.cl_Marks, T.na_Marks_hands, T.na_Marks_worth, T.na_Marks_cells, T.na_Marks_made⟩ h
set_option maxHeartbeats 8000000 in
theorem ok_Counts__Counts_count_of (T : Txt K mg D) : FnOk P w K mg base CX0 1 D.f_Counts_count_of D.d_Counts_count_of ["self", "thing"] (sp_count_of D.c_Counts) := by
  refine T.F_Counts_count_of.ok sc_Counts_count_of (fun vs H Q E h => ?_) (fun cdv A outer s H vs Q E hr h => ⟨t_Counts_count_of K, ?_, ?_⟩)
  · first | (obtain ⟨_, rfl, _⟩ := h; rfl) | (obtain ⟨_, _, rfl, _⟩ := h; rfl) | (obtain ⟨_, _, _, rfl, _⟩ := h; rfl) | (obtain ⟨_, _, _, _, rfl, _⟩ := h; rfl) | (obtain ⟨_, _, _, _, _, rfl, _⟩ := h; rfl) | (obtain ⟨_, _, _, _, _, _, rfl, _⟩ := h; rfl) | (obtain ⟨_, _, _, _, _, _, _, rfl, _⟩ := h; rfl) | (obtain ⟨_, _, _, _, _, _, _, _, rfl, _⟩ := h; rfl) | (obtain ⟨_, _, _, _, _, _, _, _, _, rfl, _⟩ := h; rfl) | (obtain ⟨_, _, _, _, _, _, _, _, _, _, rfl, _⟩ := h; rfl) | (obtain ⟨_, _, _, _, _, _, _, _, _, _, _, rfl, _⟩ := h; rfl) | (obtain ⟨_, _, _, _, _, _, _, _, _, _, _, _, rfl, _⟩ := h; rfl) | (obtain ⟨_, _, _, _, _, _, _, _, _, _, _, _, _, rfl, _⟩ := h; rfl) | (obtain ⟨_, _, _, _, _, _, _, _, _, _, _, _, _, _, rfl, _⟩ := h; rfl) | (obtain ⟨_, _, _, _, _, _, _, _, _, _, _, _, _, _, _, rfl, _⟩ := h; rfl)
  · have hu := hu_of hr
    exact pss_one (ps_ret (pe_callB (cr_sum rfl) (by rfl) T.m_sum (by decide +kernel) (pa_cons (pe_lock (pe_lc (own := [("one", 2)]) (by rfl) sc_Counts_count_of.nd (pi_keys (pe_fld (pv 0) (by rfl))) (blkOk_by (own := [("one", 2)]) (N := ["self", "thing", "one"]) (sc := defScope s_Counts_count_of) (by decide +kernel)) (fun _ _ _ _ _ => pg_name (i := 2) sc_Counts_count_of.nd rfl (by first | exact Or.inl rfl | exact Or.inr rfl)) (fun _ _ _ _ _ => pts_one (pt_cmpR op_eq (pe_ix ix_tup (pv 2) (pe_int) (fun _ _ => rfl)) (pv 1) (nomark _))) (fun _ _ _ _ _ => pe_dget hu (pe_fld (pv 0) (by rfl)) (pv 2) (fun _ _ => rfl)))) (pa_nil))))
  · exact pure_count_of ⟨⟨T.cl_Counts, T.na_Counts_hands, T.na_Counts_worth, T.na_Counts_cells, T.na_Counts_made⟩, T.na_Counts_held⟩ h
set_option maxHeartbeats 8000000 in
theorem ok_Counts__Store_is_out (T : Txt K mg D) : FnOk P w K mg base CX0 1 D.f_Store_is_out D.d_Store_is_out ["self", "thing"] (sp_is_out D.c_Counts) := by
  refine T.F_Store_is_out.ok sc_Store_is_out (fun vs H Q E h => ?_) (fun cdv A outer s H vs Q E hr h => ⟨t_Store_is_out K, ?_, ?_⟩)
  · first | (obtain ⟨_, rfl, _⟩ := h; rfl) | (obtain ⟨_, _, rfl, _⟩ := h; rfl) | (obtain ⟨_, _, _, rfl, _⟩ := h; rfl) | (obtain ⟨_, _, _, _, rfl, _⟩ := h; rfl) | (obtain ⟨_, _, _, _, _, rfl, _⟩ := h; rfl) | (obtain ⟨_, _, _, _, _, _, rfl, _⟩ := h; rfl) | (obtain ⟨_, _, _, _, _, _, _, rfl, _⟩ := h; rfl) | (obtain ⟨_, _, _, _, _, _, _, _, rfl, _⟩ := h; rfl) | (obtain ⟨_, _, _, _, _, _, _, _, _, rfl, _⟩ := h; rfl) | (obtain ⟨_, _, _, _, _, _, _, _, _, _, rfl, _⟩ := h; rfl) | (obtain ⟨_, _, _, _, _, _, _, _, _, _, _, rfl, _⟩ := h; rfl) | (obtain ⟨_, _, _, _, _, _, _, _, _, _, _, _, rfl, _⟩ := h; rfl) | (obtain ⟨_, _, _, _, _, _, _, _, _, _, _, _, _, rfl, _⟩ := h; rfl) | (obtain ⟨_, _, _, _, _, _, _, _, _, _, _, _, _, _, rfl, _⟩ := h; rfl) | (obtain ⟨_, _, _, _, _, _, _, _, _, _, _, _, _, _, _, rfl, _⟩ := h; rfl)
  · have hu := hu_of hr
    exact pss_one (ps_ret (pe_cmpR op_notIn_seq (pv 1) (pe_fld (pv 0) (by rfl)) (by rfl)))
  · exact pure_is_out ⟨T.cl_Counts, T.na_Counts_hands, T.na_Counts_worth, T.na_Counts_cells, T.na_Counts_made⟩ h
set_option maxHeartbeats 8000000 in
theorem ok_Counts__Store_let_go (T : Txt K mg D) : FnOk P w K mg base CX0 1 D.f_Store_let_go D.d_Store_let_go ["self", "things"] (sp_let_go D.c_Counts) := by
  refine T.F_Store_let_go.ok sc_Store_let_go (fun vs H Q E h => ?_) (fun cdv A outer s H vs Q E hr h => ⟨t_Store_let_go K, ?_, ?_⟩)
  · first | (obtain ⟨_, rfl, _⟩ := h; rfl) | (obtain ⟨_, _, rfl, _⟩ := h; rfl) | (obtain ⟨_, _, _, rfl, _⟩ := h; rfl) | (obtain ⟨_, _, _, _, rfl, _⟩ := h; rfl) | (obtain ⟨_, _, _, _, _, rfl, _⟩ := h; rfl) | (obtain ⟨_, _, _, _, _, _, rfl, _⟩ := h; rfl) | (obtain ⟨_, _, _, _, _, _, _, rfl, _⟩ := h; rfl) | (obtain ⟨_, _, _, _, _, _, _, _, rfl, _⟩ := h; rfl) | (obtain ⟨_, _, _, _, _, _, _, _, _, rfl, _⟩ := h; rfl) | (obtain ⟨_, _, _, _, _, _, _, _, _, _, rfl, _⟩ := h; rfl) | (obtain ⟨_, _, _, _, _, _, _, _, _, _, _, rfl, _⟩ := h; rfl) | (obtain ⟨_, _, _, _, _, _, _, _, _, _, _, _, rfl, _⟩ := h; rfl) | (obtain ⟨_, _, _, _, _, _, _, _, _, _, _, _, _, rfl, _⟩ := h; rfl) | (obtain ⟨_, _, _, _, _, _, _, _, _, _, _, _, _, _, rfl, _⟩ := h; rfl) | (obtain ⟨_, _, _, _, _, _, _, _, _, _, _, _, _, _, _, rfl, _⟩ := h; rfl)
  · have hu := hu_of hr
    exact pss_cons (ps_for PassesOwn.never rfl (pi_list (pv 1)) (pg_name (i := 2) sc_Store_let_go.nd rfl (by first | exact Or.inl rfl | exact Or.inr rfl)) (pss_one (ps_expr (pe_dpop1 (pe_fld (pv 0) (by rfl)) (pv 2) ⟨rfl, rfl, rfl, rfl⟩))))
      (pss_one (ps_ret (pe_callB cr_sortedI (by rfl) T.m_sorted (by decide +kernel) (pa_cons (pv 1) (pa_nil)))))
  · exact pure_let_go ⟨T.cl_Counts, T.na_Counts_hands, T.na_Counts_worth, T.na_Counts_cells, T.na_Counts_made⟩ h
set_option maxHeartbeats 8000000 in
theorem ok_Counts__Counts_loose (T : Txt K mg D) : FnOk P w K mg base CX0 2 D.f_Counts_loose D.d_Counts_loose ["self", "thing"] (sp_loose D.c_Counts) := by
  have G_Counts__Counts_count_of : FnOk P w K mg base CX0 1 D.f_Counts_count_of D.d_Counts_count_of ["self", "thing"] (sp_count_of D.c_Counts) := ok_Counts__Counts_count_of T
  have G_Counts__Store_is_out : FnOk P w K mg base CX0 1 D.f_Store_is_out D.d_Store_is_out ["self", "thing"] (sp_is_out D.c_Counts) := ok_Counts__Store_is_out T
  have G_Counts__Store_let_go : FnOk P w K mg base CX0 1 D.f_Store_let_go D.d_Store_let_go ["self", "things"] (sp_let_go D.c_Counts) := ok_Counts__Store_let_go T
  refine T.F_Counts_loose.ok sc_Counts_loose (fun vs H Q E h => ?_) (fun cdv A outer s H vs Q E hr h => ⟨t_Counts_loose K D.c_Counts (sp_count_of D.c_Counts) (sp_is_out D.c_Counts) (sp_let_go D.c_Counts), ?_, ?_⟩)
  · first | (obtain ⟨_, rfl, _⟩ := h; rfl) | (obtain ⟨_, _, rfl, _⟩ := h; rfl) | (obtain ⟨_, _, _, rfl, _⟩ := h; rfl) | (obtain ⟨_, _, _, _, rfl, _⟩ := h; rfl) | (obtain ⟨_, _, _, _, _, rfl, _⟩ := h; rfl) | (obtain ⟨_, _, _, _, _, _, rfl, _⟩ := h; rfl) | (obtain ⟨_, _, _, _, _, _, _, rfl, _⟩ := h; rfl) | (obtain ⟨_, _, _, _, _, _, _, _, rfl, _⟩ := h; rfl) | (obtain ⟨_, _, _, _, _, _, _, _, _, rfl, _⟩ := h; rfl) | (obtain ⟨_, _, _, _, _, _, _, _, _, _, rfl, _⟩ := h; rfl) | (obtain ⟨_, _, _, _, _, _, _, _, _, _, _, rfl, _⟩ := h; rfl) | (obtain ⟨_, _, _, _, _, _, _, _, _, _, _, _, rfl, _⟩ := h; rfl) | (obtain ⟨_, _, _, _, _, _, _, _, _, _, _, _, _, rfl, _⟩ := h; rfl) | (obtain ⟨_, _, _, _, _, _, _, _, _, _, _, _, _, _, rfl, _⟩ := h; rfl) | (obtain ⟨_, _, _, _, _, _, _, _, _, _, _, _, _, _, _, rfl, _⟩ := h; rfl)
  · have hu := hu_of hr
    exact pss_cons (ps_if (PW.pt (pw_or (pt_cmpR op_gtI (pe_meth (pv 0) T.cl_Counts T.me_Counts_count_of G_Counts__Counts_count_of (hr.mono (by decide)) T.b_Counts_count_of .nil pass0 (pa_cons (pv 1) (pa_nil))) (pe_int) (nomark _)) (pw_or1 (pt_not (pt_val (pe_meth (pv 0) T.cl_Counts T.me_Counts_is_out G_Counts__Store_is_out (hr.mono (by decide)) T.b_Store_is_out .nil pass0 (pa_cons (pv 1) (pa_nil)))))))) (pss_one (ps_ret (pe_bl))) (pss_nil))
      (pss_cons (ps_expr (pe_meth (pv 0) T.cl_Counts T.me_Counts_let_go G_Counts__Store_let_go (hr.mono (by decide)) T.b_Store_let_go .nil pass0 (pa_cons (pe_lst (pa_cons (pv 1) (pa_nil))) (pa_nil))))
      (pss_one (ps_ret (pe_bl))))
  · exact pure_loose ⟨⟨T.cl_Counts, T.na_Counts_hands, T.na_Counts_worth, T.na_Counts_cells, T.na_Counts_made⟩, T.na_Counts_held⟩ h
set_option maxHeartbeats 8000000 in
theorem ok_Counts__Counts_after_swap (T : Txt K mg D) : FnOk P w K mg base CX0 3 D.f_Counts_after_swap D.d_Counts_after_swap ["self", "thing"] (sp_cafter D.c_Counts) := by
  have G_Counts__Counts_loose : FnOk P w K mg base CX0 2 D.f_Counts_loose D.d_Counts_loose ["self", "thing"] (sp_loose D.c_Counts) := ok_Counts__Counts_loose T
  refine T.F_Counts_after_swap.ok sc_Counts_after_swap (fun vs H Q E h => ?_) (fun cdv A outer s H vs Q E hr h => ⟨t_Counts_after_swap K D.c_Counts (sp_loose D.c_Counts), ?_, ?_⟩)
  · first | (obtain ⟨_, rfl, _⟩ := h; rfl) | (obtain ⟨_, _, rfl, _⟩ := h; rfl) | (obtain ⟨_, _, _, rfl, _⟩ := h; rfl) | (obtain ⟨_, _, _, _, rfl, _⟩ := h; rfl) | (obtain ⟨_, _, _, _, _, rfl, _⟩ := h; rfl) | (obtain ⟨_, _, _, _, _, _, rfl, _⟩ := h; rfl) | (obtain ⟨_, _, _, _, _, _, _, rfl, _⟩ := h; rfl) | (obtain ⟨_, _, _, _, _, _, _, _, rfl, _⟩ := h; rfl) | (obtain ⟨_, _, _, _, _, _, _, _, _, rfl, _⟩ := h; rfl) | (obtain ⟨_, _, _, _, _, _, _, _, _, _, rfl, _⟩ := h; rfl) | (obtain ⟨_, _, _, _, _, _, _, _, _, _, _, rfl, _⟩ := h; rfl) | (obtain ⟨_, _, _, _, _, _, _, _, _, _, _, _, rfl, _⟩ := h; rfl) | (obtain ⟨_, _, _, _, _, _, _, _, _, _, _, _, _, rfl, _⟩ := h; rfl) | (obtain ⟨_, _, _, _, _, _, _, _, _, _, _, _, _, _, rfl, _⟩ := h; rfl) | (obtain ⟨_, _, _, _, _, _, _, _, _, _, _, _, _, _, _, rfl, _⟩ := h; rfl)
  · have hu := hu_of hr
    exact pss_one (ps_expr (pe_meth (pv 0) T.cl_Counts T.me_Counts_loose G_Counts__Counts_loose (hr.mono (by decide)) T.b_Counts_loose .nil pass0 (pa_cons (pv 1) (pa_nil))))
  · exact pure_cafter ⟨⟨T.cl_Counts, T.na_Counts_hands, T.na_Counts_worth, T.na_Counts_cells, T.na_Counts_made⟩, T.na_Counts_held⟩ h
set_option maxHeartbeats 8000000 in
theorem ok_Counts__Store_swap (T : Txt K mg D) : FnOk P w K mg base CX0 4 D.f_Store_swap D.d_Store_swap ["self", "cell", "value"] (sp_swapC D.c_Counts) := by
  have G_Counts__Store_look_cell : FnOk P w K mg base CX0 2 D.f_Store_look_cell D.d_Store_look_cell ["self", "cell"] (sp_look_cell D.c_Counts) := ok_Counts__Store_look_cell T
  have G_look_number : FnOk P w K mg base CX0 2 D.f_look_number D.d_look_number ["thing", "low", "high"] (sp_look_number) := ok_look_number T
  have G_Counts__Counts_after_swap : FnOk P w K mg base CX0 3 D.f_Counts_after_swap D.d_Counts_after_swap ["self", "thing"] (sp_cafter D.c_Counts) := ok_Counts__Counts_after_swap T
  refine T.F_Store_swap.ok sc_Store_swap (fun vs H Q E h => ?_) (fun cdv A outer s H vs Q E hr h => ⟨t_Store_swap K D.c_Counts (sp_look_cell D.c_Counts) (sp_look_number) (sp_cafter D.c_Counts), ?_, ?_⟩)
  · first | (obtain ⟨_, rfl, _⟩ := h; rfl) | (obtain ⟨_, _, rfl, _⟩ := h; rfl) | (obtain ⟨_, _, _, rfl, _⟩ := h; rfl) | (obtain ⟨_, _, _, _, rfl, _⟩ := h; rfl) | (obtain ⟨_, _, _, _, _, rfl, _⟩ := h; rfl) | (obtain ⟨_, _, _, _, _, _, rfl, _⟩ := h; rfl) | (obtain ⟨_, _, _, _, _, _, _, rfl, _⟩ := h; rfl) | (obtain ⟨_, _, _, _, _, _, _, _, rfl, _⟩ := h; rfl) | (obtain ⟨_, _, _, _, _, _, _, _, _, rfl, _⟩ := h; rfl) | (obtain ⟨_, _, _, _, _, _, _, _, _, _, rfl, _⟩ := h; rfl) | (obtain ⟨_, _, _, _, _, _, _, _, _, _, _, rfl, _⟩ := h; rfl) | (obtain ⟨_, _, _, _, _, _, _, _, _, _, _, _, rfl, _⟩ := h; rfl) | (obtain ⟨_, _, _, _, _, _, _, _, _, _, _, _, _, rfl, _⟩ := h; rfl) | (obtain ⟨_, _, _, _, _, _, _, _, _, _, _, _, _, _, rfl, _⟩ := h; rfl) | (obtain ⟨_, _, _, _, _, _, _, _, _, _, _, _, _, _, _, rfl, _⟩ := h; rfl)
  · have hu := hu_of hr
    exact pss_cons (ps_expr (pe_meth (pv 0) T.cl_Counts T.me_Counts_look_cell G_Counts__Store_look_cell (hr.mono (by decide)) T.b_Store_look_cell .nil pass0 (pa_cons (pv 1) (pa_nil))))
      (pss_cons (ps_expr (pe_call G_look_number (hr.mono (by decide)) (by rfl) T.g_look_number T.F_look_number.kp T.b_look_number .nil pass0 (pa_cons (pv 2) (pa_cons (pe_int) (pa_cons (pe_glob (by rfl) T.k_MOST_VALUE ⟨_, rfl⟩) (pa_nil))))))
      (pss_cons (ps_set (i := 3) sc_Store_swap.nd rfl (by first | exact Or.inl rfl | exact Or.inr rfl) (pe_ix ix_list (pe_fld (pv 0) (by rfl)) (pv 1) (fun _ _ => rfl)))
      (pss_cons (ps_dput hu (pe_fld (pv 0) (by rfl)) (pe_fld (pv 0) (by rfl)) (pv 2) (by rfl))
      (pss_cons (ps_asg (pe_fld (pv 0) (by rfl)) (pg_sub (pe_fld (pv 0) (by rfl)) (pv 1) set_list))
      (pss_cons (ps_fld (pv 0) (pe_op op_addI (pe_fld (pv 0) (by rfl)) (pe_int)) (by rfl))
      (pss_cons (ps_expr (pe_meth (pv 0) T.cl_Counts T.me_Counts_after_swap G_Counts__Counts_after_swap (hr.mono (by decide)) T.b_Counts_after_swap .nil pass0 (pa_cons (pv 3) (pa_nil))))
      (pss_one (ps_ret (pv 3)))))))))
  · exact pure_swap ⟨T.cl_Counts, T.na_Counts_hands, T.na_Counts_worth, T.na_Counts_cells, T.na_Counts_made⟩ h
set_option maxHeartbeats 8000000 in
theorem ok_Versions__Versions_look_pairs (T : Txt K mg D) : FnOk P w K mg base CX0 2 D.f_Versions_look_pairs D.d_Versions_look_pairs ["self", "pairs"] (sp_vlook_pairs D.c_Versions) := by
  have G_is_whole : FnOk P w K mg base CX0 1 D.f_is_whole D.d_is_whole ["thing", "low", "high"] (sp_is_whole) := ok_is_whole T
  refine T.F_Versions_look_pairs.ok sc_Versions_look_pairs (fun vs H Q E h => ?_) (fun cdv A outer s H vs Q E hr h => ⟨t_Versions_look_pairs K (sp_is_whole), ?_, ?_⟩)
  · first | (obtain ⟨_, rfl, _⟩ := h; rfl) | (obtain ⟨_, _, rfl, _⟩ := h; rfl) | (obtain ⟨_, _, _, rfl, _⟩ := h; rfl) | (obtain ⟨_, _, _, _, rfl, _⟩ := h; rfl) | (obtain ⟨_, _, _, _, _, rfl, _⟩ := h; rfl) | (obtain ⟨_, _, _, _, _, _, rfl, _⟩ := h; rfl) | (obtain ⟨_, _, _, _, _, _, _, rfl, _⟩ := h; rfl) | (obtain ⟨_, _, _, _, _, _, _, _, rfl, _⟩ := h; rfl) | (obtain ⟨_, _, _, _, _, _, _, _, _, rfl, _⟩ := h; rfl) | (obtain ⟨_, _, _, _, _, _, _, _, _, _, rfl, _⟩ := h; rfl) | (obtain ⟨_, _, _, _, _, _, _, _, _, _, _, rfl, _⟩ := h; rfl) | (obtain ⟨_, _, _, _, _, _, _, _, _, _, _, _, rfl, _⟩ := h; rfl) | (obtain ⟨_, _, _, _, _, _, _, _, _, _, _, _, _, rfl, _⟩ := h; rfl) | (obtain ⟨_, _, _, _, _, _, _, _, _, _, _, _, _, _, rfl, _⟩ := h; rfl) | (obtain ⟨_, _, _, _, _, _, _, _, _, _, _, _, _, _, _, rfl, _⟩ := h; rfl)
  · have hu := hu_of hr
    exact pss_cons (ps_set (i := 2) sc_Versions_look_pairs.nd rfl (by first | exact Or.inl rfl | exact Or.inr rfl) (pe_and (pe_callB call_isi (by rfl) T.m_isinstance (by decide +kernel) (pa_cons (pv 1) (pa_cons (pe_bltn (v := .ty "list") (by rfl) T.m_list (by decide +kernel) rfl) (pa_nil)))) (pe_one (pe_cmpR (op_neD hr.units) (pv 1) (pe_lst (pa_nil)) (nomark _)))))
      (pss_cons (ps_if (PW.pt (pw_or (pt_not (pt_val (pv 2))) (pw_or1 (pt_not (pt_val (pe_callB (cr_all rfl) (by rfl) T.m_all (by decide +kernel) (pa_cons (pe_lc (own := [("one", 3)]) (by rfl) sc_Versions_look_pairs.nd (pi_list (pv 1)) (blkOk_by (own := [("one", 3)]) (N := ["self", "pairs", "fine", "one", "cells", "cell", "value"]) (sc := defScope s_Versions_look_pairs) (by decide +kernel)) (fun _ _ _ _ _ => pg_name (i := 3) sc_Versions_look_pairs.nd rfl (by first | exact Or.inl rfl | exact Or.inr rfl)) (fun _ _ _ _ _ => pts_nil) (fun _ _ _ _ _ => pe_and (pe_callB call_isi (by rfl) T.m_isinstance (by decide +kernel) (pa_cons (pv 3) (pa_cons (pe_bltn (v := .ty "tuple") (by rfl) T.m_tuple (by decide +kernel) rfl) (pa_nil)))) (pe_one (pe_cmpR op_eq (pe_callB call_lenQ (by rfl) T.m_len PySem.boot_len (pa_cons (pv 3) (pa_nil))) (pe_int) (nomark _))))) (pa_nil)))))))) (pss_one (ps_never)) (pss_nil))
      (pss_cons (ps_if (pt_not (pt_val (pe_callB (cr_all rfl) (by rfl) T.m_all (by decide +kernel) (pa_cons (pe_lc (own := [("one", 3)]) (by rfl) sc_Versions_look_pairs.nd (pi_list (pv 1)) (blkOk_by (own := [("one", 3)]) (N := ["self", "pairs", "fine", "one", "cells", "cell", "value"]) (sc := defScope s_Versions_look_pairs) (by decide +kernel)) (fun _ _ _ _ _ => pg_name (i := 3) sc_Versions_look_pairs.nd rfl (by first | exact Or.inl rfl | exact Or.inr rfl)) (fun _ _ _ _ _ => pts_nil) (fun _ _ _ _ _ => pe_and (pe_call G_is_whole (hr.mono (by decide)) (by rfl) T.g_is_whole T.F_is_whole.kp T.b_is_whole .nil pass0 (pa_cons (pe_ix ix_tup (pv 3) (pe_int) (fun _ _ => rfl)) (pa_cons (pe_int) (pa_cons (pe_op op_subI (pe_callB call_lenQ (by rfl) T.m_len PySem.boot_len (pa_cons (pe_fld (pv 0) (by rfl)) (pa_nil))) (pe_int)) (pa_nil))))) (pe_one (pe_call G_is_whole (hr.mono (by decide)) (by rfl) T.g_is_whole T.F_is_whole.kp T.b_is_whole .nil pass0 (pa_cons (pe_ix ix_tup (pv 3) (pe_int) (fun _ _ => rfl)) (pa_cons (pe_int) (pa_cons (pe_glob (by rfl) T.k_MOST_VALUE ⟨_, rfl⟩) (pa_nil)))))))) (pa_nil))))) (pss_one (ps_never)) (pss_nil))
      (pss_cons (ps_setLc (i := 4) (own := [("cell", 5), ("value", 6)]) (by rfl) sc_Versions_look_pairs.nd rfl rfl (sw_true rfl rfl rfl (by decide +kernel)) (pi_list (pv 1)) (blkOk_by (own := [("cell", 5), ("value", 6)]) (N := ["self", "pairs", "fine", "one", "cells", "cell", "value"]) (sc := defScope s_Versions_look_pairs) (by decide +kernel)) (fun _ _ _ _ _ => pg_tup rfl (pgs_cons (pg_name (i := 5) sc_Versions_look_pairs.nd rfl (by first | exact Or.inl rfl | exact Or.inr rfl)) (pgs_cons (pg_name (i := 6) sc_Versions_look_pairs.nd rfl (by first | exact Or.inl rfl | exact Or.inr rfl)) (pgs_nil)))) (fun _ _ _ _ _ => pts_nil) (fun _ _ _ _ _ => pv 5))
      (pss_one (ps_if (pt_cmpR (op_neD hr.units) (pe_sset rfl (by rfl) T.m_sorted (by rfl) T.m_set (pa_cons (pv 4) (pa_nil))) (pv 4) (nomark _)) (pss_one (ps_never)) (pss_nil))))))
  · exact pure_vlook_pairs ⟨T.cl_Versions, T.na_Versions_hands, T.na_Versions_rows, T.na_Versions_version, T.na_Versions_begun, T.na_Versions_asked⟩ h
set_option maxHeartbeats 8000000 in
theorem ok_Versions__Versions_write (T : Txt K mg D) : FnOk P w K mg base CX0 3 D.f_Versions_write D.d_Versions_write ["self", "pairs"] (sp_vwrite D.c_Versions) := by
  have G_Versions__Versions_look_pairs : FnOk P w K mg base CX0 2 D.f_Versions_look_pairs D.d_Versions_look_pairs ["self", "pairs"] (sp_vlook_pairs D.c_Versions) := ok_Versions__Versions_look_pairs T
  refine T.F_Versions_write.ok sc_Versions_write (fun vs H Q E h => ?_) (fun cdv A outer s H vs Q E hr h => ⟨t_Versions_write K D.c_Versions (sp_vlook_pairs D.c_Versions), ?_, ?_⟩)
  · first | (obtain ⟨_, rfl, _⟩ := h; rfl) | (obtain ⟨_, _, rfl, _⟩ := h; rfl) | (obtain ⟨_, _, _, rfl, _⟩ := h; rfl) | (obtain ⟨_, _, _, _, rfl, _⟩ := h; rfl) | (obtain ⟨_, _, _, _, _, rfl, _⟩ := h; rfl) | (obtain ⟨_, _, _, _, _, _, rfl, _⟩ := h; rfl) | (obtain ⟨_, _, _, _, _, _, _, rfl, _⟩ := h; rfl) | (obtain ⟨_, _, _, _, _, _, _, _, rfl, _⟩ := h; rfl) | (obtain ⟨_, _, _, _, _, _, _, _, _, rfl, _⟩ := h; rfl) | (obtain ⟨_, _, _, _, _, _, _, _, _, _, rfl, _⟩ := h; rfl) | (obtain ⟨_, _, _, _, _, _, _, _, _, _, _, rfl, _⟩ := h; rfl) | (obtain ⟨_, _, _, _, _, _, _, _, _, _, _, _, rfl, _⟩ := h; rfl) | (obtain ⟨_, _, _, _, _, _, _, _, _, _, _, _, _, rfl, _⟩ := h; rfl) | (obtain ⟨_, _, _, _, _, _, _, _, _, _, _, _, _, _, rfl, _⟩ := h; rfl) | (obtain ⟨_, _, _, _, _, _, _, _, _, _, _, _, _, _, _, rfl, _⟩ := h; rfl)
  · have hu := hu_of hr
    exact pss_cons (ps_expr (pe_meth (pv 0) T.cl_Versions T.me_Versions_look_pairs G_Versions__Versions_look_pairs (hr.mono (by decide)) T.b_Versions_look_pairs .nil pass0 (pa_cons (pv 1) (pa_nil))))
      (pss_cons (ps_fld (pv 0) (pe_op op_addI (pe_fld (pv 0) (by rfl)) (pe_int)) (by rfl))
      (pss_cons (ps_for PassesOwn.never rfl (pi_list (pv 1)) (pg_tup rfl (pgs_cons (pg_name (i := 2) sc_Versions_write.nd rfl (by first | exact Or.inl rfl | exact Or.inr rfl)) (pgs_cons (pg_name (i := 3) sc_Versions_write.nd rfl (by first | exact Or.inl rfl | exact Or.inr rfl)) (pgs_nil)))) (pss_one (ps_expr (pe_bm PySem.F.plainAttrs_list PySem.F.slot_list_append PySem.F.type_list_append mt_append (pe_ix ix_list (pe_fld (pv 0) (by rfl)) (pv 2) (fun _ _ => rfl)) (pa_cons (pe_tup (pa_cons (pe_fld (pv 0) (by rfl)) (pa_cons (pv 3) (pa_nil)))) (pa_nil))))))
      (pss_one (ps_ret (pe_fld (pv 0) (by rfl))))))
  · exact pure_vwrite ⟨T.cl_Versions, T.na_Versions_hands, T.na_Versions_rows, T.na_Versions_version, T.na_Versions_begun, T.na_Versions_asked⟩ h
set_option maxHeartbeats 8000000 in
theorem ok_Rounds__Store_let_go (T : Txt K mg D) : FnOk P w K mg base CX0 1 D.f_Store_let_go D.d_Store_let_go ["self", "things"] (sp_let_go D.c_Rounds) := by
  refine T.F_Store_let_go.ok sc_Store_let_go (fun vs H Q E h => ?_) (fun cdv A outer s H vs Q E hr h => ⟨t_Store_let_go K, ?_, ?_⟩)
  · first | (obtain ⟨_, rfl, _⟩ := h; rfl) | (obtain ⟨_, _, rfl, _⟩ := h; rfl) | (obtain ⟨_, _, _, rfl, _⟩ := h; rfl) | (obtain ⟨_, _, _, _, rfl, _⟩ := h; rfl) | (obtain ⟨_, _, _, _, _, rfl, _⟩ := h; rfl) | (obtain ⟨_, _, _, _, _, _, rfl, _⟩ := h; rfl) | (obtain ⟨_, _, _, _, _, _, _, rfl, _⟩ := h; rfl) | (obtain ⟨_, _, _, _, _, _, _, _, rfl, _⟩ := h; rfl) | (obtain ⟨_, _, _, _, _, _, _, _, _, rfl, _⟩ := h; rfl) | (obtain ⟨_, _, _, _, _, _, _, _, _, _, rfl, _⟩ := h; rfl) | (obtain ⟨_, _, _, _, _, _, _, _, _, _, _, rfl, _⟩ := h; rfl) | (obtain ⟨_, _, _, _, _, _, _, _, _, _, _, _, rfl, _⟩ := h; rfl) | (obtain ⟨_, _, _, _, _, _, _, _, _, _, _, _, _, rfl, _⟩ := h; rfl) | (obtain ⟨_, _, _, _, _, _, _, _, _, _, _, _, _, _, rfl, _⟩ := h; rfl) | (obtain ⟨_, _, _, _, _, _, _, _, _, _, _, _, _, _, _, rfl, _⟩ := h; rfl)
  · have hu := hu_of hr
    exact pss_cons (ps_for PassesOwn.never rfl (pi_list (pv 1)) (pg_name (i := 2) sc_Store_let_go.nd rfl (by first | exact Or.inl rfl | exact Or.inr rfl)) (pss_one (ps_expr (pe_dpop1 (pe_fld (pv 0) (by rfl)) (pv 2) ⟨rfl, rfl, rfl, rfl⟩))))
      (pss_one (ps_ret (pe_callB cr_sortedI (by rfl) T.m_sorted (by decide +kernel) (pa_cons (pv 1) (pa_nil)))))
  · exact pure_let_go ⟨T.cl_Rounds, T.na_Rounds_hands, T.na_Rounds_worth, T.na_Rounds_cells, T.na_Rounds_made⟩ h
set_option maxHeartbeats 8000000 in
theorem ok_Rounds__Rounds_go_on (T : Txt K mg D) : FnOk P w K mg base CX0 2 D.f_Rounds_go_on D.d_Rounds_go_on ["self"] (sp_go_on D.c_Rounds) := by
  have G_Rounds__Store_let_go : FnOk P w K mg base CX0 1 D.f_Store_let_go D.d_Store_let_go ["self", "things"] (sp_let_go D.c_Rounds) := ok_Rounds__Store_let_go T
  refine T.F_Rounds_go_on.ok sc_Rounds_go_on (fun vs H Q E h => ?_) (fun cdv A outer s H vs Q E hr h => ⟨t_Rounds_go_on K D.c_Rounds (sp_let_go D.c_Rounds), ?_, ?_⟩)
  · first | (obtain ⟨_, rfl, _⟩ := h; rfl) | (obtain ⟨_, _, rfl, _⟩ := h; rfl) | (obtain ⟨_, _, _, rfl, _⟩ := h; rfl) | (obtain ⟨_, _, _, _, rfl, _⟩ := h; rfl) | (obtain ⟨_, _, _, _, _, rfl, _⟩ := h; rfl) | (obtain ⟨_, _, _, _, _, _, rfl, _⟩ := h; rfl) | (obtain ⟨_, _, _, _, _, _, _, rfl, _⟩ := h; rfl) | (obtain ⟨_, _, _, _, _, _, _, _, rfl, _⟩ := h; rfl) | (obtain ⟨_, _, _, _, _, _, _, _, _, rfl, _⟩ := h; rfl) | (obtain ⟨_, _, _, _, _, _, _, _, _, _, rfl, _⟩ := h; rfl) | (obtain ⟨_, _, _, _, _, _, _, _, _, _, _, rfl, _⟩ := h; rfl) | (obtain ⟨_, _, _, _, _, _, _, _, _, _, _, _, rfl, _⟩ := h; rfl) | (obtain ⟨_, _, _, _, _, _, _, _, _, _, _, _, _, rfl, _⟩ := h; rfl) | (obtain ⟨_, _, _, _, _, _, _, _, _, _, _, _, _, _, rfl, _⟩ := h; rfl) | (obtain ⟨_, _, _, _, _, _, _, _, _, _, _, _, _, _, _, rfl, _⟩ := h; rfl)
  · have hu := hu_of hr
    exact pss_cons (ps_if (pt_not (pt_val (pe_callB (cr_all rfl) (by rfl) T.m_all (by decide +kernel) (pa_cons (pe_lock (pe_lc (own := [("hand", 1)]) (by rfl) sc_Rounds_go_on.nd (pi_keys (pe_fld (pv 0) (by rfl))) (blkOk_by (own := [("hand", 1)]) (N := ["self", "hand", "found", "thing"]) (sc := defScope s_Rounds_go_on) (by decide +kernel)) (fun _ _ _ _ _ => pg_name (i := 1) sc_Rounds_go_on.nd rfl (by first | exact Or.inl rfl | exact Or.inr rfl)) (fun _ _ _ _ _ => pts_nil) (fun _ _ _ _ _ => pe_cmpR op_eq (pe_dget hu (pe_fld (pv 0) (by rfl)) (pv 1) (fun _ _ => rfl)) (pe_fld (pv 0) (by rfl)) (nomark _)))) (pa_nil))))) (pss_one (ps_ret (pe_non))) (pss_nil))
      (pss_cons (ps_fld (pv 0) (pe_op op_addI (pe_fld (pv 0) (by rfl)) (pe_int)) (by rfl))
      (pss_cons (ps_lock (ps_setLc (i := 2) (own := [("thing", 3)]) (by rfl) sc_Rounds_go_on.nd rfl rfl (sw_true rfl rfl rfl (by decide +kernel)) (pi_keys (pe_fld (pv 0) (by rfl))) (blkOk_by (own := [("thing", 3)]) (N := ["self", "hand", "found", "thing"]) (sc := defScope s_Rounds_go_on) (by decide +kernel)) (fun _ _ _ _ _ => pg_name (i := 3) sc_Rounds_go_on.nd rfl (by first | exact Or.inl rfl | exact Or.inr rfl)) (fun _ _ _ _ _ => pts_one (pt_cmpR op_leI (pe_dget hu (pe_fld (pv 0) (by rfl)) (pv 3) (fun _ _ => rfl)) (pe_op op_subI (pe_fld (pv 0) (by rfl)) (pe_int)) (nomark _))) (fun _ _ _ _ _ => pv 3)))
      (pss_cons (ps_for PassesOwn.never rfl (pi_list (pv 2)) (pg_name (i := 3) sc_Rounds_go_on.nd rfl (by first | exact Or.inl rfl | exact Or.inr rfl)) (pss_one (ps_expr (pe_dpop1 (pe_fld (pv 0) (by rfl)) (pv 3) ⟨rfl, rfl, rfl, rfl⟩))))
      (pss_one (ps_ret (pe_meth (pv 0) T.cl_Rounds T.me_Rounds_let_go G_Rounds__Store_let_go (hr.mono (by decide)) T.b_Store_let_go .nil pass0 (pa_cons (pv 2) (pa_nil))))))))
  · exact pure_go_on ⟨⟨T.cl_Rounds, T.na_Rounds_hands, T.na_Rounds_worth, T.na_Rounds_cells, T.na_Rounds_made⟩, T.na_Rounds_era, T.na_Rounds_inside, T.na_Rounds_saw, T.na_Rounds_waits⟩ h
set_option maxHeartbeats 8000000 in
theorem ok_Marks__Marks_marked (T : Txt K mg D) : FnOk P w K mg base CX0 1 D.f_Marks_marked D.d_Marks_marked ["self"] (sp_marked D.c_Marks) := by
  refine T.F_Marks_marked.ok sc_Marks_marked (fun vs H Q E h => ?_) (fun cdv A outer s H vs Q E hr h => ⟨t_Marks_marked K, ?_, ?_⟩)
  · first | (obtain ⟨_, rfl, _⟩ := h; rfl) | (obtain ⟨_, _, rfl, _⟩ := h; rfl) | (obtain ⟨_, _, _, rfl, _⟩ := h; rfl) | (obtain ⟨_, _, _, _, rfl, _⟩ := h; rfl) | (obtain ⟨_, _, _, _, _, rfl, _⟩ := h; rfl) | (obtain ⟨_, _, _, _, _, _, rfl, _⟩ := h; rfl) | (obtain ⟨_, _, _, _, _, _, _, rfl, _⟩ := h; rfl) | (obtain ⟨_, _, _, _, _, _, _, _, rfl, _⟩ := h; rfl) | (obtain ⟨_, _, _, _, _, _, _, _, _, rfl, _⟩ := h; rfl) | (obtain ⟨_, _, _, _, _, _, _, _, _, _, rfl, _⟩ := h; rfl) | (obtain ⟨_, _, _, _, _, _, _, _, _, _, _, rfl, _⟩ := h; rfl) | (obtain ⟨_, _, _, _, _, _, _, _, _, _, _, _, rfl, _⟩ := h; rfl) | (obtain ⟨_, _, _, _, _, _, _, _, _, _, _, _, _, rfl, _⟩ := h; rfl) | (obtain ⟨_, _, _, _, _, _, _, _, _, _, _, _, _, _, rfl, _⟩ := h; rfl) | (obtain ⟨_, _, _, _, _, _, _, _, _, _, _, _, _, _, _, rfl, _⟩ := h; rfl)
  · have hu := hu_of hr
    exact pss_cons (ps_lock (ps_setLc (i := 1) (own := [("one", 2)]) (by rfl) sc_Marks_marked.nd rfl rfl (sw_true rfl rfl rfl (by decide +kernel)) (pi_keys (pe_fld (pv 0) (by rfl))) (blkOk_by (own := [("one", 2)]) (N := ["self", "found", "one"]) (sc := defScope s_Marks_marked) (by decide +kernel)) (fun _ _ _ _ _ => pg_name (i := 2) sc_Marks_marked.nd rfl (by first | exact Or.inl rfl | exact Or.inr rfl)) (fun _ _ _ _ _ => pts_one (pt_cmpR op_ne (pe_ix ix_tup (pe_dget hu (pe_fld (pv 0) (by rfl)) (pv 2) (fun _ _ => rfl)) (pe_int) (fun _ _ => rfl)) (pe_str) (nomark _))) (fun _ _ _ _ _ => pe_ix ix_tup (pe_dget hu (pe_fld (pv 0) (by rfl)) (pv 2) (fun _ _ => rfl)) (pe_int) (fun _ _ => rfl))))
      (pss_one (ps_ret (pe_sset rfl (by rfl) T.m_sorted (by rfl) T.m_set (pa_cons (pv 1) (pa_nil)))))
  · exact pure_marked ⟨⟨T.cl_Marks, T.na_Marks_hands, T.na_Marks_worth, T.na_Marks_cells, T.na_Marks_made⟩, T.na_Marks_marks, T.na_Marks_waits⟩ h
set_option maxHeartbeats 8000000 in
theorem ok_Marks__Store_let_go (T : Txt K mg D) : FnOk P w K mg base CX0 1 D.f_Store_let_go D.d_Store_let_go ["self", "things"] (sp_let_go D.c_Marks) := by
  refine T.F_Store_let_go.ok sc_Store_let_go (fun vs H Q E h => ?_) (fun cdv A outer s H vs Q E hr h => ⟨t_Store_let_go K, ?_, ?_⟩)
  · first | (obtain ⟨_, rfl, _⟩ := h; rfl) | (obtain ⟨_, _, rfl, _⟩ := h; rfl) | (obtain ⟨_, _, _, rfl, _⟩ := h; rfl) | (obtain ⟨_, _, _, _, rfl, _⟩ := h; rfl) | (obtain ⟨_, _, _, _, _, rfl, _⟩ := h; rfl) | (obtain ⟨_, _, _, _, _, _, rfl, _⟩ := h; rfl) | (obtain ⟨_, _, _, _, _, _, _, rfl, _⟩ := h; rfl) | (obtain ⟨_, _, _, _, _, _, _, _, rfl, _⟩ := h; rfl) | (obtain ⟨_, _, _, _, _, _, _, _, _, rfl, _⟩ := h; rfl) | (obtain ⟨_, _, _, _, _, _, _, _, _, _, rfl, _⟩ := h; rfl) | (obtain ⟨_, _, _, _, _, _, _, _, _, _, _, rfl, _⟩ := h; rfl) | (obtain ⟨_, _, _, _, _, _, _, _, _, _, _, _, rfl, _⟩ := h; rfl) | (obtain ⟨_, _, _, _, _, _, _, _, _, _, _, _, _, rfl, _⟩ := h; rfl) | (obtain ⟨_, _, _, _, _, _, _, _, _, _, _, _, _, _, rfl, _⟩ := h; rfl) | (obtain ⟨_, _, _, _, _, _, _, _, _, _, _, _, _, _, _, rfl, _⟩ := h; rfl)
  · have hu := hu_of hr
    exact pss_cons (ps_for PassesOwn.never rfl (pi_list (pv 1)) (pg_name (i := 2) sc_Store_let_go.nd rfl (by first | exact Or.inl rfl | exact Or.inr rfl)) (pss_one (ps_expr (pe_dpop1 (pe_fld (pv 0) (by rfl)) (pv 2) ⟨rfl, rfl, rfl, rfl⟩))))
      (pss_one (ps_ret (pe_callB cr_sortedI (by rfl) T.m_sorted (by decide +kernel) (pa_cons (pv 1) (pa_nil)))))
  · exact pure_let_go ⟨T.cl_Marks, T.na_Marks_hands, T.na_Marks_worth, T.na_Marks_cells, T.na_Marks_made⟩ h
set_option maxHeartbeats 8000000 in
theorem ok_Marks__Marks_sweep (T : Txt K mg D) : FnOk P w K mg base CX0 2 D.f_Marks_sweep D.d_Marks_sweep ["self"] (sp_sweep D.c_Marks) := by
  have G_Marks__Marks_marked : FnOk P w K mg base CX0 1 D.f_Marks_marked D.d_Marks_marked ["self"] (sp_marked D.c_Marks) := ok_Marks__Marks_marked T
  have G_Marks__Store_let_go : FnOk P w K mg base CX0 1 D.f_Store_let_go D.d_Store_let_go ["self", "things"] (sp_let_go D.c_Marks) := ok_Marks__Store_let_go T
  refine T.F_Marks_sweep.ok sc_Marks_sweep (fun vs H Q E h => ?_) (fun cdv A outer s H vs Q E hr h => ⟨t_Marks_sweep K D.c_Marks (sp_marked D.c_Marks) (sp_let_go D.c_Marks), ?_, ?_⟩)
  · first | (obtain ⟨_, rfl, _⟩ := h; rfl) | (obtain ⟨_, _, rfl, _⟩ := h; rfl) | (obtain ⟨_, _, _, rfl, _⟩ := h; rfl) | (obtain ⟨_, _, _, _, rfl, _⟩ := h; rfl) | (obtain ⟨_, _, _, _, _, rfl, _⟩ := h; rfl) | (obtain ⟨_, _, _, _, _, _, rfl, _⟩ := h; rfl) | (obtain ⟨_, _, _, _, _, _, _, rfl, _⟩ := h; rfl) | (obtain ⟨_, _, _, _, _, _, _, _, rfl, _⟩ := h; rfl) | (obtain ⟨_, _, _, _, _, _, _, _, _, rfl, _⟩ := h; rfl) | (obtain ⟨_, _, _, _, _, _, _, _, _, _, rfl, _⟩ := h; rfl) | (obtain ⟨_, _, _, _, _, _, _, _, _, _, _, rfl, _⟩ := h; rfl) | (obtain ⟨_, _, _, _, _, _, _, _, _, _, _, _, rfl, _⟩ := h; rfl) | (obtain ⟨_, _, _, _, _, _, _, _, _, _, _, _, _, rfl, _⟩ := h; rfl) | (obtain ⟨_, _, _, _, _, _, _, _, _, _, _, _, _, _, rfl, _⟩ := h; rfl) | (obtain ⟨_, _, _, _, _, _, _, _, _, _, _, _, _, _, _, rfl, _⟩ := h; rfl)
  · have hu := hu_of hr
    exact pss_cons (ps_set (i := 1) sc_Marks_sweep.nd rfl (by first | exact Or.inl rfl | exact Or.inr rfl) (pe_meth0 (pv 0) T.cl_Marks T.me_Marks_marked G_Marks__Marks_marked (hr.mono (by decide)) T.b_Marks_marked .nil pass0))
      (pss_cons (ps_setLc (i := 2) (own := [("thing", 3)]) (by rfl) sc_Marks_sweep.nd rfl rfl (sw_true rfl rfl rfl (by decide +kernel)) (pi_list (pe_fld (pv 0) (by rfl))) (blkOk_by (own := [("thing", 3)]) (N := ["self", "bear", "found", "thing"]) (sc := defScope s_Marks_sweep) (by decide +kernel)) (fun _ _ _ _ _ => pg_name (i := 3) sc_Marks_sweep.nd rfl (by first | exact Or.inl rfl | exact Or.inr rfl)) (fun _ _ _ _ _ => pts_one (pt_cmpR op_notIn_seq (pv 3) (pv 1) (by rfl))) (fun _ _ _ _ _ => pv 3))
      (pss_cons (ps_fld (pv 0) (pe_lc (own := [("thing", 3)]) (by rfl) sc_Marks_sweep.nd (pi_list (pe_fld (pv 0) (by rfl))) (blkOk_by (own := [("thing", 3)]) (N := ["self", "bear", "found", "thing"]) (sc := defScope s_Marks_sweep) (by decide +kernel)) (fun _ _ _ _ _ => pg_name (i := 3) sc_Marks_sweep.nd rfl (by first | exact Or.inl rfl | exact Or.inr rfl)) (fun _ _ _ _ _ => pts_one (pt_cmpR op_in_seq (pv 3) (pv 1) (by rfl))) (fun _ _ _ _ _ => pv 3)) (by rfl))
      (pss_one (ps_ret (pe_meth (pv 0) T.cl_Marks T.me_Marks_let_go G_Marks__Store_let_go (hr.mono (by decide)) T.b_Store_let_go .nil pass0 (pa_cons (pv 2) (pa_nil)))))))
  · exact pure_sweep ⟨⟨T.cl_Marks, T.na_Marks_hands, T.na_Marks_worth, T.na_Marks_cells, T.na_Marks_made⟩, T.na_Marks_marks, T.na_Marks_waits⟩ h
set_option maxHeartbeats 8000000 in
theorem ok_Versions__Versions_trim (T : Txt K mg D) : FnOk P w K mg base CX0 1 D.f_Versions_trim D.d_Versions_trim ["self"] (sp_vtrim D.c_Versions) := by
  refine T.F_Versions_trim.ok sc_Versions_trim (fun vs H Q E h => ?_) (fun cdv A outer s H vs Q E hr h => ⟨t_Versions_trim K, ?_, ?_⟩)
  · first | (obtain ⟨_, rfl, _⟩ := h; rfl) | (obtain ⟨_, _, rfl, _⟩ := h; rfl) | (obtain ⟨_, _, _, rfl, _⟩ := h; rfl) | (obtain ⟨_, _, _, _, rfl, _⟩ := h; rfl) | (obtain ⟨_, _, _, _, _, rfl, _⟩ := h; rfl) | (obtain ⟨_, _, _, _, _, _, rfl, _⟩ := h; rfl) | (obtain ⟨_, _, _, _, _, _, _, rfl, _⟩ := h; rfl) | (obtain ⟨_, _, _, _, _, _, _, _, rfl, _⟩ := h; rfl) | (obtain ⟨_, _, _, _, _, _, _, _, _, rfl, _⟩ := h; rfl) | (obtain ⟨_, _, _, _, _, _, _, _, _, _, rfl, _⟩ := h; rfl) | (obtain ⟨_, _, _, _, _, _, _, _, _, _, _, rfl, _⟩ := h; rfl) | (obtain ⟨_, _, _, _, _, _, _, _, _, _, _, _, rfl, _⟩ := h; rfl) | (obtain ⟨_, _, _, _, _, _, _, _, _, _, _, _, _, rfl, _⟩ := h; rfl) | (obtain ⟨_, _, _, _, _, _, _, _, _, _, _, _, _, _, rfl, _⟩ := h; rfl) | (obtain ⟨_, _, _, _, _, _, _, _, _, _, _, _, _, _, _, rfl, _⟩ := h; rfl)
  · have hu := hu_of hr
    exact pss_cons (ps_set (i := 1) sc_Versions_trim.nd rfl (by first | exact Or.inl rfl | exact Or.inr rfl) (pe_sset rfl (by rfl) T.m_sorted (by rfl) T.m_set (pa_cons (pe_op op_cat (pe_listVals rfl (pe_fld (pv 0) (by rfl)) (by rfl) T.m_list (by decide +kernel)) (pe_lst (pa_cons (pe_fld (pv 0) (by rfl)) (pa_nil)))) (pa_nil))))
      (pss_cons (ps_set (i := 2) sc_Versions_trim.nd rfl (by first | exact Or.inl rfl | exact Or.inr rfl) (pe_int))
      (pss_cons (ps_for PassesOwn.never rfl (pi_range1 (by rfl) T.m_range (pa_cons (pe_callB call_lenQ (by rfl) T.m_len PySem.boot_len (pa_cons (pe_fld (pv 0) (by rfl)) (pa_nil))) (pa_nil))) (pg_name (i := 3) sc_Versions_trim.nd rfl (by first | exact Or.inl rfl | exact Or.inr rfl)) (pss_cons (ps_set (i := 4) sc_Versions_trim.nd rfl (by first | exact Or.inl rfl | exact Or.inr rfl) (pe_ix ix_list (pe_fld (pv 0) (by rfl)) (pv 3) (fun _ _ => rfl)))
      (pss_cons (ps_set (i := 5) sc_Versions_trim.nd rfl (by first | exact Or.inl rfl | exact Or.inr rfl) (pe_lc (own := [("version", 8)]) (by rfl) sc_Versions_trim.nd (pi_list (pv 1)) (blkOk_by (own := [("version", 8)]) (N := ["self", "seen", "many", "cell", "row", "needed", "made", "value", "version", "one"]) (sc := defScope s_Versions_trim) (by decide +kernel)) (fun _ _ _ _ _ => pg_name (i := 8) sc_Versions_trim.nd rfl (by first | exact Or.inl rfl | exact Or.inr rfl)) (fun _ _ _ _ _ => pts_nil) (fun _ _ _ _ _ => pe_callB (cr_max rfl) (by rfl) T.m_max (by decide +kernel) (pa_cons (pe_lc (own := [("made", 6), ("value", 7)]) (by rfl) sc_Versions_trim.nd (pi_list (pv 4)) (blkOk_by (own := [("made", 6), ("value", 7)]) (N := ["self", "seen", "many", "cell", "row", "needed", "made", "value", "version", "one"]) (sc := { kind := ScopeKind.function, names := [(".0", NameKind.local), ("version", NameKind.cell), ("max", NameKind.globalImplicit), ("row", NameKind.cell)], isGenerator := false, isCoroutine := false }) (by decide +kernel)) (fun _ _ _ _ _ => pg_tup rfl (pgs_cons (pg_name (i := 6) sc_Versions_trim.nd rfl (by first | exact Or.inl rfl | exact Or.inr rfl)) (pgs_cons (pg_name (i := 7) sc_Versions_trim.nd rfl (by first | exact Or.inl rfl | exact Or.inr rfl)) (pgs_nil)))) (fun _ _ _ _ _ => pts_one (pt_cmpR op_leI (pv 6) (pv 8) (nomark _))) (fun _ _ _ _ _ => pv 6)) (pa_nil)))))
      (pss_cons (ps_asg (pe_lc (own := [("one", 9)]) (by rfl) sc_Versions_trim.nd (pi_list (pv 4)) (blkOk_by (own := [("one", 9)]) (N := ["self", "seen", "many", "cell", "row", "needed", "made", "value", "version", "one"]) (sc := defScope s_Versions_trim) (by decide +kernel)) (fun _ _ _ _ _ => pg_name (i := 9) sc_Versions_trim.nd rfl (by first | exact Or.inl rfl | exact Or.inr rfl)) (fun _ _ _ _ _ => pts_one (pt_cmpR op_in_seq (pe_ix ix_tup (pv 9) (pe_int) (fun _ _ => rfl)) (pv 5) (by rfl))) (fun _ _ _ _ _ => pv 9)) (pg_sub (pe_fld (pv 0) (by rfl)) (pv 3) set_list))
      (pss_one (ps_set (i := 2) sc_Versions_trim.nd rfl (by first | exact Or.inl rfl | exact Or.inr rfl) (pe_op op_subI (pe_op op_addI (pv 2) (pe_callB call_lenQ (by rfl) T.m_len PySem.boot_len (pa_cons (pv 4) (pa_nil)))) (pe_callB call_lenQ (by rfl) T.m_len PySem.boot_len (pa_cons (pe_ix ix_list (pe_fld (pv 0) (by rfl)) (pv 3) (fun _ _ => rfl)) (pa_nil))))))))))
      (pss_one (ps_ret (pv 2)))))
  · exact pure_vtrim ⟨T.cl_Versions, T.na_Versions_hands, T.na_Versions_rows, T.na_Versions_version, T.na_Versions_begun, T.na_Versions_asked⟩ h
set_option maxHeartbeats 8000000 in
theorem ok_Rounds__Store_kept (T : Txt K mg D) : FnOk P w K mg base CX0 1 D.f_Store_kept D.d_Store_kept ["self"] (sp_kept D.c_Rounds) := by
  refine T.F_Store_kept.ok sc_Store_kept (fun vs H Q E h => ?_) (fun cdv A outer s H vs Q E hr h => ⟨t_Store_kept K, ?_, ?_⟩)
  · first | (obtain ⟨_, rfl, _⟩ := h; rfl) | (obtain ⟨_, _, rfl, _⟩ := h; rfl) | (obtain ⟨_, _, _, rfl, _⟩ := h; rfl) | (obtain ⟨_, _, _, _, rfl, _⟩ := h; rfl) | (obtain ⟨_, _, _, _, _, rfl, _⟩ := h; rfl) | (obtain ⟨_, _, _, _, _, _, rfl, _⟩ := h; rfl) | (obtain ⟨_, _, _, _, _, _, _, rfl, _⟩ := h; rfl) | (obtain ⟨_, _, _, _, _, _, _, _, rfl, _⟩ := h; rfl) | (obtain ⟨_, _, _, _, _, _, _, _, _, rfl, _⟩ := h; rfl) | (obtain ⟨_, _, _, _, _, _, _, _, _, _, rfl, _⟩ := h; rfl) | (obtain ⟨_, _, _, _, _, _, _, _, _, _, _, rfl, _⟩ := h; rfl) | (obtain ⟨_, _, _, _, _, _, _, _, _, _, _, _, rfl, _⟩ := h; rfl) | (obtain ⟨_, _, _, _, _, _, _, _, _, _, _, _, _, rfl, _⟩ := h; rfl) | (obtain ⟨_, _, _, _, _, _, _, _, _, _, _, _, _, _, rfl, _⟩ := h; rfl) | (obtain ⟨_, _, _, _, _, _, _, _, _, _, _, _, _, _, _, rfl, _⟩ := h; rfl)
  · have hu := hu_of hr
    exact pss_one (ps_ret (pe_callB (call_sortD rfl) (by rfl) T.m_sorted (by decide +kernel) (pa_cons (pe_fld (pv 0) (by rfl)) (pa_nil))))
  · exact pure_kept ⟨T.cl_Rounds, T.na_Rounds_hands, T.na_Rounds_worth, T.na_Rounds_cells, T.na_Rounds_made⟩ h
set_option maxHeartbeats 8000000 in
theorem ok_Marks__Store_kept (T : Txt K mg D) : FnOk P w K mg base CX0 1 D.f_Store_kept D.d_Store_kept ["self"] (sp_kept D.c_Marks) := by
  refine T.F_Store_kept.ok sc_Store_kept (fun vs H Q E h => ?_) (fun cdv A outer s H vs Q E hr h => ⟨t_Store_kept K, ?_, ?_⟩)
  · first | (obtain ⟨_, rfl, _⟩ := h; rfl) | (obtain ⟨_, _, rfl, _⟩ := h; rfl) | (obtain ⟨_, _, _, rfl, _⟩ := h; rfl) | (obtain ⟨_, _, _, _, rfl, _⟩ := h; rfl) | (obtain ⟨_, _, _, _, _, rfl, _⟩ := h; rfl) | (obtain ⟨_, _, _, _, _, _, rfl, _⟩ := h; rfl) | (obtain ⟨_, _, _, _, _, _, _, rfl, _⟩ := h; rfl) | (obtain ⟨_, _, _, _, _, _, _, _, rfl, _⟩ := h; rfl) | (obtain ⟨_, _, _, _, _, _, _, _, _, rfl, _⟩ := h; rfl) | (obtain ⟨_, _, _, _, _, _, _, _, _, _, rfl, _⟩ := h; rfl) | (obtain ⟨_, _, _, _, _, _, _, _, _, _, _, rfl, _⟩ := h; rfl) | (obtain ⟨_, _, _, _, _, _, _, _, _, _, _, _, rfl, _⟩ := h; rfl) | (obtain ⟨_, _, _, _, _, _, _, _, _, _, _, _, _, rfl, _⟩ := h; rfl) | (obtain ⟨_, _, _, _, _, _, _, _, _, _, _, _, _, _, rfl, _⟩ := h; rfl) | (obtain ⟨_, _, _, _, _, _, _, _, _, _, _, _, _, _, _, rfl, _⟩ := h; rfl)
  · have hu := hu_of hr
    exact pss_one (ps_ret (pe_callB (call_sortD rfl) (by rfl) T.m_sorted (by decide +kernel) (pa_cons (pe_fld (pv 0) (by rfl)) (pa_nil))))
  · exact pure_kept ⟨T.cl_Marks, T.na_Marks_hands, T.na_Marks_worth, T.na_Marks_cells, T.na_Marks_made⟩ h
set_option maxHeartbeats 8000000 in
theorem ok_Counts__Store_kept (T : Txt K mg D) : FnOk P w K mg base CX0 1 D.f_Store_kept D.d_Store_kept ["self"] (sp_kept D.c_Counts) := by
  refine T.F_Store_kept.ok sc_Store_kept (fun vs H Q E h => ?_) (fun cdv A outer s H vs Q E hr h => ⟨t_Store_kept K, ?_, ?_⟩)
  · first | (obtain ⟨_, rfl, _⟩ := h; rfl) | (obtain ⟨_, _, rfl, _⟩ := h; rfl) | (obtain ⟨_, _, _, rfl, _⟩ := h; rfl) | (obtain ⟨_, _, _, _, rfl, _⟩ := h; rfl) | (obtain ⟨_, _, _, _, _, rfl, _⟩ := h; rfl) | (obtain ⟨_, _, _, _, _, _, rfl, _⟩ := h; rfl) | (obtain ⟨_, _, _, _, _, _, _, rfl, _⟩ := h; rfl) | (obtain ⟨_, _, _, _, _, _, _, _, rfl, _⟩ := h; rfl) | (obtain ⟨_, _, _, _, _, _, _, _, _, rfl, _⟩ := h; rfl) | (obtain ⟨_, _, _, _, _, _, _, _, _, _, rfl, _⟩ := h; rfl) | (obtain ⟨_, _, _, _, _, _, _, _, _, _, _, rfl, _⟩ := h; rfl) | (obtain ⟨_, _, _, _, _, _, _, _, _, _, _, _, rfl, _⟩ := h; rfl) | (obtain ⟨_, _, _, _, _, _, _, _, _, _, _, _, _, rfl, _⟩ := h; rfl) | (obtain ⟨_, _, _, _, _, _, _, _, _, _, _, _, _, _, rfl, _⟩ := h; rfl) | (obtain ⟨_, _, _, _, _, _, _, _, _, _, _, _, _, _, _, rfl, _⟩ := h; rfl)
  · have hu := hu_of hr
    exact pss_one (ps_ret (pe_callB (call_sortD rfl) (by rfl) T.m_sorted (by decide +kernel) (pa_cons (pe_fld (pv 0) (by rfl)) (pa_nil))))
  · exact pure_kept ⟨T.cl_Counts, T.na_Counts_hands, T.na_Counts_worth, T.na_Counts_cells, T.na_Counts_made⟩ h
set_option maxHeartbeats 8000000 in
theorem ok_Versions__Versions_look_cell (T : Txt K mg D) : FnOk P w K mg base CX0 2 D.f_Versions_look_cell D.d_Versions_look_cell ["self", "cell"] (sp_vlook_cell D.c_Versions) := by
  have G_is_whole : FnOk P w K mg base CX0 1 D.f_is_whole D.d_is_whole ["thing", "low", "high"] (sp_is_whole) := ok_is_whole T
  refine T.F_Versions_look_cell.ok sc_Versions_look_cell (fun vs H Q E h => ?_) (fun cdv A outer s H vs Q E hr h => ⟨t_Versions_look_cell K (sp_is_whole), ?_, ?_⟩)
  · first | (obtain ⟨_, rfl, _⟩ := h; rfl) | (obtain ⟨_, _, rfl, _⟩ := h; rfl) | (obtain ⟨_, _, _, rfl, _⟩ := h; rfl) | (obtain ⟨_, _, _, _, rfl, _⟩ := h; rfl) | (obtain ⟨_, _, _, _, _, rfl, _⟩ := h; rfl) | (obtain ⟨_, _, _, _, _, _, rfl, _⟩ := h; rfl) | (obtain ⟨_, _, _, _, _, _, _, rfl, _⟩ := h; rfl) | (obtain ⟨_, _, _, _, _, _, _, _, rfl, _⟩ := h; rfl) | (obtain ⟨_, _, _, _, _, _, _, _, _, rfl, _⟩ := h; rfl) | (obtain ⟨_, _, _, _, _, _, _, _, _, _, rfl, _⟩ := h; rfl) | (obtain ⟨_, _, _, _, _, _, _, _, _, _, _, rfl, _⟩ := h; rfl) | (obtain ⟨_, _, _, _, _, _, _, _, _, _, _, _, rfl, _⟩ := h; rfl) | (obtain ⟨_, _, _, _, _, _, _, _, _, _, _, _, _, rfl, _⟩ := h; rfl) | (obtain ⟨_, _, _, _, _, _, _, _, _, _, _, _, _, _, rfl, _⟩ := h; rfl) | (obtain ⟨_, _, _, _, _, _, _, _, _, _, _, _, _, _, _, rfl, _⟩ := h; rfl)
  · have hu := hu_of hr
    exact pss_one (ps_if (pt_not (pt_val (pe_call G_is_whole (hr.mono (by decide)) (by rfl) T.g_is_whole T.F_is_whole.kp T.b_is_whole .nil pass0 (pa_cons (pv 1) (pa_cons (pe_int) (pa_cons (pe_op op_subI (pe_callB call_lenQ (by rfl) T.m_len PySem.boot_len (pa_cons (pe_fld (pv 0) (by rfl)) (pa_nil))) (pe_int)) (pa_nil))))))) (pss_one (ps_never)) (pss_nil))
  · exact pure_vlook_cell ⟨T.cl_Versions, T.na_Versions_hands, T.na_Versions_rows, T.na_Versions_version, T.na_Versions_begun, T.na_Versions_asked⟩ h
set_option maxHeartbeats 8000000 in
theorem ok_Versions__Versions_kept (T : Txt K mg D) : FnOk P w K mg base CX0 3 D.f_Versions_kept D.d_Versions_kept ["self", "cell"] (sp_vkept D.c_Versions) := by
  have G_Versions__Versions_look_cell : FnOk P w K mg base CX0 2 D.f_Versions_look_cell D.d_Versions_look_cell ["self", "cell"] (sp_vlook_cell D.c_Versions) := ok_Versions__Versions_look_cell T
  refine T.F_Versions_kept.ok sc_Versions_kept (fun vs H Q E h => ?_) (fun cdv A outer s H vs Q E hr h => ⟨t_Versions_kept K D.c_Versions (sp_vlook_cell D.c_Versions), ?_, ?_⟩)
  · first | (obtain ⟨_, rfl, _⟩ := h; rfl) | (obtain ⟨_, _, rfl, _⟩ := h; rfl) | (obtain ⟨_, _, _, rfl, _⟩ := h; rfl) | (obtain ⟨_, _, _, _, rfl, _⟩ := h; rfl) | (obtain ⟨_, _, _, _, _, rfl, _⟩ := h; rfl) | (obtain ⟨_, _, _, _, _, _, rfl, _⟩ := h; rfl) | (obtain ⟨_, _, _, _, _, _, _, rfl, _⟩ := h; rfl) | (obtain ⟨_, _, _, _, _, _, _, _, rfl, _⟩ := h; rfl) | (obtain ⟨_, _, _, _, _, _, _, _, _, rfl, _⟩ := h; rfl) | (obtain ⟨_, _, _, _, _, _, _, _, _, _, rfl, _⟩ := h; rfl) | (obtain ⟨_, _, _, _, _, _, _, _, _, _, _, rfl, _⟩ := h; rfl) | (obtain ⟨_, _, _, _, _, _, _, _, _, _, _, _, rfl, _⟩ := h; rfl) | (obtain ⟨_, _, _, _, _, _, _, _, _, _, _, _, _, rfl, _⟩ := h; rfl) | (obtain ⟨_, _, _, _, _, _, _, _, _, _, _, _, _, _, rfl, _⟩ := h; rfl) | (obtain ⟨_, _, _, _, _, _, _, _, _, _, _, _, _, _, _, rfl, _⟩ := h; rfl)
  · have hu := hu_of hr
    exact pss_cons (ps_expr (pe_meth (pv 0) T.cl_Versions T.me_Versions_look_cell G_Versions__Versions_look_cell (hr.mono (by decide)) T.b_Versions_look_cell .nil pass0 (pa_cons (pv 1) (pa_nil))))
      (pss_one (ps_ret (pe_lc (own := [("made", 2), ("value", 3)]) (by rfl) sc_Versions_kept.nd (pi_list (pe_ix ix_list (pe_fld (pv 0) (by rfl)) (pv 1) (fun _ _ => rfl))) (blkOk_by (own := [("made", 2), ("value", 3)]) (N := ["self", "cell", "made", "value"]) (sc := defScope s_Versions_kept) (by decide +kernel)) (fun _ _ _ _ _ => pg_tup rfl (pgs_cons (pg_name (i := 2) sc_Versions_kept.nd rfl (by first | exact Or.inl rfl | exact Or.inr rfl)) (pgs_cons (pg_name (i := 3) sc_Versions_kept.nd rfl (by first | exact Or.inl rfl | exact Or.inr rfl)) (pgs_nil)))) (fun _ _ _ _ _ => pts_nil) (fun _ _ _ _ _ => pv 2))))
  · exact pure_vkept ⟨T.cl_Versions, T.na_Versions_hands, T.na_Versions_rows, T.na_Versions_version, T.na_Versions_begun, T.na_Versions_asked⟩ h
set_option maxHeartbeats 8000000 in
theorem ok_Rounds__Rounds_leave (T : Txt K mg D) : FnOk P w K mg base CX0 4 D.f_Rounds_leave D.d_Rounds_leave ["self", "hand"] (sp_leave D.c_Rounds) := by
  have G_Rounds__Rounds_look_in : FnOk P w K mg base CX0 3 D.f_Rounds_look_in D.d_Rounds_look_in ["self", "hand"] (sp_rlook_in D.c_Rounds) := ok_Rounds__Rounds_look_in T
  refine T.F_Rounds_leave.ok sc_Rounds_leave (fun vs H Q E h => ?_) (fun cdv A outer s H vs Q E hr h => ⟨t_Rounds_leave K D.c_Rounds (sp_rlook_in D.c_Rounds), ?_, ?_⟩)
  · first | (obtain ⟨_, rfl, _⟩ := h; rfl) | (obtain ⟨_, _, rfl, _⟩ := h; rfl) | (obtain ⟨_, _, _, rfl, _⟩ := h; rfl) | (obtain ⟨_, _, _, _, rfl, _⟩ := h; rfl) | (obtain ⟨_, _, _, _, _, rfl, _⟩ := h; rfl) | (obtain ⟨_, _, _, _, _, _, rfl, _⟩ := h; rfl) | (obtain ⟨_, _, _, _, _, _, _, rfl, _⟩ := h; rfl) | (obtain ⟨_, _, _, _, _, _, _, _, rfl, _⟩ := h; rfl) | (obtain ⟨_, _, _, _, _, _, _, _, _, rfl, _⟩ := h; rfl) | (obtain ⟨_, _, _, _, _, _, _, _, _, _, rfl, _⟩ := h; rfl) | (obtain ⟨_, _, _, _, _, _, _, _, _, _, _, rfl, _⟩ := h; rfl) | (obtain ⟨_, _, _, _, _, _, _, _, _, _, _, _, rfl, _⟩ := h; rfl) | (obtain ⟨_, _, _, _, _, _, _, _, _, _, _, _, _, rfl, _⟩ := h; rfl) | (obtain ⟨_, _, _, _, _, _, _, _, _, _, _, _, _, _, rfl, _⟩ := h; rfl) | (obtain ⟨_, _, _, _, _, _, _, _, _, _, _, _, _, _, _, rfl, _⟩ := h; rfl)
  · have hu := hu_of hr
    exact pss_cons (ps_expr (pe_meth (pv 0) T.cl_Rounds T.me_Rounds_look_in G_Rounds__Rounds_look_in (hr.mono (by decide)) T.b_Rounds_look_in .nil pass0 (pa_cons (pv 1) (pa_nil))))
      (pss_cons (ps_expr (pe_dpop1 (pe_fld (pv 0) (by rfl)) (pv 1) ⟨rfl, rfl, rfl, rfl⟩))
      (pss_one (ps_expr (pe_dpop1 (pe_fld (pv 0) (by rfl)) (pv 1) ⟨rfl, rfl, rfl, rfl⟩))))
  · exact pure_leave ⟨⟨T.cl_Rounds, T.na_Rounds_hands, T.na_Rounds_worth, T.na_Rounds_cells, T.na_Rounds_made⟩, T.na_Rounds_era, T.na_Rounds_inside, T.na_Rounds_saw, T.na_Rounds_waits⟩ h
set_option maxHeartbeats 8000000 in
theorem ok_Marks__Marks_clear_mark (T : Txt K mg D) : FnOk P w K mg base CX0 5 D.f_Marks_clear_mark D.d_Marks_clear_mark ["self", "hand", "mark"] (sp_clear_mark D.c_Marks) := by
  have G_Marks__Marks_state_of : FnOk P w K mg base CX0 4 D.f_Marks_state_of D.d_Marks_state_of ["self", "hand", "mark", "states"] (sp_state_of D.c_Marks) := ok_Marks__Marks_state_of T
  refine T.F_Marks_clear_mark.ok sc_Marks_clear_mark (fun vs H Q E h => ?_) (fun cdv A outer s H vs Q E hr h => ⟨t_Marks_clear_mark K D.c_Marks (sp_state_of D.c_Marks), ?_, ?_⟩)
  · first | (obtain ⟨_, rfl, _⟩ := h; rfl) | (obtain ⟨_, _, rfl, _⟩ := h; rfl) | (obtain ⟨_, _, _, rfl, _⟩ := h; rfl) | (obtain ⟨_, _, _, _, rfl, _⟩ := h; rfl) | (obtain ⟨_, _, _, _, _, rfl, _⟩ := h; rfl) | (obtain ⟨_, _, _, _, _, _, rfl, _⟩ := h; rfl) | (obtain ⟨_, _, _, _, _, _, _, rfl, _⟩ := h; rfl) | (obtain ⟨_, _, _, _, _, _, _, _, rfl, _⟩ := h; rfl) | (obtain ⟨_, _, _, _, _, _, _, _, _, rfl, _⟩ := h; rfl) | (obtain ⟨_, _, _, _, _, _, _, _, _, _, rfl, _⟩ := h; rfl) | (obtain ⟨_, _, _, _, _, _, _, _, _, _, _, rfl, _⟩ := h; rfl) | (obtain ⟨_, _, _, _, _, _, _, _, _, _, _, _, rfl, _⟩ := h; rfl) | (obtain ⟨_, _, _, _, _, _, _, _, _, _, _, _, _, rfl, _⟩ := h; rfl) | (obtain ⟨_, _, _, _, _, _, _, _, _, _, _, _, _, _, rfl, _⟩ := h; rfl) | (obtain ⟨_, _, _, _, _, _, _, _, _, _, _, _, _, _, _, rfl, _⟩ := h; rfl)
  · have hu := hu_of hr
    exact pss_cons (ps_expr (pe_meth (pv 0) T.cl_Marks T.me_Marks_state_of G_Marks__Marks_state_of (hr.mono (by decide)) T.b_Marks_state_of .nil pass0 (pa_cons (pv 1) (pa_cons (pv 2) (pa_cons (pe_tup (pa_cons (pe_str) (pa_cons (pe_str) (pa_cons (pe_str) (pa_nil))))) (pa_nil))))))
      (pss_one (ps_expr (pe_dpopT hu (pe_fld (pv 0) (by rfl)) (pe_tup (pa_cons (pv 1) (pa_cons (pv 2) (pa_nil)))) ⟨rfl, rfl, rfl, rfl⟩)))
  · exact pure_clear_mark ⟨⟨T.cl_Marks, T.na_Marks_hands, T.na_Marks_worth, T.na_Marks_cells, T.na_Marks_made⟩, T.na_Marks_marks, T.na_Marks_waits⟩ h
set_option maxHeartbeats 8000000 in
theorem ok_Versions__Versions_look_in (T : Txt K mg D) : FnOk P w K mg base CX0 3 D.f_Versions_look_in D.d_Versions_look_in ["self", "hand"] (sp_vlook_in D.c_Versions) := by
  have G_Versions__Versions_look_hand : FnOk P w K mg base CX0 2 D.f_Versions_look_hand D.d_Versions_look_hand ["self", "hand"] (sp_vlook_hand D.c_Versions) := ok_Versions__Versions_look_hand T
  refine T.F_Versions_look_in.ok sc_Versions_look_in (fun vs H Q E h => ?_) (fun cdv A outer s H vs Q E hr h => ⟨t_Versions_look_in K D.c_Versions (sp_vlook_hand D.c_Versions), ?_, ?_⟩)
  · first | (obtain ⟨_, rfl, _⟩ := h; rfl) | (obtain ⟨_, _, rfl, _⟩ := h; rfl) | (obtain ⟨_, _, _, rfl, _⟩ := h; rfl) | (obtain ⟨_, _, _, _, rfl, _⟩ := h; rfl) | (obtain ⟨_, _, _, _, _, rfl, _⟩ := h; rfl) | (obtain ⟨_, _, _, _, _, _, rfl, _⟩ := h; rfl) | (obtain ⟨_, _, _, _, _, _, _, rfl, _⟩ := h; rfl) | (obtain ⟨_, _, _, _, _, _, _, _, rfl, _⟩ := h; rfl) | (obtain ⟨_, _, _, _, _, _, _, _, _, rfl, _⟩ := h; rfl) | (obtain ⟨_, _, _, _, _, _, _, _, _, _, rfl, _⟩ := h; rfl) | (obtain ⟨_, _, _, _, _, _, _, _, _, _, _, rfl, _⟩ := h; rfl) | (obtain ⟨_, _, _, _, _, _, _, _, _, _, _, _, rfl, _⟩ := h; rfl) | (obtain ⟨_, _, _, _, _, _, _, _, _, _, _, _, _, rfl, _⟩ := h; rfl) | (obtain ⟨_, _, _, _, _, _, _, _, _, _, _, _, _, _, rfl, _⟩ := h; rfl) | (obtain ⟨_, _, _, _, _, _, _, _, _, _, _, _, _, _, _, rfl, _⟩ := h; rfl)
  · have hu := hu_of hr
    exact pss_cons (ps_expr (pe_meth (pv 0) T.cl_Versions T.me_Versions_look_hand G_Versions__Versions_look_hand (hr.mono (by decide)) T.b_Versions_look_hand .nil pass0 (pa_cons (pv 1) (pa_nil))))
      (pss_one (ps_if (pt_cmp (pc_dnotin hu (pv 1) (pe_fld (pv 0) (by rfl))) (by rfl)) (pss_one (ps_never)) (pss_nil)))
  · exact pure_vlook_in ⟨T.cl_Versions, T.na_Versions_hands, T.na_Versions_rows, T.na_Versions_version, T.na_Versions_begun, T.na_Versions_asked⟩ h
set_option maxHeartbeats 8000000 in
theorem ok_Versions__Versions_finish (T : Txt K mg D) : FnOk P w K mg base CX0 4 D.f_Versions_finish D.d_Versions_finish ["self", "hand"] (sp_vfinish D.c_Versions) := by
  have G_Versions__Versions_look_in : FnOk P w K mg base CX0 3 D.f_Versions_look_in D.d_Versions_look_in ["self", "hand"] (sp_vlook_in D.c_Versions) := ok_Versions__Versions_look_in T
  refine T.F_Versions_finish.ok sc_Versions_finish (fun vs H Q E h => ?_) (fun cdv A outer s H vs Q E hr h => ⟨t_Versions_finish K D.c_Versions (sp_vlook_in D.c_Versions), ?_, ?_⟩)
  · first | (obtain ⟨_, rfl, _⟩ := h; rfl) | (obtain ⟨_, _, rfl, _⟩ := h; rfl) | (obtain ⟨_, _, _, rfl, _⟩ := h; rfl) | (obtain ⟨_, _, _, _, rfl, _⟩ := h; rfl) | (obtain ⟨_, _, _, _, _, rfl, _⟩ := h; rfl) | (obtain ⟨_, _, _, _, _, _, rfl, _⟩ := h; rfl) | (obtain ⟨_, _, _, _, _, _, _, rfl, _⟩ := h; rfl) | (obtain ⟨_, _, _, _, _, _, _, _, rfl, _⟩ := h; rfl) | (obtain ⟨_, _, _, _, _, _, _, _, _, rfl, _⟩ := h; rfl) | (obtain ⟨_, _, _, _, _, _, _, _, _, _, rfl, _⟩ := h; rfl) | (obtain ⟨_, _, _, _, _, _, _, _, _, _, _, rfl, _⟩ := h; rfl) | (obtain ⟨_, _, _, _, _, _, _, _, _, _, _, _, rfl, _⟩ := h; rfl) | (obtain ⟨_, _, _, _, _, _, _, _, _, _, _, _, _, rfl, _⟩ := h; rfl) | (obtain ⟨_, _, _, _, _, _, _, _, _, _, _, _, _, _, rfl, _⟩ := h; rfl) | (obtain ⟨_, _, _, _, _, _, _, _, _, _, _, _, _, _, _, rfl, _⟩ := h; rfl)
  · have hu := hu_of hr
    exact pss_cons (ps_expr (pe_meth (pv 0) T.cl_Versions T.me_Versions_look_in G_Versions__Versions_look_in (hr.mono (by decide)) T.b_Versions_look_in .nil pass0 (pa_cons (pv 1) (pa_nil))))
      (pss_cons (ps_expr (pe_dpop1 (pe_fld (pv 0) (by rfl)) (pv 1) ⟨rfl, rfl, rfl, rfl⟩))
      (pss_one (ps_expr (pe_dpop1 (pe_fld (pv 0) (by rfl)) (pv 1) ⟨rfl, rfl, rfl, rfl⟩))))
  · exact pure_vfinish ⟨T.cl_Versions, T.na_Versions_hands, T.na_Versions_rows, T.na_Versions_version, T.na_Versions_begun, T.na_Versions_asked⟩ h
set_option maxHeartbeats 8000000 in
theorem ok_Counts__Counts_look_held (T : Txt K mg D) : FnOk P w K mg base CX0 3 D.f_Counts_look_held D.d_Counts_look_held ["self", "hand", "thing"] (sp_look_held D.c_Counts) := by
  have G_Counts__Store_look_hand : FnOk P w K mg base CX0 2 D.f_Store_look_hand D.d_Store_look_hand ["self", "hand"] (sp_look_hand D.c_Counts) := ok_Counts__Store_look_hand T
  refine T.F_Counts_look_held.ok sc_Counts_look_held (fun vs H Q E h => ?_) (fun cdv A outer s H vs Q E hr h => ⟨t_Counts_look_held K D.c_Counts (sp_look_hand D.c_Counts), ?_, ?_⟩)
  · first | (obtain ⟨_, rfl, _⟩ := h; rfl) | (obtain ⟨_, _, rfl, _⟩ := h; rfl) | (obtain ⟨_, _, _, rfl, _⟩ := h; rfl) | (obtain ⟨_, _, _, _, rfl, _⟩ := h; rfl) | (obtain ⟨_, _, _, _, _, rfl, _⟩ := h; rfl) | (obtain ⟨_, _, _, _, _, _, rfl, _⟩ := h; rfl) | (obtain ⟨_, _, _, _, _, _, _, rfl, _⟩ := h; rfl) | (obtain ⟨_, _, _, _, _, _, _, _, rfl, _⟩ := h; rfl) | (obtain ⟨_, _, _, _, _, _, _, _, _, rfl, _⟩ := h; rfl) | (obtain ⟨_, _, _, _, _, _, _, _, _, _, rfl, _⟩ := h; rfl) | (obtain ⟨_, _, _, _, _, _, _, _, _, _, _, rfl, _⟩ := h; rfl) | (obtain ⟨_, _, _, _, _, _, _, _, _, _, _, _, rfl, _⟩ := h; rfl) | (obtain ⟨_, _, _, _, _, _, _, _, _, _, _, _, _, rfl, _⟩ := h; rfl) | (obtain ⟨_, _, _, _, _, _, _, _, _, _, _, _, _, _, rfl, _⟩ := h; rfl) | (obtain ⟨_, _, _, _, _, _, _, _, _, _, _, _, _, _, _, rfl, _⟩ := h; rfl)
  · have hu := hu_of hr
    exact pss_cons (ps_expr (pe_meth (pv 0) T.cl_Counts T.me_Counts_look_hand G_Counts__Store_look_hand (hr.mono (by decide)) T.b_Store_look_hand .nil pass0 (pa_cons (pv 1) (pa_nil))))
      (pss_one (ps_if (PW.pt (pw_or (pt_val (pe_callB call_isi (by rfl) T.m_isinstance (by decide +kernel) (pa_cons (pv 2) (pa_cons (pe_bltn (v := .ty "bool") (by rfl) T.m_bool (by decide +kernel) rfl) (pa_nil))))) (pw_or (pt_not (pt_val (pe_callB call_isi (by rfl) T.m_isinstance (by decide +kernel) (pa_cons (pv 2) (pa_cons (pe_bltn (v := .ty "int") (by rfl) T.m_int (by decide +kernel) rfl) (pa_nil)))))) (pw_or1 (pt_cmp (pc_dnotin hu (pe_tup (pa_cons (pv 1) (pa_cons (pv 2) (pa_nil)))) (pe_fld (pv 0) (by rfl))) (by rfl)))))) (pss_one (ps_never)) (pss_nil)))
  · exact pure_look_held ⟨⟨T.cl_Counts, T.na_Counts_hands, T.na_Counts_worth, T.na_Counts_cells, T.na_Counts_made⟩, T.na_Counts_held⟩ h
set_option maxHeartbeats 8000000 in
theorem ok_Counts__Counts_drop (T : Txt K mg D) : FnOk P w K mg base CX0 4 D.f_Counts_drop D.d_Counts_drop ["self", "hand", "thing"] (sp_drop D.c_Counts) := by
  have G_Counts__Counts_look_held : FnOk P w K mg base CX0 3 D.f_Counts_look_held D.d_Counts_look_held ["self", "hand", "thing"] (sp_look_held D.c_Counts) := ok_Counts__Counts_look_held T
  have G_Counts__Counts_loose : FnOk P w K mg base CX0 2 D.f_Counts_loose D.d_Counts_loose ["self", "thing"] (sp_loose D.c_Counts) := ok_Counts__Counts_loose T
  refine T.F_Counts_drop.ok sc_Counts_drop (fun vs H Q E h => ?_) (fun cdv A outer s H vs Q E hr h => ⟨t_Counts_drop K D.c_Counts (sp_look_held D.c_Counts) (sp_loose D.c_Counts), ?_, ?_⟩)
  · first | (obtain ⟨_, rfl, _⟩ := h; rfl) | (obtain ⟨_, _, rfl, _⟩ := h; rfl) | (obtain ⟨_, _, _, rfl, _⟩ := h; rfl) | (obtain ⟨_, _, _, _, rfl, _⟩ := h; rfl) | (obtain ⟨_, _, _, _, _, rfl, _⟩ := h; rfl) | (obtain ⟨_, _, _, _, _, _, rfl, _⟩ := h; rfl) | (obtain ⟨_, _, _, _, _, _, _, rfl, _⟩ := h; rfl) | (obtain ⟨_, _, _, _, _, _, _, _, rfl, _⟩ := h; rfl) | (obtain ⟨_, _, _, _, _, _, _, _, _, rfl, _⟩ := h; rfl) | (obtain ⟨_, _, _, _, _, _, _, _, _, _, rfl, _⟩ := h; rfl) | (obtain ⟨_, _, _, _, _, _, _, _, _, _, _, rfl, _⟩ := h; rfl) | (obtain ⟨_, _, _, _, _, _, _, _, _, _, _, _, rfl, _⟩ := h; rfl) | (obtain ⟨_, _, _, _, _, _, _, _, _, _, _, _, _, rfl, _⟩ := h; rfl) | (obtain ⟨_, _, _, _, _, _, _, _, _, _, _, _, _, _, rfl, _⟩ := h; rfl) | (obtain ⟨_, _, _, _, _, _, _, _, _, _, _, _, _, _, _, rfl, _⟩ := h; rfl)
  · have hu := hu_of hr
    exact pss_cons (ps_expr (pe_meth (pv 0) T.cl_Counts T.me_Counts_look_held G_Counts__Counts_look_held (hr.mono (by decide)) T.b_Counts_look_held .nil pass0 (pa_cons (pv 1) (pa_cons (pv 2) (pa_nil)))))
      (pss_cons (ps_dput hu (pe_fld (pv 0) (by rfl)) (pe_tup (pa_cons (pv 1) (pa_cons (pv 2) (pa_nil)))) (pe_op op_subI (pe_dget hu (pe_fld (pv 0) (by rfl)) (pe_tup (pa_cons (pv 1) (pa_cons (pv 2) (pa_nil)))) (fun _ _ => rfl)) (pe_int)) (by rfl))
      (pss_cons (ps_if (pt_cmpR op_eq (pe_dget hu (pe_fld (pv 0) (by rfl)) (pe_tup (pa_cons (pv 1) (pa_cons (pv 2) (pa_nil)))) (fun _ _ => rfl)) (pe_int) (nomark _)) (pss_one (ps_expr (pe_dpopT hu (pe_fld (pv 0) (by rfl)) (pe_tup (pa_cons (pv 1) (pa_cons (pv 2) (pa_nil)))) ⟨rfl, rfl, rfl, rfl⟩))) (pss_nil))
      (pss_one (ps_ret (pe_meth (pv 0) T.cl_Counts T.me_Counts_loose G_Counts__Counts_loose (hr.mono (by decide)) T.b_Counts_loose .nil pass0 (pa_cons (pv 2) (pa_nil)))))))
  · exact pure_drop ⟨⟨T.cl_Counts, T.na_Counts_hands, T.na_Counts_worth, T.na_Counts_cells, T.na_Counts_made⟩, T.na_Counts_held⟩ h
set_option maxHeartbeats 8000000 in
theorem ok_law (T : Txt K mg D) : FnOk P w K mg base CX0 7 D.f_law D.d_law ["script"] (sp_law K) := by
  have G__law_town : FnOk P w K mg base CX0 1 D.f__law_town D.d__law_town ["script"] (sp__law_town K) := ok__law_town T
  have G__law_draw : FnOk P w K mg base CX0 1 D.f__law_draw D.d__law_draw ["town", "many"] (sp__law_draw) := ok__law_draw T
  have G__law_stores : FnOk P w K mg base CX0 6 D.f__law_stores D.d__law_stores ["cells", "hand", "cell"] (sp__law_stores D.c_Rounds D.c_Marks D.c_Counts D.c_Versions) := ok__law_stores T
  have G_Rounds__Store_swap : FnOk P w K mg base CX0 3 D.f_Store_swap D.d_Store_swap ["self", "cell", "value"] (sp_swapR D.c_Rounds) := ok_Rounds__Store_swap T
  have G_Marks__Store_swap : FnOk P w K mg base CX0 3 D.f_Store_swap D.d_Store_swap ["self", "cell", "value"] (sp_swapM D.c_Marks) := ok_Marks__Store_swap T
  have G_Counts__Store_swap : FnOk P w K mg base CX0 4 D.f_Store_swap D.d_Store_swap ["self", "cell", "value"] (sp_swapC D.c_Counts) := ok_Counts__Store_swap T
  have G_Versions__Versions_write : FnOk P w K mg base CX0 3 D.f_Versions_write D.d_Versions_write ["self", "pairs"] (sp_vwrite D.c_Versions) := ok_Versions__Versions_write T
  have G_Rounds__Rounds_go_on : FnOk P w K mg base CX0 2 D.f_Rounds_go_on D.d_Rounds_go_on ["self"] (sp_go_on D.c_Rounds) := ok_Rounds__Rounds_go_on T
  have G_Marks__Marks_sweep : FnOk P w K mg base CX0 2 D.f_Marks_sweep D.d_Marks_sweep ["self"] (sp_sweep D.c_Marks) := ok_Marks__Marks_sweep T
  have G_Versions__Versions_trim : FnOk P w K mg base CX0 1 D.f_Versions_trim D.d_Versions_trim ["self"] (sp_vtrim D.c_Versions) := ok_Versions__Versions_trim T
  have G_Rounds__Store_kept : FnOk P w K mg base CX0 1 D.f_Store_kept D.d_Store_kept ["self"] (sp_kept D.c_Rounds) := ok_Rounds__Store_kept T
  have G_Marks__Store_kept : FnOk P w K mg base CX0 1 D.f_Store_kept D.d_Store_kept ["self"] (sp_kept D.c_Marks) := ok_Marks__Store_kept T
  have G_Counts__Store_kept : FnOk P w K mg base CX0 1 D.f_Store_kept D.d_Store_kept ["self"] (sp_kept D.c_Counts) := ok_Counts__Store_kept T
  have G_Versions__Versions_kept : FnOk P w K mg base CX0 3 D.f_Versions_kept D.d_Versions_kept ["self", "cell"] (sp_vkept D.c_Versions) := ok_Versions__Versions_kept T
  have G_Rounds__Rounds_leave : FnOk P w K mg base CX0 4 D.f_Rounds_leave D.d_Rounds_leave ["self", "hand"] (sp_leave D.c_Rounds) := ok_Rounds__Rounds_leave T
  have G_Marks__Marks_clear_mark : FnOk P w K mg base CX0 5 D.f_Marks_clear_mark D.d_Marks_clear_mark ["self", "hand", "mark"] (sp_clear_mark D.c_Marks) := ok_Marks__Marks_clear_mark T
  have G_Versions__Versions_finish : FnOk P w K mg base CX0 4 D.f_Versions_finish D.d_Versions_finish ["self", "hand"] (sp_vfinish D.c_Versions) := ok_Versions__Versions_finish T
  have G_Counts__Counts_drop : FnOk P w K mg base CX0 4 D.f_Counts_drop D.d_Counts_drop ["self", "hand", "thing"] (sp_drop D.c_Counts) := ok_Counts__Counts_drop T
  refine T.F_law.ok sc_law (fun vs H Q E h => ?_) (fun cdv A outer s H vs Q E hr h => ⟨t_law K D.c_Rounds D.c_Marks D.c_Counts D.c_Versions (sp__law_town K) (sp__law_draw) (sp__law_stores D.c_Rounds D.c_Marks D.c_Counts D.c_Versions) (sp_swapR D.c_Rounds) (sp_swapM D.c_Marks) (sp_swapC D.c_Counts) (sp_vwrite D.c_Versions) (sp_go_on D.c_Rounds) (sp_sweep D.c_Marks) (sp_vtrim D.c_Versions) (sp_kept D.c_Rounds) (sp_kept D.c_Marks) (sp_kept D.c_Counts) (sp_vkept D.c_Versions) (sp_leave D.c_Rounds) (sp_clear_mark D.c_Marks) (sp_vfinish D.c_Versions) (sp_drop D.c_Counts), ?_, ?_⟩)
  · first | (obtain ⟨_, rfl, _⟩ := h; rfl) | (obtain ⟨_, _, rfl, _⟩ := h; rfl) | (obtain ⟨_, _, _, rfl, _⟩ := h; rfl) | (obtain ⟨_, _, _, _, rfl, _⟩ := h; rfl) | (obtain ⟨_, _, _, _, _, rfl, _⟩ := h; rfl) | (obtain ⟨_, _, _, _, _, _, rfl, _⟩ := h; rfl) | (obtain ⟨_, _, _, _, _, _, _, rfl, _⟩ := h; rfl) | (obtain ⟨_, _, _, _, _, _, _, _, rfl, _⟩ := h; rfl) | (obtain ⟨_, _, _, _, _, _, _, _, _, rfl, _⟩ := h; rfl) | (obtain ⟨_, _, _, _, _, _, _, _, _, _, rfl, _⟩ := h; rfl) | (obtain ⟨_, _, _, _, _, _, _, _, _, _, _, rfl, _⟩ := h; rfl) | (obtain ⟨_, _, _, _, _, _, _, _, _, _, _, _, rfl, _⟩ := h; rfl) | (obtain ⟨_, _, _, _, _, _, _, _, _, _, _, _, _, rfl, _⟩ := h; rfl) | (obtain ⟨_, _, _, _, _, _, _, _, _, _, _, _, _, _, rfl, _⟩ := h; rfl) | (obtain ⟨_, _, _, _, _, _, _, _, _, _, _, _, _, _, _, rfl, _⟩ := h; rfl)
  · have hu := hu_of hr
    exact pss_cons (ps_set (i := 1) sc_law.nd rfl (by first | exact Or.inl rfl | exact Or.inr rfl) (pe_call G__law_town (hr.mono (by decide)) (by rfl) T.g__law_town T.F__law_town.kp T.b__law_town .nil pass0 (pa_cons (pv 0) (pa_nil))))
      (pss_cons (ps_set (i := 2) sc_law.nd rfl (by first | exact Or.inl rfl | exact Or.inr rfl) (pe_op op_addI (pe_int) (pe_call G__law_draw (hr.mono (by decide)) (by rfl) T.g__law_draw T.F__law_draw.kp T.b__law_draw .nil pass0 (pa_cons (pv 1) (pa_cons (pe_int) (pa_nil))))))
      (pss_cons (ps_set (i := 3) sc_law.nd rfl (by first | exact Or.inl rfl | exact Or.inr rfl) (pe_call G__law_draw (hr.mono (by decide)) (by rfl) T.g__law_draw T.F__law_draw.kp T.b__law_draw .nil pass0 (pa_cons (pv 1) (pa_cons (pv 2) (pa_nil)))))
      (pss_cons (ps_set (i := 4) sc_law.nd rfl (by first | exact Or.inl rfl | exact Or.inr rfl) (pe_call G__law_draw (hr.mono (by decide)) (by rfl) T.g__law_draw T.F__law_draw.kp T.b__law_draw .nil pass0 (pa_cons (pv 1) (pa_cons (pe_int) (pa_nil)))))
      (pss_cons (ps_asg (pe_call G__law_stores (hr.mono (by decide)) (by rfl) T.g__law_stores T.F__law_stores.kp T.b__law_stores .nil pass0 (pa_cons (pv 2) (pa_cons (pv 4) (pa_cons (pv 3) (pa_nil))))) (pg_tup rfl (pgs_cons (pg_name (i := 5) sc_law.nd rfl (by first | exact Or.inl rfl | exact Or.inr rfl)) (pgs_cons (pg_name (i := 6) sc_law.nd rfl (by first | exact Or.inl rfl | exact Or.inr rfl)) (pgs_cons (pg_name (i := 7) sc_law.nd rfl (by first | exact Or.inl rfl | exact Or.inr rfl)) (pgs_cons (pg_name (i := 8) sc_law.nd rfl (by first | exact Or.inl rfl | exact Or.inr rfl)) (pgs_nil)))))))
      (pss_cons (ps_set (i := 9) sc_law.nd rfl (by first | exact Or.inl rfl | exact Or.inr rfl) (pe_op op_addI (pe_int) (pe_call G__law_draw (hr.mono (by decide)) (by rfl) T.g__law_draw T.F__law_draw.kp T.b__law_draw .nil pass0 (pa_cons (pv 1) (pa_cons (pe_int) (pa_nil))))))
      (pss_cons (ps_set (i := 10) sc_law.nd rfl (by first | exact Or.inl rfl | exact Or.inr rfl) (pe_lst (pa_nil)))
      (pss_cons (ps_set (i := 11) sc_law.nd rfl (by first | exact Or.inl rfl | exact Or.inr rfl) (pe_op op_rep (pe_lst (pa_cons (pe_bl) (pa_nil))) (pv 2)))
      (pss_cons (ps_for PassesOwn.never rfl (pi_range1 (by rfl) T.m_range (pa_cons (pv 9) (pa_nil))) (pg_name (i := 12) sc_law.nd rfl (by first | exact Or.inl rfl | exact Or.inr rfl)) (pss_cons (ps_set (i := 13) sc_law.nd rfl (by first | exact Or.inl rfl | exact Or.inr rfl) (pe_ifExp (pt_cmpR op_eq (pv 12) (pe_int) (nomark _)) (pv 3) (pe_call G__law_draw (hr.mono (by decide)) (by rfl) T.g__law_draw T.F__law_draw.kp T.b__law_draw .nil pass0 (pa_cons (pv 1) (pa_cons (pv 2) (pa_nil))))))
      (pss_cons (ps_asg (pe_bl) (pg_sub (pv 11) (pv 13) set_list))
      (pss_cons (ps_for PassesOwn.never rfl (pi_list (pe_lst (pa_cons (pv 5) (pa_cons (pv 6) (pa_cons (pv 7) (pa_nil)))))) (pg_name (i := 14) sc_law.nd rfl (by first | exact Or.inl rfl | exact Or.inr rfl)) (pss_one (ps_expr (pe_orE (pe_meth (pv 14) T.cl_Rounds T.me_Rounds_swap G_Rounds__Store_swap (hr.mono (by decide)) T.b_Store_swap .nil pass0 (pa_cons (pv 13) (pa_cons (pv 12) (pa_nil)))) (pe_orE (pe_meth (pv 14) T.cl_Marks T.me_Marks_swap G_Marks__Store_swap (hr.mono (by decide)) T.b_Store_swap .nil pass0 (pa_cons (pv 13) (pa_cons (pv 12) (pa_nil)))) (pe_meth (pv 14) T.cl_Counts T.me_Counts_swap G_Counts__Store_swap (hr.mono (by decide)) T.b_Store_swap .nil pass0 (pa_cons (pv 13) (pa_cons (pv 12) (pa_nil)))))))))
      (pss_cons (ps_expr (pe_meth (pv 8) T.cl_Versions T.me_Versions_write G_Versions__Versions_write (hr.mono (by decide)) T.b_Versions_write .nil pass0 (pa_cons (pe_lst (pa_cons (pe_tup (pa_cons (pv 13) (pa_cons (pv 12) (pa_nil)))) (pa_nil))) (pa_nil))))
      (pss_cons (ps_expr (pe_bm PySem.F.plainAttrs_list PySem.F.slot_list_append PySem.F.type_list_append mt_append (pv 10) (pa_cons (pe_meth0 (pv 5) T.cl_Rounds T.me_Rounds_go_on G_Rounds__Rounds_go_on (hr.mono (by decide)) T.b_Rounds_go_on .nil pass0) (pa_nil))))
      (pss_one (ps_if (pt_cmpR op_eq (pe_call G__law_draw (hr.mono (by decide)) (by rfl) T.g__law_draw T.F__law_draw.kp T.b__law_draw .nil pass0 (pa_cons (pv 1) (pa_cons (pe_int) (pa_nil)))) (pe_int) (nomark _)) (pss_cons (ps_expr (pe_meth0 (pv 6) T.cl_Marks T.me_Marks_sweep G_Marks__Marks_sweep (hr.mono (by decide)) T.b_Marks_sweep .nil pass0))
      (pss_one (ps_expr (pe_meth0 (pv 8) T.cl_Versions T.me_Versions_trim G_Versions__Versions_trim (hr.mono (by decide)) T.b_Versions_trim .nil pass0)))) (pss_nil)))))))))
      (pss_cons (ps_expr (pe_meth0 (pv 6) T.cl_Marks T.me_Marks_sweep G_Marks__Marks_sweep (hr.mono (by decide)) T.b_Marks_sweep .nil pass0))
      (pss_cons (ps_expr (pe_meth0 (pv 8) T.cl_Versions T.me_Versions_trim G_Versions__Versions_trim (hr.mono (by decide)) T.b_Versions_trim .nil pass0))
      (pss_cons (ps_if (PW.pt (pw_or (pt_cmpR (op_neD hr.units) (pe_lc (own := [("row", 15)]) (by rfl) sc_law.nd (pi_list (pe_slice sl_list (pv 10) (po_some (pe_int)) (po_none))) (blkOk_by (own := [("row", 15)]) (N := ["script", "town", "size", "cell", "hand", "one", "two", "three", "four", "many", "told", "written", "turn", "place", "store", "row", "k", "gone"]) (sc := defScope s_law) (by decide +kernel)) (fun _ _ _ _ _ => pg_name (i := 15) sc_law.nd rfl (by first | exact Or.inl rfl | exact Or.inr rfl)) (fun _ _ _ _ _ => pts_one (pt_cmpR op_notNo (pv 15) (pe_non) (nomark _))) (fun _ _ _ _ _ => pv 15)) (pe_lst (pa_nil)) (nomark _)) (pw_or1 (pt_cmpR (op_neD hr.units) (pe_meth0 (pv 5) T.cl_Rounds T.me_Rounds_kept G_Rounds__Store_kept (hr.mono (by decide)) T.b_Store_kept .nil pass0) (pe_listRg rfl (by rfl) T.m_list (prg_1 (by rfl) T.m_range (pe_op op_addI (pv 2) (pv 9)))) (nomark _))))) (pss_one (ps_ret (pe_bl))) (pss_nil))
      (pss_cons (ps_if (PW.pt (pw_or (pt_cmpR (op_neD hr.units) (pe_lc (own := [("store", 14)]) (by rfl) sc_law.nd (pi_list (pe_lst (pa_cons (pv 6) (pa_cons (pv 7) (pa_nil))))) (blkOk_by (own := [("store", 14)]) (N := ["script", "town", "size", "cell", "hand", "one", "two", "three", "four", "many", "told", "written", "turn", "place", "store", "row", "k", "gone"]) (sc := defScope s_law) (by decide +kernel)) (fun _ _ _ _ _ => pg_name (i := 14) sc_law.nd rfl (by first | exact Or.inl rfl | exact Or.inr rfl)) (fun _ _ _ _ _ => pts_nil) (fun _ _ _ _ _ => pe_callB call_lenQ (by rfl) T.m_len PySem.boot_len (pa_cons (pe_orE (pe_meth0 (pv 14) T.cl_Rounds T.me_Rounds_kept G_Rounds__Store_kept (hr.mono (by decide)) T.b_Store_kept .nil pass0) (pe_orE (pe_meth0 (pv 14) T.cl_Marks T.me_Marks_kept G_Marks__Store_kept (hr.mono (by decide)) T.b_Store_kept .nil pass0) (pe_meth0 (pv 14) T.cl_Counts T.me_Counts_kept G_Counts__Store_kept (hr.mono (by decide)) T.b_Store_kept .nil pass0))) (pa_nil)))) (pe_op op_rep (pe_lst (pa_cons (pe_op op_addI (pv 2) (pe_int)) (pa_nil))) (pe_int)) (nomark _)) (pw_or1 (pt_cmpR op_notIn_seq (pv 3) (pe_op op_cat (pe_meth0 (pv 6) T.cl_Marks T.me_Marks_kept G_Marks__Store_kept (hr.mono (by decide)) T.b_Store_kept .nil pass0) (pe_meth0 (pv 7) T.cl_Counts T.me_Counts_kept G_Counts__Store_kept (hr.mono (by decide)) T.b_Store_kept .nil pass0)) (by rfl))))) (pss_one (ps_ret (pe_bl))) (pss_nil))
      (pss_cons (ps_if (pt_cmpR (op_neD hr.units) (pe_lc (own := [("k", 16)]) (by rfl) sc_law.nd (pi_range1 (by rfl) T.m_range (pa_cons (pv 2) (pa_nil))) (blkOk_by (own := [("k", 16)]) (N := ["script", "town", "size", "cell", "hand", "one", "two", "three", "four", "many", "told", "written", "turn", "place", "store", "row", "k", "gone"]) (sc := defScope s_law) (by decide +kernel)) (fun _ _ _ _ _ => pg_name (i := 16) sc_law.nd rfl (by first | exact Or.inl rfl | exact Or.inr rfl)) (fun _ _ _ _ _ => pts_nil) (fun _ _ _ _ _ => pe_callB call_lenQ (by rfl) T.m_len PySem.boot_len (pa_cons (pe_meth (pv 8) T.cl_Versions T.me_Versions_kept G_Versions__Versions_kept (hr.mono (by decide)) T.b_Versions_kept .nil pass0 (pa_cons (pv 16) (pa_nil))) (pa_nil)))) (pe_lc (own := [("k", 16)]) (by rfl) sc_law.nd (pi_range1 (by rfl) T.m_range (pa_cons (pv 2) (pa_nil))) (blkOk_by (own := [("k", 16)]) (N := ["script", "town", "size", "cell", "hand", "one", "two", "three", "four", "many", "told", "written", "turn", "place", "store", "row", "k", "gone"]) (sc := defScope s_law) (by decide +kernel)) (fun _ _ _ _ _ => pg_name (i := 16) sc_law.nd rfl (by first | exact Or.inl rfl | exact Or.inr rfl)) (fun _ _ _ _ _ => pts_nil) (fun _ _ _ _ _ => pe_ifExp (pt_val (pe_ix ix_list (pv 11) (pv 16) (fun _ _ => rfl))) (pe_int) (pe_int))) (nomark _)) (pss_one (ps_ret (pe_bl))) (pss_nil))
      (pss_cons (ps_expr (pe_meth (pv 5) T.cl_Rounds T.me_Rounds_leave G_Rounds__Rounds_leave (hr.mono (by decide)) T.b_Rounds_leave .nil pass0 (pa_cons (pv 4) (pa_nil))))
      (pss_cons (ps_expr (pe_meth (pv 6) T.cl_Marks T.me_Marks_clear_mark G_Marks__Marks_clear_mark (hr.mono (by decide)) T.b_Marks_clear_mark .nil pass0 (pa_cons (pv 4) (pa_cons (pe_int) (pa_nil)))))
      (pss_cons (ps_expr (pe_meth (pv 8) T.cl_Versions T.me_Versions_finish G_Versions__Versions_finish (hr.mono (by decide)) T.b_Versions_finish .nil pass0 (pa_cons (pv 4) (pa_nil))))
      (pss_cons (ps_if (PW.pt (pw_or (pt_cmpR op_notBl (pe_meth (pv 7) T.cl_Counts T.me_Counts_drop G_Counts__Counts_drop (hr.mono (by decide)) T.b_Counts_drop .nil pass0 (pa_cons (pv 4) (pa_cons (pv 3) (pa_nil)))) (pe_bl) (nomark _)) (pw_or (pt_cmpR (op_neD hr.units) (pe_meth0 (pv 6) T.cl_Marks T.me_Marks_sweep G_Marks__Marks_sweep (hr.mono (by decide)) T.b_Marks_sweep .nil pass0) (pe_lst (pa_cons (pv 3) (pa_nil))) (nomark _)) (pw_or1 (pt_cmpR op_ne (pe_meth0 (pv 8) T.cl_Versions T.me_Versions_trim G_Versions__Versions_trim (hr.mono (by decide)) T.b_Versions_trim .nil pass0) (pe_bm PySem.F.plainAttrs_list PySem.F.slot_list_count PySem.F.type_list_count mt_countV (pv 11) (pa_cons (pe_bl) (pa_nil))) (nomark _)))))) (pss_one (ps_ret (pe_bl))) (pss_nil))
      (pss_cons (ps_set (i := 17) sc_law.nd rfl (by first | exact Or.inl rfl | exact Or.inr rfl) (pe_lst (pa_cons (pe_meth0 (pv 5) T.cl_Rounds T.me_Rounds_go_on G_Rounds__Rounds_go_on (hr.mono (by decide)) T.b_Rounds_go_on .nil pass0) (pa_cons (pe_meth0 (pv 5) T.cl_Rounds T.me_Rounds_go_on G_Rounds__Rounds_go_on (hr.mono (by decide)) T.b_Rounds_go_on .nil pass0) (pa_nil)))))
      (pss_one (ps_ret (pe_and (pe_cmpR (op_notInN hr.units) (pe_non) (pv 17) (by rfl)) (pe_and (pe_cmpR op_eq (pe_callB call_lenQ (by rfl) T.m_len PySem.boot_len (pa_cons (pe_meth0 (pv 5) T.cl_Rounds T.me_Rounds_kept G_Rounds__Store_kept (hr.mono (by decide)) T.b_Store_kept .nil pass0) (pa_nil))) (pv 2) (nomark _)) (pe_and (pe_cmpR (op_eqD hr.units) (pe_meth0 (pv 5) T.cl_Rounds T.me_Rounds_kept G_Rounds__Store_kept (hr.mono (by decide)) T.b_Store_kept .nil pass0) (pe_meth0 (pv 6) T.cl_Marks T.me_Marks_kept G_Marks__Store_kept (hr.mono (by decide)) T.b_Store_kept .nil pass0) (nomark _)) (pe_one (pe_cmpR (op_eqD hr.units) (pe_meth0 (pv 6) T.cl_Marks T.me_Marks_kept G_Marks__Store_kept (hr.mono (by decide)) T.b_Store_kept .nil pass0) (pe_meth0 (pv 7) T.cl_Counts T.me_Counts_kept G_Counts__Store_kept (hr.mono (by decide)) T.b_Store_kept .nil pass0) (nomark _))))))))))))))))))))))))))
  · exact pure_law h
end
theorem all_mk {l : PySem.W.OpenLaw} {w : World} {K : PySem.W.Frag} {h : Heap} {mg : Str → Option Value} {fa c_Versions c_Counts c_Store c_Marks c_Rounds f__law_town f__law_draw f_is_whole f_look_number f_Versions_init f_Store_init f_Counts_init f_Marks_init f_Rounds_init f_Store_look_hand f_Rounds_enter f_Rounds_look_in f_Store_look_cell f_Rounds_look f_Marks_look_mark f_Marks_fetch f_Marks_state_of f_Marks_set_mark f_Marks_sure f_Counts_hold f_Versions_look_hand f_Versions_begin f__law_stores f_Rounds_after_swap f_Store_swap f_Marks_after_swap f_Counts_count_of f_Store_is_out f_Store_let_go f_Counts_loose f_Counts_after_swap f_Versions_look_pairs f_Versions_write f_Rounds_go_on f_Marks_marked f_Marks_sweep f_Versions_trim f_Store_kept f_Versions_look_cell f_Versions_kept f_Rounds_leave f_Marks_clear_mark f_Versions_look_in f_Versions_finish f_Counts_look_held f_Counts_drop f_law : Addr} (X : K.In h) (G : h.Ns mainGlobals mg) (hfa : mg "law" = some (.ref fa))
    {od__law_town an__law_town od__law_draw an__law_draw od_is_whole an_is_whole od_look_number an_look_number od_Versions_init an_Versions_init od_Store_init an_Store_init od_Counts_init an_Counts_init od_Marks_init an_Marks_init od_Rounds_init an_Rounds_init od_Store_look_hand an_Store_look_hand od_Rounds_enter an_Rounds_enter od_Rounds_look_in an_Rounds_look_in od_Store_look_cell an_Store_look_cell od_Rounds_look an_Rounds_look od_Marks_look_mark an_Marks_look_mark od_Marks_fetch an_Marks_fetch od_Marks_state_of an_Marks_state_of od_Marks_set_mark an_Marks_set_mark od_Marks_sure an_Marks_sure od_Counts_hold an_Counts_hold od_Versions_look_hand an_Versions_look_hand od_Versions_begin an_Versions_begin od__law_stores an__law_stores od_Rounds_after_swap an_Rounds_after_swap od_Store_swap an_Store_swap od_Marks_after_swap an_Marks_after_swap od_Counts_count_of an_Counts_count_of od_Store_is_out an_Store_is_out od_Store_let_go an_Store_let_go od_Counts_loose an_Counts_loose od_Counts_after_swap an_Counts_after_swap od_Versions_look_pairs an_Versions_look_pairs od_Versions_write an_Versions_write od_Rounds_go_on an_Rounds_go_on od_Marks_marked an_Marks_marked od_Marks_sweep an_Marks_sweep od_Versions_trim an_Versions_trim od_Store_kept an_Store_kept od_Versions_look_cell an_Versions_look_cell od_Versions_kept an_Versions_kept od_Rounds_leave an_Rounds_leave od_Marks_clear_mark an_Marks_clear_mark od_Versions_look_in an_Versions_look_in od_Versions_finish an_Versions_finish od_Counts_look_held an_Counts_look_held od_Counts_drop an_Counts_drop od_law an_law : Option Addr} {sl__law_town sl__law_draw sl_is_whole sl_look_number sl_Versions_init sl_Store_init sl_Counts_init sl_Marks_init sl_Rounds_init sl_Store_look_hand sl_Rounds_enter sl_Rounds_look_in sl_Store_look_cell sl_Rounds_look sl_Marks_look_mark sl_Marks_fetch sl_Marks_state_of sl_Marks_set_mark sl_Marks_sure sl_Counts_hold sl_Versions_look_hand sl_Versions_begin sl__law_stores sl_Rounds_after_swap sl_Store_swap sl_Marks_after_swap sl_Counts_count_of sl_Store_is_out sl_Store_let_go sl_Counts_loose sl_Counts_after_swap sl_Versions_look_pairs sl_Versions_write sl_Rounds_go_on sl_Marks_marked sl_Marks_sweep sl_Versions_trim sl_Store_kept sl_Versions_look_cell sl_Versions_kept sl_Rounds_leave sl_Marks_clear_mark sl_Versions_look_in sl_Versions_finish sl_Counts_look_held sl_Counts_drop sl_law : Array (Option Value)} {oc__law_town kV__law_town dc__law_town pm__law_town cd__law_town ct__law_town oc__law_draw kV__law_draw dc__law_draw pm__law_draw cd__law_draw ct__law_draw oc_is_whole kV_is_whole dc_is_whole pm_is_whole cd_is_whole ct_is_whole oc_look_number kV_look_number dc_look_number pm_look_number cd_look_number ct_look_number oc_Versions_init kV_Versions_init dc_Versions_init pm_Versions_init cd_Versions_init ct_Versions_init oc_Store_init kV_Store_init dc_Store_init pm_Store_init cd_Store_init ct_Store_init oc_Counts_init kV_Counts_init dc_Counts_init pm_Counts_init cd_Counts_init ct_Counts_init oc_Marks_init kV_Marks_init dc_Marks_init pm_Marks_init cd_Marks_init ct_Marks_init oc_Rounds_init kV_Rounds_init dc_Rounds_init pm_Rounds_init cd_Rounds_init ct_Rounds_init oc_Store_look_hand kV_Store_look_hand dc_Store_look_hand pm_Store_look_hand cd_Store_look_hand ct_Store_look_hand oc_Rounds_enter kV_Rounds_enter dc_Rounds_enter pm_Rounds_enter cd_Rounds_enter ct_Rounds_enter oc_Rounds_look_in kV_Rounds_look_in dc_Rounds_look_in pm_Rounds_look_in cd_Rounds_look_in ct_Rounds_look_in oc_Store_look_cell kV_Store_look_cell dc_Store_look_cell pm_Store_look_cell cd_Store_look_cell ct_Store_look_cell oc_Rounds_look kV_Rounds_look dc_Rounds_look pm_Rounds_look cd_Rounds_look ct_Rounds_look oc_Marks_look_mark kV_Marks_look_mark dc_Marks_look_mark pm_Marks_look_mark cd_Marks_look_mark ct_Marks_look_mark oc_Marks_fetch kV_Marks_fetch dc_Marks_fetch pm_Marks_fetch cd_Marks_fetch ct_Marks_fetch oc_Marks_state_of kV_Marks_state_of dc_Marks_state_of pm_Marks_state_of cd_Marks_state_of ct_Marks_state_of oc_Marks_set_mark kV_Marks_set_mark dc_Marks_set_mark pm_Marks_set_mark cd_Marks_set_mark ct_Marks_set_mark oc_Marks_sure kV_Marks_sure dc_Marks_sure pm_Marks_sure cd_Marks_sure ct_Marks_sure oc_Counts_hold kV_Counts_hold dc_Counts_hold pm_Counts_hold cd_Counts_hold ct_Counts_hold oc_Versions_look_hand kV_Versions_look_hand dc_Versions_look_hand pm_Versions_look_hand cd_Versions_look_hand ct_Versions_look_hand oc_Versions_begin kV_Versions_begin dc_Versions_begin pm_Versions_begin cd_Versions_begin ct_Versions_begin oc__law_stores kV__law_stores dc__law_stores pm__law_stores cd__law_stores ct__law_stores oc_Rounds_after_swap kV_Rounds_after_swap dc_Rounds_after_swap pm_Rounds_after_swap cd_Rounds_after_swap ct_Rounds_after_swap oc_Store_swap kV_Store_swap dc_Store_swap pm_Store_swap cd_Store_swap ct_Store_swap oc_Marks_after_swap kV_Marks_after_swap dc_Marks_after_swap pm_Marks_after_swap cd_Marks_after_swap ct_Marks_after_swap oc_Counts_count_of kV_Counts_count_of dc_Counts_count_of pm_Counts_count_of cd_Counts_count_of ct_Counts_count_of oc_Store_is_out kV_Store_is_out dc_Store_is_out pm_Store_is_out cd_Store_is_out ct_Store_is_out oc_Store_let_go kV_Store_let_go dc_Store_let_go pm_Store_let_go cd_Store_let_go ct_Store_let_go oc_Counts_loose kV_Counts_loose dc_Counts_loose pm_Counts_loose cd_Counts_loose ct_Counts_loose oc_Counts_after_swap kV_Counts_after_swap dc_Counts_after_swap pm_Counts_after_swap cd_Counts_after_swap ct_Counts_after_swap oc_Versions_look_pairs kV_Versions_look_pairs dc_Versions_look_pairs pm_Versions_look_pairs cd_Versions_look_pairs ct_Versions_look_pairs oc_Versions_write kV_Versions_write dc_Versions_write pm_Versions_write cd_Versions_write ct_Versions_write oc_Rounds_go_on kV_Rounds_go_on dc_Rounds_go_on pm_Rounds_go_on cd_Rounds_go_on ct_Rounds_go_on oc_Marks_marked kV_Marks_marked dc_Marks_marked pm_Marks_marked cd_Marks_marked ct_Marks_marked oc_Marks_sweep kV_Marks_sweep dc_Marks_sweep pm_Marks_sweep cd_Marks_sweep ct_Marks_sweep oc_Versions_trim kV_Versions_trim dc_Versions_trim pm_Versions_trim cd_Versions_trim ct_Versions_trim oc_Store_kept kV_Store_kept dc_Store_kept pm_Store_kept cd_Store_kept ct_Store_kept oc_Versions_look_cell kV_Versions_look_cell dc_Versions_look_cell pm_Versions_look_cell cd_Versions_look_cell ct_Versions_look_cell oc_Versions_kept kV_Versions_kept dc_Versions_kept pm_Versions_kept cd_Versions_kept ct_Versions_kept oc_Rounds_leave kV_Rounds_leave dc_Rounds_leave pm_Rounds_leave cd_Rounds_leave ct_Rounds_leave oc_Marks_clear_mark kV_Marks_clear_mark dc_Marks_clear_mark pm_Marks_clear_mark cd_Marks_clear_mark ct_Marks_clear_mark oc_Versions_look_in kV_Versions_look_in dc_Versions_look_in pm_Versions_look_in cd_Versions_look_in ct_Versions_look_in oc_Versions_finish kV_Versions_finish dc_Versions_finish pm_Versions_finish cd_Versions_finish ct_Versions_finish oc_Counts_look_held kV_Counts_look_held dc_Counts_look_held pm_Counts_look_held cd_Counts_look_held ct_Counts_look_held oc_Counts_drop kV_Counts_drop dc_Counts_drop pm_Counts_drop cd_Counts_drop ct_Counts_drop oc_law kV_law dc_law pm_law cd_law ct_law : Value}
    {t_MARKS t_MOST_CELLS t_MOST_HANDS t_MOST_VALUE : Tok}
    {td_Versions_init : Addr} {toc_Versions_init : Value} {tod_Versions_init : Option Addr} {tn_Versions_init : Nat} {tsl_Versions_init : Array (Option Value)} {tt_Versions_init_0 : Tok}
    (aC_Versions : PySem.W.nsIn K mainGlobals "Versions" = some (some (.ref c_Versions)))
    (pg_Versions : PySem.W.plainGet K c_Versions Str.empty = true)
    (hd_Versions : PySem.W.hasDictIn K c_Versions = true)
    (po_Versions : PySem.W.plainOver K c_Versions = true)
    (sa_Versions : PySem.W.findIn K (.ref c_Versions) "__setattr__" = some (some (.builtin "object.__setattr__")))
    (mk_Versions : PySem.W.makesIn K c_Versions = true)
    (kc_Versions : PySem.W.keepIn K (.ref c_Versions) = true)
    (ai_Versions : PySem.W.findIn K (.ref c_Versions) "__init__" = some (some (.ref f_Versions_init)))
    (ii_Versions : PySem.W.isFn K (.ref f_Versions_init) = true)
    (na_Versions_hands : PySem.W.findIn K (.ref c_Versions) "hands" = some none)
    (na_Versions_rows : PySem.W.findIn K (.ref c_Versions) "rows" = some none)
    (na_Versions_version : PySem.W.findIn K (.ref c_Versions) "version" = some none)
    (na_Versions_begun : PySem.W.findIn K (.ref c_Versions) "begun" = some none)
    (na_Versions_asked : PySem.W.findIn K (.ref c_Versions) "asked" = some none)
    (aC_Counts : PySem.W.nsIn K mainGlobals "Counts" = some (some (.ref c_Counts)))
    (pg_Counts : PySem.W.plainGet K c_Counts Str.empty = true)
    (hd_Counts : PySem.W.hasDictIn K c_Counts = true)
    (po_Counts : PySem.W.plainOver K c_Counts = true)
    (sa_Counts : PySem.W.findIn K (.ref c_Counts) "__setattr__" = some (some (.builtin "object.__setattr__")))
    (mk_Counts : PySem.W.makesIn K c_Counts = true)
    (kc_Counts : PySem.W.keepIn K (.ref c_Counts) = true)
    (ai_Counts : PySem.W.findIn K (.ref c_Counts) "__init__" = some (some (.ref f_Counts_init)))
    (ii_Counts : PySem.W.isFn K (.ref f_Counts_init) = true)
    (na_Counts_hands : PySem.W.findIn K (.ref c_Counts) "hands" = some none)
    (na_Counts_worth : PySem.W.findIn K (.ref c_Counts) "worth" = some none)
    (na_Counts_cells : PySem.W.findIn K (.ref c_Counts) "cells" = some none)
    (na_Counts_made : PySem.W.findIn K (.ref c_Counts) "made" = some none)
    (na_Counts_held : PySem.W.findIn K (.ref c_Counts) "held" = some none)
    (aC_Store : PySem.W.nsIn K mainGlobals "Store" = some (some (.ref c_Store)))
    (pg_Store : PySem.W.plainGet K c_Store Str.empty = true)
    (hd_Store : PySem.W.hasDictIn K c_Store = true)
    (po_Store : PySem.W.plainOver K c_Store = true)
    (sa_Store : PySem.W.findIn K (.ref c_Store) "__setattr__" = some (some (.builtin "object.__setattr__")))
    (aC_Marks : PySem.W.nsIn K mainGlobals "Marks" = some (some (.ref c_Marks)))
    (pg_Marks : PySem.W.plainGet K c_Marks Str.empty = true)
    (hd_Marks : PySem.W.hasDictIn K c_Marks = true)
    (po_Marks : PySem.W.plainOver K c_Marks = true)
    (sa_Marks : PySem.W.findIn K (.ref c_Marks) "__setattr__" = some (some (.builtin "object.__setattr__")))
    (mk_Marks : PySem.W.makesIn K c_Marks = true)
    (kc_Marks : PySem.W.keepIn K (.ref c_Marks) = true)
    (ai_Marks : PySem.W.findIn K (.ref c_Marks) "__init__" = some (some (.ref f_Marks_init)))
    (ii_Marks : PySem.W.isFn K (.ref f_Marks_init) = true)
    (na_Marks_hands : PySem.W.findIn K (.ref c_Marks) "hands" = some none)
    (na_Marks_worth : PySem.W.findIn K (.ref c_Marks) "worth" = some none)
    (na_Marks_cells : PySem.W.findIn K (.ref c_Marks) "cells" = some none)
    (na_Marks_made : PySem.W.findIn K (.ref c_Marks) "made" = some none)
    (na_Marks_marks : PySem.W.findIn K (.ref c_Marks) "marks" = some none)
    (na_Marks_waits : PySem.W.findIn K (.ref c_Marks) "waits" = some none)
    (aC_Rounds : PySem.W.nsIn K mainGlobals "Rounds" = some (some (.ref c_Rounds)))
    (pg_Rounds : PySem.W.plainGet K c_Rounds Str.empty = true)
    (hd_Rounds : PySem.W.hasDictIn K c_Rounds = true)
    (po_Rounds : PySem.W.plainOver K c_Rounds = true)
    (sa_Rounds : PySem.W.findIn K (.ref c_Rounds) "__setattr__" = some (some (.builtin "object.__setattr__")))
    (mk_Rounds : PySem.W.makesIn K c_Rounds = true)
    (kc_Rounds : PySem.W.keepIn K (.ref c_Rounds) = true)
    (ai_Rounds : PySem.W.findIn K (.ref c_Rounds) "__init__" = some (some (.ref f_Rounds_init)))
    (ii_Rounds : PySem.W.isFn K (.ref f_Rounds_init) = true)
    (na_Rounds_hands : PySem.W.findIn K (.ref c_Rounds) "hands" = some none)
    (na_Rounds_worth : PySem.W.findIn K (.ref c_Rounds) "worth" = some none)
    (na_Rounds_cells : PySem.W.findIn K (.ref c_Rounds) "cells" = some none)
    (na_Rounds_made : PySem.W.findIn K (.ref c_Rounds) "made" = some none)
    (na_Rounds_era : PySem.W.findIn K (.ref c_Rounds) "era" = some none)
    (na_Rounds_inside : PySem.W.findIn K (.ref c_Rounds) "inside" = some none)
    (na_Rounds_saw : PySem.W.findIn K (.ref c_Rounds) "saw" = some none)
    (na_Rounds_waits : PySem.W.findIn K (.ref c_Rounds) "waits" = some none)
    (am_Rounds_look_hand : PySem.W.findIn K (.ref c_Rounds) "look_hand" = some (some (.ref f_Store_look_hand)))
    (am_Rounds_enter : PySem.W.findIn K (.ref c_Rounds) "enter" = some (some (.ref f_Rounds_enter)))
    (am_Rounds_look_in : PySem.W.findIn K (.ref c_Rounds) "look_in" = some (some (.ref f_Rounds_look_in)))
    (am_Rounds_look_cell : PySem.W.findIn K (.ref c_Rounds) "look_cell" = some (some (.ref f_Store_look_cell)))
    (am_Rounds_look : PySem.W.findIn K (.ref c_Rounds) "look" = some (some (.ref f_Rounds_look)))
    (am_Marks_look_hand : PySem.W.findIn K (.ref c_Marks) "look_hand" = some (some (.ref f_Store_look_hand)))
    (am_Marks_look_mark : PySem.W.findIn K (.ref c_Marks) "look_mark" = some (some (.ref f_Marks_look_mark)))
    (am_Marks_look_cell : PySem.W.findIn K (.ref c_Marks) "look_cell" = some (some (.ref f_Store_look_cell)))
    (am_Marks_fetch : PySem.W.findIn K (.ref c_Marks) "fetch" = some (some (.ref f_Marks_fetch)))
    (am_Marks_state_of : PySem.W.findIn K (.ref c_Marks) "state_of" = some (some (.ref f_Marks_state_of)))
    (am_Marks_set_mark : PySem.W.findIn K (.ref c_Marks) "set_mark" = some (some (.ref f_Marks_set_mark)))
    (am_Marks_sure : PySem.W.findIn K (.ref c_Marks) "sure" = some (some (.ref f_Marks_sure)))
    (am_Counts_look_hand : PySem.W.findIn K (.ref c_Counts) "look_hand" = some (some (.ref f_Store_look_hand)))
    (am_Counts_look_cell : PySem.W.findIn K (.ref c_Counts) "look_cell" = some (some (.ref f_Store_look_cell)))
    (am_Counts_hold : PySem.W.findIn K (.ref c_Counts) "hold" = some (some (.ref f_Counts_hold)))
    (am_Versions_look_hand : PySem.W.findIn K (.ref c_Versions) "look_hand" = some (some (.ref f_Versions_look_hand)))
    (am_Versions_begin : PySem.W.findIn K (.ref c_Versions) "begin" = some (some (.ref f_Versions_begin)))
    (am_Rounds_after_swap : PySem.W.findIn K (.ref c_Rounds) "after_swap" = some (some (.ref f_Rounds_after_swap)))
    (am_Rounds_swap : PySem.W.findIn K (.ref c_Rounds) "swap" = some (some (.ref f_Store_swap)))
    (am_Marks_after_swap : PySem.W.findIn K (.ref c_Marks) "after_swap" = some (some (.ref f_Marks_after_swap)))
    (am_Marks_swap : PySem.W.findIn K (.ref c_Marks) "swap" = some (some (.ref f_Store_swap)))
    (am_Counts_count_of : PySem.W.findIn K (.ref c_Counts) "count_of" = some (some (.ref f_Counts_count_of)))
    (am_Counts_is_out : PySem.W.findIn K (.ref c_Counts) "is_out" = some (some (.ref f_Store_is_out)))
    (am_Counts_let_go : PySem.W.findIn K (.ref c_Counts) "let_go" = some (some (.ref f_Store_let_go)))
    (am_Counts_loose : PySem.W.findIn K (.ref c_Counts) "loose" = some (some (.ref f_Counts_loose)))
    (am_Counts_after_swap : PySem.W.findIn K (.ref c_Counts) "after_swap" = some (some (.ref f_Counts_after_swap)))
    (am_Counts_swap : PySem.W.findIn K (.ref c_Counts) "swap" = some (some (.ref f_Store_swap)))
    (am_Versions_look_pairs : PySem.W.findIn K (.ref c_Versions) "look_pairs" = some (some (.ref f_Versions_look_pairs)))
    (am_Versions_write : PySem.W.findIn K (.ref c_Versions) "write" = some (some (.ref f_Versions_write)))
    (am_Rounds_let_go : PySem.W.findIn K (.ref c_Rounds) "let_go" = some (some (.ref f_Store_let_go)))
    (am_Rounds_go_on : PySem.W.findIn K (.ref c_Rounds) "go_on" = some (some (.ref f_Rounds_go_on)))
    (am_Marks_marked : PySem.W.findIn K (.ref c_Marks) "marked" = some (some (.ref f_Marks_marked)))
    (am_Marks_let_go : PySem.W.findIn K (.ref c_Marks) "let_go" = some (some (.ref f_Store_let_go)))
    (am_Marks_sweep : PySem.W.findIn K (.ref c_Marks) "sweep" = some (some (.ref f_Marks_sweep)))
    (am_Versions_trim : PySem.W.findIn K (.ref c_Versions) "trim" = some (some (.ref f_Versions_trim)))
    (am_Rounds_kept : PySem.W.findIn K (.ref c_Rounds) "kept" = some (some (.ref f_Store_kept)))
    (am_Marks_kept : PySem.W.findIn K (.ref c_Marks) "kept" = some (some (.ref f_Store_kept)))
    (am_Counts_kept : PySem.W.findIn K (.ref c_Counts) "kept" = some (some (.ref f_Store_kept)))
    (am_Versions_look_cell : PySem.W.findIn K (.ref c_Versions) "look_cell" = some (some (.ref f_Versions_look_cell)))
    (am_Versions_kept : PySem.W.findIn K (.ref c_Versions) "kept" = some (some (.ref f_Versions_kept)))
    (am_Rounds_leave : PySem.W.findIn K (.ref c_Rounds) "leave" = some (some (.ref f_Rounds_leave)))
    (am_Marks_clear_mark : PySem.W.findIn K (.ref c_Marks) "clear_mark" = some (some (.ref f_Marks_clear_mark)))
    (am_Versions_look_in : PySem.W.findIn K (.ref c_Versions) "look_in" = some (some (.ref f_Versions_look_in)))
    (am_Versions_finish : PySem.W.findIn K (.ref c_Versions) "finish" = some (some (.ref f_Versions_finish)))
    (am_Counts_look_held : PySem.W.findIn K (.ref c_Counts) "look_held" = some (some (.ref f_Counts_look_held)))
    (am_Counts_drop : PySem.W.findIn K (.ref c_Counts) "drop" = some (some (.ref f_Counts_drop)))
    (cr_Store_init : PySem.W.readsIn K c_Store (.type "type") = true)
    (cg_Store_init : PySem.W.specialIn K (.ref c_Store) "__getattribute__" = some (some (.builtin "type.__getattribute__")))
    (ca_Store_init : PySem.W.findCls K (.ref c_Store) (.type "type") "__init__" = some (.val (.ref f_Store_init)))
    (im_Store_look_hand : PySem.W.isFn K (.ref f_Store_look_hand) = true)
    (im_Rounds_enter : PySem.W.isFn K (.ref f_Rounds_enter) = true)
    (im_Rounds_look_in : PySem.W.isFn K (.ref f_Rounds_look_in) = true)
    (im_Store_look_cell : PySem.W.isFn K (.ref f_Store_look_cell) = true)
    (im_Rounds_look : PySem.W.isFn K (.ref f_Rounds_look) = true)
    (im_Marks_look_mark : PySem.W.isFn K (.ref f_Marks_look_mark) = true)
    (im_Marks_fetch : PySem.W.isFn K (.ref f_Marks_fetch) = true)
    (im_Marks_state_of : PySem.W.isFn K (.ref f_Marks_state_of) = true)
    (im_Marks_set_mark : PySem.W.isFn K (.ref f_Marks_set_mark) = true)
    (im_Marks_sure : PySem.W.isFn K (.ref f_Marks_sure) = true)
    (im_Counts_hold : PySem.W.isFn K (.ref f_Counts_hold) = true)
    (im_Versions_look_hand : PySem.W.isFn K (.ref f_Versions_look_hand) = true)
    (im_Versions_begin : PySem.W.isFn K (.ref f_Versions_begin) = true)
    (im_Rounds_after_swap : PySem.W.isFn K (.ref f_Rounds_after_swap) = true)
    (im_Store_swap : PySem.W.isFn K (.ref f_Store_swap) = true)
    (im_Marks_after_swap : PySem.W.isFn K (.ref f_Marks_after_swap) = true)
    (im_Counts_count_of : PySem.W.isFn K (.ref f_Counts_count_of) = true)
    (im_Store_is_out : PySem.W.isFn K (.ref f_Store_is_out) = true)
    (im_Store_let_go : PySem.W.isFn K (.ref f_Store_let_go) = true)
    (im_Counts_loose : PySem.W.isFn K (.ref f_Counts_loose) = true)
    (im_Counts_after_swap : PySem.W.isFn K (.ref f_Counts_after_swap) = true)
    (im_Versions_look_pairs : PySem.W.isFn K (.ref f_Versions_look_pairs) = true)
    (im_Versions_write : PySem.W.isFn K (.ref f_Versions_write) = true)
    (im_Rounds_go_on : PySem.W.isFn K (.ref f_Rounds_go_on) = true)
    (im_Marks_marked : PySem.W.isFn K (.ref f_Marks_marked) = true)
    (im_Marks_sweep : PySem.W.isFn K (.ref f_Marks_sweep) = true)
    (im_Versions_trim : PySem.W.isFn K (.ref f_Versions_trim) = true)
    (im_Store_kept : PySem.W.isFn K (.ref f_Store_kept) = true)
    (im_Versions_look_cell : PySem.W.isFn K (.ref f_Versions_look_cell) = true)
    (im_Versions_kept : PySem.W.isFn K (.ref f_Versions_kept) = true)
    (im_Rounds_leave : PySem.W.isFn K (.ref f_Rounds_leave) = true)
    (im_Marks_clear_mark : PySem.W.isFn K (.ref f_Marks_clear_mark) = true)
    (im_Versions_look_in : PySem.W.isFn K (.ref f_Versions_look_in) = true)
    (im_Versions_finish : PySem.W.isFn K (.ref f_Versions_finish) = true)
    (im_Counts_look_held : PySem.W.isFn K (.ref f_Counts_look_held) = true)
    (im_Counts_drop : PySem.W.isFn K (.ref f_Counts_drop) = true)
    (a__law_town : PySem.W.nsIn K mainGlobals "_law_town" = some (some (.ref f__law_town)))
    (l__law_town : K.lookup f__law_town = some ⟨oc__law_town, od__law_town, .func (PySem.W.fnOf "_law_town" "_law_town" (defArgs s__law_town) (defBody s__law_town) (defScope s__law_town) .none kV__law_town dc__law_town pm__law_town an__law_town cd__law_town ct__law_town), sl__law_town⟩)
    (c__law_town : PySem.W.codeIn K cd__law_town "_law_town" = true)
    (k__law_town : PySem.W.keepIn K (.ref f__law_town) = true)
    (a__law_draw : PySem.W.nsIn K mainGlobals "_law_draw" = some (some (.ref f__law_draw)))
    (l__law_draw : K.lookup f__law_draw = some ⟨oc__law_draw, od__law_draw, .func (PySem.W.fnOf "_law_draw" "_law_draw" (defArgs s__law_draw) (defBody s__law_draw) (defScope s__law_draw) .none kV__law_draw dc__law_draw pm__law_draw an__law_draw cd__law_draw ct__law_draw), sl__law_draw⟩)
    (c__law_draw : PySem.W.codeIn K cd__law_draw "_law_draw" = true)
    (k__law_draw : PySem.W.keepIn K (.ref f__law_draw) = true)
    (a_is_whole : PySem.W.nsIn K mainGlobals "is_whole" = some (some (.ref f_is_whole)))
    (l_is_whole : K.lookup f_is_whole = some ⟨oc_is_whole, od_is_whole, .func (PySem.W.fnOf "is_whole" "is_whole" (defArgs s_is_whole) (defBody s_is_whole) (defScope s_is_whole) .none kV_is_whole dc_is_whole pm_is_whole an_is_whole cd_is_whole ct_is_whole), sl_is_whole⟩)
    (c_is_whole : PySem.W.codeIn K cd_is_whole "is_whole" = true)
    (k_is_whole : PySem.W.keepIn K (.ref f_is_whole) = true)
    (a_look_number : PySem.W.nsIn K mainGlobals "look_number" = some (some (.ref f_look_number)))
    (l_look_number : K.lookup f_look_number = some ⟨oc_look_number, od_look_number, .func (PySem.W.fnOf "look_number" "look_number" (defArgs s_look_number) (defBody s_look_number) (defScope s_look_number) .none kV_look_number dc_look_number pm_look_number an_look_number cd_look_number ct_look_number), sl_look_number⟩)
    (c_look_number : PySem.W.codeIn K cd_look_number "look_number" = true)
    (k_look_number : PySem.W.keepIn K (.ref f_look_number) = true)
    (l_Versions_init : K.lookup f_Versions_init = some ⟨oc_Versions_init, od_Versions_init, .func (PySem.W.fnOf "__init__" "Versions.__init__" (defArgs s_Versions_init) (defBody s_Versions_init) (defScope s_Versions_init) (.ref td_Versions_init) kV_Versions_init dc_Versions_init pm_Versions_init an_Versions_init cd_Versions_init ct_Versions_init), sl_Versions_init⟩)
    (lt_Versions_init : K.lookup td_Versions_init = some ⟨toc_Versions_init, tod_Versions_init, .seq #[.int 3 tt_Versions_init_0] tn_Versions_init, tsl_Versions_init⟩)
    (c_Versions_init : PySem.W.codeIn K cd_Versions_init "Versions.__init__" = true)
    (k_Versions_init : PySem.W.keepIn K (.ref f_Versions_init) = true)
    (l_Store_init : K.lookup f_Store_init = some ⟨oc_Store_init, od_Store_init, .func (PySem.W.fnOf "__init__" "Store.__init__" (defArgs s_Store_init) (defBody s_Store_init) (defScope s_Store_init) .none kV_Store_init dc_Store_init pm_Store_init an_Store_init cd_Store_init ct_Store_init), sl_Store_init⟩)
    (c_Store_init : PySem.W.codeIn K cd_Store_init "Store.__init__" = true)
    (k_Store_init : PySem.W.keepIn K (.ref f_Store_init) = true)
    (l_Counts_init : K.lookup f_Counts_init = some ⟨oc_Counts_init, od_Counts_init, .func (PySem.W.fnOf "__init__" "Counts.__init__" (defArgs s_Counts_init) (defBody s_Counts_init) (defScope s_Counts_init) .none kV_Counts_init dc_Counts_init pm_Counts_init an_Counts_init cd_Counts_init ct_Counts_init), sl_Counts_init⟩)
    (c_Counts_init : PySem.W.codeIn K cd_Counts_init "Counts.__init__" = true)
    (k_Counts_init : PySem.W.keepIn K (.ref f_Counts_init) = true)
    (l_Marks_init : K.lookup f_Marks_init = some ⟨oc_Marks_init, od_Marks_init, .func (PySem.W.fnOf "__init__" "Marks.__init__" (defArgs s_Marks_init) (defBody s_Marks_init) (defScope s_Marks_init) .none kV_Marks_init dc_Marks_init pm_Marks_init an_Marks_init cd_Marks_init ct_Marks_init), sl_Marks_init⟩)
    (c_Marks_init : PySem.W.codeIn K cd_Marks_init "Marks.__init__" = true)
    (k_Marks_init : PySem.W.keepIn K (.ref f_Marks_init) = true)
    (l_Rounds_init : K.lookup f_Rounds_init = some ⟨oc_Rounds_init, od_Rounds_init, .func (PySem.W.fnOf "__init__" "Rounds.__init__" (defArgs s_Rounds_init) (defBody s_Rounds_init) (defScope s_Rounds_init) .none kV_Rounds_init dc_Rounds_init pm_Rounds_init an_Rounds_init cd_Rounds_init ct_Rounds_init), sl_Rounds_init⟩)
    (c_Rounds_init : PySem.W.codeIn K cd_Rounds_init "Rounds.__init__" = true)
    (k_Rounds_init : PySem.W.keepIn K (.ref f_Rounds_init) = true)
    (l_Store_look_hand : K.lookup f_Store_look_hand = some ⟨oc_Store_look_hand, od_Store_look_hand, .func (PySem.W.fnOf "look_hand" "Store.look_hand" (defArgs s_Store_look_hand) (defBody s_Store_look_hand) (defScope s_Store_look_hand) .none kV_Store_look_hand dc_Store_look_hand pm_Store_look_hand an_Store_look_hand cd_Store_look_hand ct_Store_look_hand), sl_Store_look_hand⟩)
    (c_Store_look_hand : PySem.W.codeIn K cd_Store_look_hand "Store.look_hand" = true)
    (k_Store_look_hand : PySem.W.keepIn K (.ref f_Store_look_hand) = true)
    (l_Rounds_enter : K.lookup f_Rounds_enter = some ⟨oc_Rounds_enter, od_Rounds_enter, .func (PySem.W.fnOf "enter" "Rounds.enter" (defArgs s_Rounds_enter) (defBody s_Rounds_enter) (defScope s_Rounds_enter) .none kV_Rounds_enter dc_Rounds_enter pm_Rounds_enter an_Rounds_enter cd_Rounds_enter ct_Rounds_enter), sl_Rounds_enter⟩)
    (c_Rounds_enter : PySem.W.codeIn K cd_Rounds_enter "Rounds.enter" = true)
    (k_Rounds_enter : PySem.W.keepIn K (.ref f_Rounds_enter) = true)
    (l_Rounds_look_in : K.lookup f_Rounds_look_in = some ⟨oc_Rounds_look_in, od_Rounds_look_in, .func (PySem.W.fnOf "look_in" "Rounds.look_in" (defArgs s_Rounds_look_in) (defBody s_Rounds_look_in) (defScope s_Rounds_look_in) .none kV_Rounds_look_in dc_Rounds_look_in pm_Rounds_look_in an_Rounds_look_in cd_Rounds_look_in ct_Rounds_look_in), sl_Rounds_look_in⟩)
    (c_Rounds_look_in : PySem.W.codeIn K cd_Rounds_look_in "Rounds.look_in" = true)
    (k_Rounds_look_in : PySem.W.keepIn K (.ref f_Rounds_look_in) = true)
    (l_Store_look_cell : K.lookup f_Store_look_cell = some ⟨oc_Store_look_cell, od_Store_look_cell, .func (PySem.W.fnOf "look_cell" "Store.look_cell" (defArgs s_Store_look_cell) (defBody s_Store_look_cell) (defScope s_Store_look_cell) .none kV_Store_look_cell dc_Store_look_cell pm_Store_look_cell an_Store_look_cell cd_Store_look_cell ct_Store_look_cell), sl_Store_look_cell⟩)
    (c_Store_look_cell : PySem.W.codeIn K cd_Store_look_cell "Store.look_cell" = true)
    (k_Store_look_cell : PySem.W.keepIn K (.ref f_Store_look_cell) = true)
    (l_Rounds_look : K.lookup f_Rounds_look = some ⟨oc_Rounds_look, od_Rounds_look, .func (PySem.W.fnOf "look" "Rounds.look" (defArgs s_Rounds_look) (defBody s_Rounds_look) (defScope s_Rounds_look) .none kV_Rounds_look dc_Rounds_look pm_Rounds_look an_Rounds_look cd_Rounds_look ct_Rounds_look), sl_Rounds_look⟩)
    (c_Rounds_look : PySem.W.codeIn K cd_Rounds_look "Rounds.look" = true)
    (k_Rounds_look : PySem.W.keepIn K (.ref f_Rounds_look) = true)
    (l_Marks_look_mark : K.lookup f_Marks_look_mark = some ⟨oc_Marks_look_mark, od_Marks_look_mark, .func (PySem.W.fnOf "look_mark" "Marks.look_mark" (defArgs s_Marks_look_mark) (defBody s_Marks_look_mark) (defScope s_Marks_look_mark) .none kV_Marks_look_mark dc_Marks_look_mark pm_Marks_look_mark an_Marks_look_mark cd_Marks_look_mark ct_Marks_look_mark), sl_Marks_look_mark⟩)
    (c_Marks_look_mark : PySem.W.codeIn K cd_Marks_look_mark "Marks.look_mark" = true)
    (k_Marks_look_mark : PySem.W.keepIn K (.ref f_Marks_look_mark) = true)
    (l_Marks_fetch : K.lookup f_Marks_fetch = some ⟨oc_Marks_fetch, od_Marks_fetch, .func (PySem.W.fnOf "fetch" "Marks.fetch" (defArgs s_Marks_fetch) (defBody s_Marks_fetch) (defScope s_Marks_fetch) .none kV_Marks_fetch dc_Marks_fetch pm_Marks_fetch an_Marks_fetch cd_Marks_fetch ct_Marks_fetch), sl_Marks_fetch⟩)
    (c_Marks_fetch : PySem.W.codeIn K cd_Marks_fetch "Marks.fetch" = true)
    (k_Marks_fetch : PySem.W.keepIn K (.ref f_Marks_fetch) = true)
    (l_Marks_state_of : K.lookup f_Marks_state_of = some ⟨oc_Marks_state_of, od_Marks_state_of, .func (PySem.W.fnOf "state_of" "Marks.state_of" (defArgs s_Marks_state_of) (defBody s_Marks_state_of) (defScope s_Marks_state_of) .none kV_Marks_state_of dc_Marks_state_of pm_Marks_state_of an_Marks_state_of cd_Marks_state_of ct_Marks_state_of), sl_Marks_state_of⟩)
    (c_Marks_state_of : PySem.W.codeIn K cd_Marks_state_of "Marks.state_of" = true)
    (k_Marks_state_of : PySem.W.keepIn K (.ref f_Marks_state_of) = true)
    (l_Marks_set_mark : K.lookup f_Marks_set_mark = some ⟨oc_Marks_set_mark, od_Marks_set_mark, .func (PySem.W.fnOf "set_mark" "Marks.set_mark" (defArgs s_Marks_set_mark) (defBody s_Marks_set_mark) (defScope s_Marks_set_mark) .none kV_Marks_set_mark dc_Marks_set_mark pm_Marks_set_mark an_Marks_set_mark cd_Marks_set_mark ct_Marks_set_mark), sl_Marks_set_mark⟩)
    (c_Marks_set_mark : PySem.W.codeIn K cd_Marks_set_mark "Marks.set_mark" = true)
    (k_Marks_set_mark : PySem.W.keepIn K (.ref f_Marks_set_mark) = true)
    (l_Marks_sure : K.lookup f_Marks_sure = some ⟨oc_Marks_sure, od_Marks_sure, .func (PySem.W.fnOf "sure" "Marks.sure" (defArgs s_Marks_sure) (defBody s_Marks_sure) (defScope s_Marks_sure) .none kV_Marks_sure dc_Marks_sure pm_Marks_sure an_Marks_sure cd_Marks_sure ct_Marks_sure), sl_Marks_sure⟩)
    (c_Marks_sure : PySem.W.codeIn K cd_Marks_sure "Marks.sure" = true)
    (k_Marks_sure : PySem.W.keepIn K (.ref f_Marks_sure) = true)
    (l_Counts_hold : K.lookup f_Counts_hold = some ⟨oc_Counts_hold, od_Counts_hold, .func (PySem.W.fnOf "hold" "Counts.hold" (defArgs s_Counts_hold) (defBody s_Counts_hold) (defScope s_Counts_hold) .none kV_Counts_hold dc_Counts_hold pm_Counts_hold an_Counts_hold cd_Counts_hold ct_Counts_hold), sl_Counts_hold⟩)
    (c_Counts_hold : PySem.W.codeIn K cd_Counts_hold "Counts.hold" = true)
    (k_Counts_hold : PySem.W.keepIn K (.ref f_Counts_hold) = true)
    (l_Versions_look_hand : K.lookup f_Versions_look_hand = some ⟨oc_Versions_look_hand, od_Versions_look_hand, .func (PySem.W.fnOf "look_hand" "Versions.look_hand" (defArgs s_Versions_look_hand) (defBody s_Versions_look_hand) (defScope s_Versions_look_hand) .none kV_Versions_look_hand dc_Versions_look_hand pm_Versions_look_hand an_Versions_look_hand cd_Versions_look_hand ct_Versions_look_hand), sl_Versions_look_hand⟩)
    (c_Versions_look_hand : PySem.W.codeIn K cd_Versions_look_hand "Versions.look_hand" = true)
    (k_Versions_look_hand : PySem.W.keepIn K (.ref f_Versions_look_hand) = true)
    (l_Versions_begin : K.lookup f_Versions_begin = some ⟨oc_Versions_begin, od_Versions_begin, .func (PySem.W.fnOf "begin" "Versions.begin" (defArgs s_Versions_begin) (defBody s_Versions_begin) (defScope s_Versions_begin) .none kV_Versions_begin dc_Versions_begin pm_Versions_begin an_Versions_begin cd_Versions_begin ct_Versions_begin), sl_Versions_begin⟩)
    (c_Versions_begin : PySem.W.codeIn K cd_Versions_begin "Versions.begin" = true)
    (k_Versions_begin : PySem.W.keepIn K (.ref f_Versions_begin) = true)
    (a__law_stores : PySem.W.nsIn K mainGlobals "_law_stores" = some (some (.ref f__law_stores)))
    (l__law_stores : K.lookup f__law_stores = some ⟨oc__law_stores, od__law_stores, .func (PySem.W.fnOf "_law_stores" "_law_stores" (defArgs s__law_stores) (defBody s__law_stores) (defScope s__law_stores) .none kV__law_stores dc__law_stores pm__law_stores an__law_stores cd__law_stores ct__law_stores), sl__law_stores⟩)
    (c__law_stores : PySem.W.codeIn K cd__law_stores "_law_stores" = true)
    (k__law_stores : PySem.W.keepIn K (.ref f__law_stores) = true)
    (l_Rounds_after_swap : K.lookup f_Rounds_after_swap = some ⟨oc_Rounds_after_swap, od_Rounds_after_swap, .func (PySem.W.fnOf "after_swap" "Rounds.after_swap" (defArgs s_Rounds_after_swap) (defBody s_Rounds_after_swap) (defScope s_Rounds_after_swap) .none kV_Rounds_after_swap dc_Rounds_after_swap pm_Rounds_after_swap an_Rounds_after_swap cd_Rounds_after_swap ct_Rounds_after_swap), sl_Rounds_after_swap⟩)
    (c_Rounds_after_swap : PySem.W.codeIn K cd_Rounds_after_swap "Rounds.after_swap" = true)
    (k_Rounds_after_swap : PySem.W.keepIn K (.ref f_Rounds_after_swap) = true)
    (l_Store_swap : K.lookup f_Store_swap = some ⟨oc_Store_swap, od_Store_swap, .func (PySem.W.fnOf "swap" "Store.swap" (defArgs s_Store_swap) (defBody s_Store_swap) (defScope s_Store_swap) .none kV_Store_swap dc_Store_swap pm_Store_swap an_Store_swap cd_Store_swap ct_Store_swap), sl_Store_swap⟩)
    (c_Store_swap : PySem.W.codeIn K cd_Store_swap "Store.swap" = true)
    (k_Store_swap : PySem.W.keepIn K (.ref f_Store_swap) = true)
    (l_Marks_after_swap : K.lookup f_Marks_after_swap = some ⟨oc_Marks_after_swap, od_Marks_after_swap, .func (PySem.W.fnOf "after_swap" "Marks.after_swap" (defArgs s_Marks_after_swap) (defBody s_Marks_after_swap) (defScope s_Marks_after_swap) .none kV_Marks_after_swap dc_Marks_after_swap pm_Marks_after_swap an_Marks_after_swap cd_Marks_after_swap ct_Marks_after_swap), sl_Marks_after_swap⟩)
    (c_Marks_after_swap : PySem.W.codeIn K cd_Marks_after_swap "Marks.after_swap" = true)
    (k_Marks_after_swap : PySem.W.keepIn K (.ref f_Marks_after_swap) = true)
    (l_Counts_count_of : K.lookup f_Counts_count_of = some ⟨oc_Counts_count_of, od_Counts_count_of, .func (PySem.W.fnOf "count_of" "Counts.count_of" (defArgs s_Counts_count_of) (defBody s_Counts_count_of) (defScope s_Counts_count_of) .none kV_Counts_count_of dc_Counts_count_of pm_Counts_count_of an_Counts_count_of cd_Counts_count_of ct_Counts_count_of), sl_Counts_count_of⟩)
    (c_Counts_count_of : PySem.W.codeIn K cd_Counts_count_of "Counts.count_of" = true)
    (k_Counts_count_of : PySem.W.keepIn K (.ref f_Counts_count_of) = true)
    (l_Store_is_out : K.lookup f_Store_is_out = some ⟨oc_Store_is_out, od_Store_is_out, .func (PySem.W.fnOf "is_out" "Store.is_out" (defArgs s_Store_is_out) (defBody s_Store_is_out) (defScope s_Store_is_out) .none kV_Store_is_out dc_Store_is_out pm_Store_is_out an_Store_is_out cd_Store_is_out ct_Store_is_out), sl_Store_is_out⟩)
    (c_Store_is_out : PySem.W.codeIn K cd_Store_is_out "Store.is_out" = true)
    (k_Store_is_out : PySem.W.keepIn K (.ref f_Store_is_out) = true)
    (l_Store_let_go : K.lookup f_Store_let_go = some ⟨oc_Store_let_go, od_Store_let_go, .func (PySem.W.fnOf "let_go" "Store.let_go" (defArgs s_Store_let_go) (defBody s_Store_let_go) (defScope s_Store_let_go) .none kV_Store_let_go dc_Store_let_go pm_Store_let_go an_Store_let_go cd_Store_let_go ct_Store_let_go), sl_Store_let_go⟩)
    (c_Store_let_go : PySem.W.codeIn K cd_Store_let_go "Store.let_go" = true)
    (k_Store_let_go : PySem.W.keepIn K (.ref f_Store_let_go) = true)
    (l_Counts_loose : K.lookup f_Counts_loose = some ⟨oc_Counts_loose, od_Counts_loose, .func (PySem.W.fnOf "loose" "Counts.loose" (defArgs s_Counts_loose) (defBody s_Counts_loose) (defScope s_Counts_loose) .none kV_Counts_loose dc_Counts_loose pm_Counts_loose an_Counts_loose cd_Counts_loose ct_Counts_loose), sl_Counts_loose⟩)
    (c_Counts_loose : PySem.W.codeIn K cd_Counts_loose "Counts.loose" = true)
    (k_Counts_loose : PySem.W.keepIn K (.ref f_Counts_loose) = true)
    (l_Counts_after_swap : K.lookup f_Counts_after_swap = some ⟨oc_Counts_after_swap, od_Counts_after_swap, .func (PySem.W.fnOf "after_swap" "Counts.after_swap" (defArgs s_Counts_after_swap) (defBody s_Counts_after_swap) (defScope s_Counts_after_swap) .none kV_Counts_after_swap dc_Counts_after_swap pm_Counts_after_swap an_Counts_after_swap cd_Counts_after_swap ct_Counts_after_swap), sl_Counts_after_swap⟩)
    (c_Counts_after_swap : PySem.W.codeIn K cd_Counts_after_swap "Counts.after_swap" = true)
    (k_Counts_after_swap : PySem.W.keepIn K (.ref f_Counts_after_swap) = true)
    (l_Versions_look_pairs : K.lookup f_Versions_look_pairs = some ⟨oc_Versions_look_pairs, od_Versions_look_pairs, .func (PySem.W.fnOf "look_pairs" "Versions.look_pairs" (defArgs s_Versions_look_pairs) (defBody s_Versions_look_pairs) (defScope s_Versions_look_pairs) .none kV_Versions_look_pairs dc_Versions_look_pairs pm_Versions_look_pairs an_Versions_look_pairs cd_Versions_look_pairs ct_Versions_look_pairs), sl_Versions_look_pairs⟩)
    (c_Versions_look_pairs : PySem.W.codeIn K cd_Versions_look_pairs "Versions.look_pairs" = true)
    (k_Versions_look_pairs : PySem.W.keepIn K (.ref f_Versions_look_pairs) = true)
    (l_Versions_write : K.lookup f_Versions_write = some ⟨oc_Versions_write, od_Versions_write, .func (PySem.W.fnOf "write" "Versions.write" (defArgs s_Versions_write) (defBody s_Versions_write) (defScope s_Versions_write) .none kV_Versions_write dc_Versions_write pm_Versions_write an_Versions_write cd_Versions_write ct_Versions_write), sl_Versions_write⟩)
    (c_Versions_write : PySem.W.codeIn K cd_Versions_write "Versions.write" = true)
    (k_Versions_write : PySem.W.keepIn K (.ref f_Versions_write) = true)
    (l_Rounds_go_on : K.lookup f_Rounds_go_on = some ⟨oc_Rounds_go_on, od_Rounds_go_on, .func (PySem.W.fnOf "go_on" "Rounds.go_on" (defArgs s_Rounds_go_on) (defBody s_Rounds_go_on) (defScope s_Rounds_go_on) .none kV_Rounds_go_on dc_Rounds_go_on pm_Rounds_go_on an_Rounds_go_on cd_Rounds_go_on ct_Rounds_go_on), sl_Rounds_go_on⟩)
    (c_Rounds_go_on : PySem.W.codeIn K cd_Rounds_go_on "Rounds.go_on" = true)
    (k_Rounds_go_on : PySem.W.keepIn K (.ref f_Rounds_go_on) = true)
    (l_Marks_marked : K.lookup f_Marks_marked = some ⟨oc_Marks_marked, od_Marks_marked, .func (PySem.W.fnOf "marked" "Marks.marked" (defArgs s_Marks_marked) (defBody s_Marks_marked) (defScope s_Marks_marked) .none kV_Marks_marked dc_Marks_marked pm_Marks_marked an_Marks_marked cd_Marks_marked ct_Marks_marked), sl_Marks_marked⟩)
    (c_Marks_marked : PySem.W.codeIn K cd_Marks_marked "Marks.marked" = true)
    (k_Marks_marked : PySem.W.keepIn K (.ref f_Marks_marked) = true)
    (l_Marks_sweep : K.lookup f_Marks_sweep = some ⟨oc_Marks_sweep, od_Marks_sweep, .func (PySem.W.fnOf "sweep" "Marks.sweep" (defArgs s_Marks_sweep) (defBody s_Marks_sweep) (defScope s_Marks_sweep) .none kV_Marks_sweep dc_Marks_sweep pm_Marks_sweep an_Marks_sweep cd_Marks_sweep ct_Marks_sweep), sl_Marks_sweep⟩)
    (c_Marks_sweep : PySem.W.codeIn K cd_Marks_sweep "Marks.sweep" = true)
    (k_Marks_sweep : PySem.W.keepIn K (.ref f_Marks_sweep) = true)
    (l_Versions_trim : K.lookup f_Versions_trim = some ⟨oc_Versions_trim, od_Versions_trim, .func (PySem.W.fnOf "trim" "Versions.trim" (defArgs s_Versions_trim) (defBody s_Versions_trim) (defScope s_Versions_trim) .none kV_Versions_trim dc_Versions_trim pm_Versions_trim an_Versions_trim cd_Versions_trim ct_Versions_trim), sl_Versions_trim⟩)
    (c_Versions_trim : PySem.W.codeIn K cd_Versions_trim "Versions.trim" = true)
    (k_Versions_trim : PySem.W.keepIn K (.ref f_Versions_trim) = true)
    (l_Store_kept : K.lookup f_Store_kept = some ⟨oc_Store_kept, od_Store_kept, .func (PySem.W.fnOf "kept" "Store.kept" (defArgs s_Store_kept) (defBody s_Store_kept) (defScope s_Store_kept) .none kV_Store_kept dc_Store_kept pm_Store_kept an_Store_kept cd_Store_kept ct_Store_kept), sl_Store_kept⟩)
    (c_Store_kept : PySem.W.codeIn K cd_Store_kept "Store.kept" = true)
    (k_Store_kept : PySem.W.keepIn K (.ref f_Store_kept) = true)
    (l_Versions_look_cell : K.lookup f_Versions_look_cell = some ⟨oc_Versions_look_cell, od_Versions_look_cell, .func (PySem.W.fnOf "look_cell" "Versions.look_cell" (defArgs s_Versions_look_cell) (defBody s_Versions_look_cell) (defScope s_Versions_look_cell) .none kV_Versions_look_cell dc_Versions_look_cell pm_Versions_look_cell an_Versions_look_cell cd_Versions_look_cell ct_Versions_look_cell), sl_Versions_look_cell⟩)
    (c_Versions_look_cell : PySem.W.codeIn K cd_Versions_look_cell "Versions.look_cell" = true)
    (k_Versions_look_cell : PySem.W.keepIn K (.ref f_Versions_look_cell) = true)
    (l_Versions_kept : K.lookup f_Versions_kept = some ⟨oc_Versions_kept, od_Versions_kept, .func (PySem.W.fnOf "kept" "Versions.kept" (defArgs s_Versions_kept) (defBody s_Versions_kept) (defScope s_Versions_kept) .none kV_Versions_kept dc_Versions_kept pm_Versions_kept an_Versions_kept cd_Versions_kept ct_Versions_kept), sl_Versions_kept⟩)
    (c_Versions_kept : PySem.W.codeIn K cd_Versions_kept "Versions.kept" = true)
    (k_Versions_kept : PySem.W.keepIn K (.ref f_Versions_kept) = true)
    (l_Rounds_leave : K.lookup f_Rounds_leave = some ⟨oc_Rounds_leave, od_Rounds_leave, .func (PySem.W.fnOf "leave" "Rounds.leave" (defArgs s_Rounds_leave) (defBody s_Rounds_leave) (defScope s_Rounds_leave) .none kV_Rounds_leave dc_Rounds_leave pm_Rounds_leave an_Rounds_leave cd_Rounds_leave ct_Rounds_leave), sl_Rounds_leave⟩)
    (c_Rounds_leave : PySem.W.codeIn K cd_Rounds_leave "Rounds.leave" = true)
    (k_Rounds_leave : PySem.W.keepIn K (.ref f_Rounds_leave) = true)
    (l_Marks_clear_mark : K.lookup f_Marks_clear_mark = some ⟨oc_Marks_clear_mark, od_Marks_clear_mark, .func (PySem.W.fnOf "clear_mark" "Marks.clear_mark" (defArgs s_Marks_clear_mark) (defBody s_Marks_clear_mark) (defScope s_Marks_clear_mark) .none kV_Marks_clear_mark dc_Marks_clear_mark pm_Marks_clear_mark an_Marks_clear_mark cd_Marks_clear_mark ct_Marks_clear_mark), sl_Marks_clear_mark⟩)
    (c_Marks_clear_mark : PySem.W.codeIn K cd_Marks_clear_mark "Marks.clear_mark" = true)
    (k_Marks_clear_mark : PySem.W.keepIn K (.ref f_Marks_clear_mark) = true)
    (l_Versions_look_in : K.lookup f_Versions_look_in = some ⟨oc_Versions_look_in, od_Versions_look_in, .func (PySem.W.fnOf "look_in" "Versions.look_in" (defArgs s_Versions_look_in) (defBody s_Versions_look_in) (defScope s_Versions_look_in) .none kV_Versions_look_in dc_Versions_look_in pm_Versions_look_in an_Versions_look_in cd_Versions_look_in ct_Versions_look_in), sl_Versions_look_in⟩)
    (c_Versions_look_in : PySem.W.codeIn K cd_Versions_look_in "Versions.look_in" = true)
    (k_Versions_look_in : PySem.W.keepIn K (.ref f_Versions_look_in) = true)
    (l_Versions_finish : K.lookup f_Versions_finish = some ⟨oc_Versions_finish, od_Versions_finish, .func (PySem.W.fnOf "finish" "Versions.finish" (defArgs s_Versions_finish) (defBody s_Versions_finish) (defScope s_Versions_finish) .none kV_Versions_finish dc_Versions_finish pm_Versions_finish an_Versions_finish cd_Versions_finish ct_Versions_finish), sl_Versions_finish⟩)
    (c_Versions_finish : PySem.W.codeIn K cd_Versions_finish "Versions.finish" = true)
    (k_Versions_finish : PySem.W.keepIn K (.ref f_Versions_finish) = true)
    (l_Counts_look_held : K.lookup f_Counts_look_held = some ⟨oc_Counts_look_held, od_Counts_look_held, .func (PySem.W.fnOf "look_held" "Counts.look_held" (defArgs s_Counts_look_held) (defBody s_Counts_look_held) (defScope s_Counts_look_held) .none kV_Counts_look_held dc_Counts_look_held pm_Counts_look_held an_Counts_look_held cd_Counts_look_held ct_Counts_look_held), sl_Counts_look_held⟩)
    (c_Counts_look_held : PySem.W.codeIn K cd_Counts_look_held "Counts.look_held" = true)
    (k_Counts_look_held : PySem.W.keepIn K (.ref f_Counts_look_held) = true)
    (l_Counts_drop : K.lookup f_Counts_drop = some ⟨oc_Counts_drop, od_Counts_drop, .func (PySem.W.fnOf "drop" "Counts.drop" (defArgs s_Counts_drop) (defBody s_Counts_drop) (defScope s_Counts_drop) .none kV_Counts_drop dc_Counts_drop pm_Counts_drop an_Counts_drop cd_Counts_drop ct_Counts_drop), sl_Counts_drop⟩)
    (c_Counts_drop : PySem.W.codeIn K cd_Counts_drop "Counts.drop" = true)
    (k_Counts_drop : PySem.W.keepIn K (.ref f_Counts_drop) = true)
    (a_law : PySem.W.nsIn K mainGlobals "law" = some (some (.ref f_law)))
    (l_law : K.lookup f_law = some ⟨oc_law, od_law, .func (PySem.W.fnOf "law" "law" (defArgs s_law) (defBody s_law) (defScope s_law) .none kV_law dc_law pm_law an_law cd_law ct_law), sl_law⟩)
    (c_law : PySem.W.codeIn K cd_law "law" = true)
    (k_law : PySem.W.keepIn K (.ref f_law) = true)
    (z_all : PySem.W.nsIn K mainGlobals "all" = some none)
    (z_bool : PySem.W.nsIn K mainGlobals "bool" = some none)
    (z_dict : PySem.W.nsIn K mainGlobals "dict" = some none)
    (z_int : PySem.W.nsIn K mainGlobals "int" = some none)
    (z_isinstance : PySem.W.nsIn K mainGlobals "isinstance" = some none)
    (z_len : PySem.W.nsIn K mainGlobals "len" = some none)
    (z_list : PySem.W.nsIn K mainGlobals "list" = some none)
    (z_max : PySem.W.nsIn K mainGlobals "max" = some none)
    (z_range : PySem.W.nsIn K mainGlobals "range" = some none)
    (z_set : PySem.W.nsIn K mainGlobals "set" = some none)
    (z_sorted : PySem.W.nsIn K mainGlobals "sorted" = some none)
    (z_sum : PySem.W.nsIn K mainGlobals "sum" = some none)
    (z_tuple : PySem.W.nsIn K mainGlobals "tuple" = some none)
    (zk_MARKS : PySem.W.nsIn K mainGlobals "MARKS" = some (some (.int (2) t_MARKS)))
    (zk_MOST_CELLS : PySem.W.nsIn K mainGlobals "MOST_CELLS" = some (some (.int (5) t_MOST_CELLS)))
    (zk_MOST_HANDS : PySem.W.nsIn K mainGlobals "MOST_HANDS" = some (some (.int (6) t_MOST_HANDS)))
    (zk_MOST_VALUE : PySem.W.nsIn K mainGlobals "MOST_VALUE" = some (some (.int (999) t_MOST_VALUE))) :
    ∃ fd : FuncData, (∀ (s : Shared) (v : Value), BindsTo s fd ⟨[v], []⟩ [("script", v)]) ∧ ∀ base : Heap, K.In base → base.Ns mainGlobals mg → FnOk l.prog w K mg base CX0 7 fa fd ["script"] (sp_law K) := by
  have e := hfa.symm.trans (PySem.W.mg_of X G a_law)
  cases e
  have F__law_town := fun_mk (st := s__law_town) l__law_town c__law_town k__law_town
  have F__law_draw := fun_mk (st := s__law_draw) l__law_draw c__law_draw k__law_draw
  have F_is_whole := fun_mk (st := s_is_whole) l_is_whole c_is_whole k_is_whole
  have F_look_number := fun_mk (st := s_look_number) l_look_number c_look_number k_look_number
  have F_Store_init := fun_mk (st := s_Store_init) l_Store_init c_Store_init k_Store_init
  have F_Counts_init := fun_mk (st := s_Counts_init) l_Counts_init c_Counts_init k_Counts_init
  have F_Marks_init := fun_mk (st := s_Marks_init) l_Marks_init c_Marks_init k_Marks_init
  have F_Rounds_init := fun_mk (st := s_Rounds_init) l_Rounds_init c_Rounds_init k_Rounds_init
  have F_Store_look_hand := fun_mk (st := s_Store_look_hand) l_Store_look_hand c_Store_look_hand k_Store_look_hand
  have F_Rounds_enter := fun_mk (st := s_Rounds_enter) l_Rounds_enter c_Rounds_enter k_Rounds_enter
  have F_Rounds_look_in := fun_mk (st := s_Rounds_look_in) l_Rounds_look_in c_Rounds_look_in k_Rounds_look_in
  have F_Store_look_cell := fun_mk (st := s_Store_look_cell) l_Store_look_cell c_Store_look_cell k_Store_look_cell
  have F_Rounds_look := fun_mk (st := s_Rounds_look) l_Rounds_look c_Rounds_look k_Rounds_look
  have F_Marks_look_mark := fun_mk (st := s_Marks_look_mark) l_Marks_look_mark c_Marks_look_mark k_Marks_look_mark
  have F_Marks_fetch := fun_mk (st := s_Marks_fetch) l_Marks_fetch c_Marks_fetch k_Marks_fetch
  have F_Marks_state_of := fun_mk (st := s_Marks_state_of) l_Marks_state_of c_Marks_state_of k_Marks_state_of
  have F_Marks_set_mark := fun_mk (st := s_Marks_set_mark) l_Marks_set_mark c_Marks_set_mark k_Marks_set_mark
  have F_Marks_sure := fun_mk (st := s_Marks_sure) l_Marks_sure c_Marks_sure k_Marks_sure
  have F_Counts_hold := fun_mk (st := s_Counts_hold) l_Counts_hold c_Counts_hold k_Counts_hold
  have F_Versions_look_hand := fun_mk (st := s_Versions_look_hand) l_Versions_look_hand c_Versions_look_hand k_Versions_look_hand
  have F_Versions_begin := fun_mk (st := s_Versions_begin) l_Versions_begin c_Versions_begin k_Versions_begin
  have F__law_stores := fun_mk (st := s__law_stores) l__law_stores c__law_stores k__law_stores
  have F_Rounds_after_swap := fun_mk (st := s_Rounds_after_swap) l_Rounds_after_swap c_Rounds_after_swap k_Rounds_after_swap
  have F_Store_swap := fun_mk (st := s_Store_swap) l_Store_swap c_Store_swap k_Store_swap
  have F_Marks_after_swap := fun_mk (st := s_Marks_after_swap) l_Marks_after_swap c_Marks_after_swap k_Marks_after_swap
  have F_Counts_count_of := fun_mk (st := s_Counts_count_of) l_Counts_count_of c_Counts_count_of k_Counts_count_of
  have F_Store_is_out := fun_mk (st := s_Store_is_out) l_Store_is_out c_Store_is_out k_Store_is_out
  have F_Store_let_go := fun_mk (st := s_Store_let_go) l_Store_let_go c_Store_let_go k_Store_let_go
  have F_Counts_loose := fun_mk (st := s_Counts_loose) l_Counts_loose c_Counts_loose k_Counts_loose
  have F_Counts_after_swap := fun_mk (st := s_Counts_after_swap) l_Counts_after_swap c_Counts_after_swap k_Counts_after_swap
  have F_Versions_look_pairs := fun_mk (st := s_Versions_look_pairs) l_Versions_look_pairs c_Versions_look_pairs k_Versions_look_pairs
  have F_Versions_write := fun_mk (st := s_Versions_write) l_Versions_write c_Versions_write k_Versions_write
  have F_Rounds_go_on := fun_mk (st := s_Rounds_go_on) l_Rounds_go_on c_Rounds_go_on k_Rounds_go_on
  have F_Marks_marked := fun_mk (st := s_Marks_marked) l_Marks_marked c_Marks_marked k_Marks_marked
  have F_Marks_sweep := fun_mk (st := s_Marks_sweep) l_Marks_sweep c_Marks_sweep k_Marks_sweep
  have F_Versions_trim := fun_mk (st := s_Versions_trim) l_Versions_trim c_Versions_trim k_Versions_trim
  have F_Store_kept := fun_mk (st := s_Store_kept) l_Store_kept c_Store_kept k_Store_kept
  have F_Versions_look_cell := fun_mk (st := s_Versions_look_cell) l_Versions_look_cell c_Versions_look_cell k_Versions_look_cell
  have F_Versions_kept := fun_mk (st := s_Versions_kept) l_Versions_kept c_Versions_kept k_Versions_kept
  have F_Rounds_leave := fun_mk (st := s_Rounds_leave) l_Rounds_leave c_Rounds_leave k_Rounds_leave
  have F_Marks_clear_mark := fun_mk (st := s_Marks_clear_mark) l_Marks_clear_mark c_Marks_clear_mark k_Marks_clear_mark
  have F_Versions_look_in := fun_mk (st := s_Versions_look_in) l_Versions_look_in c_Versions_look_in k_Versions_look_in
  have F_Versions_finish := fun_mk (st := s_Versions_finish) l_Versions_finish c_Versions_finish k_Versions_finish
  have F_Counts_look_held := fun_mk (st := s_Counts_look_held) l_Counts_look_held c_Counts_look_held k_Counts_look_held
  have F_Counts_drop := fun_mk (st := s_Counts_drop) l_Counts_drop c_Counts_drop k_Counts_drop
  have F_law := fun_mk (st := s_law) l_law c_law k_law
  have b__law_town := F__law_town.binds (ps := ["script"]) fun _ _ _ _ _ _ us hl => match us, hl with | [_], _ => rfl
  have b__law_draw := F__law_draw.binds (ps := ["town", "many"]) fun _ _ _ _ _ _ us hl => match us, hl with | [_, _], _ => rfl
  have b_is_whole := F_is_whole.binds (ps := ["thing", "low", "high"]) fun _ _ _ _ _ _ us hl => match us, hl with | [_, _, _], _ => rfl
  have b_look_number := F_look_number.binds (ps := ["thing", "low", "high"]) fun _ _ _ _ _ _ us hl => match us, hl with | [_, _, _], _ => rfl
  have F_Versions_init : FunD K "__init__" "Versions.__init__" (defArgs s_Versions_init) (defBody s_Versions_init) (defScope s_Versions_init) [.int 3] [] f_Versions_init (PySem.W.fnOf "__init__" "Versions.__init__" (defArgs s_Versions_init) (defBody s_Versions_init) (defScope s_Versions_init) (.ref td_Versions_init) kV_Versions_init dc_Versions_init pm_Versions_init an_Versions_init cd_Versions_init ct_Versions_init) := ⟨⟨_, _, _, _, _, _, _, _, _, _, rfl, l_Versions_init, c_Versions_init, .inr ⟨List.cons_ne_nil _ _, td_Versions_init, _, [.int 3 tt_Versions_init_0], _, rfl, lt_Versions_init, rfl, (.cons ⟨_, rfl⟩ .nil)⟩, .inl rfl⟩, k_Versions_init⟩
  obtain ⟨ds_Versions_init, vd_Versions_init, bd_Versions_init⟩ := F_Versions_init.binds1 (ps := ["self", "hands", "cells"]) 2 0 (List.cons_ne_nil _ _) rfl fun T kV doc pm an cdv ct us its l1 l2 => match us, its, l1, l2 with | [_, _], [_], _, _ => ⟨_, rfl, rfl⟩
  have b_Versions_init : Binds K (PySem.W.fnOf "__init__" "Versions.__init__" (defArgs s_Versions_init) (defBody s_Versions_init) (defScope s_Versions_init) (.ref td_Versions_init) kV_Versions_init dc_Versions_init pm_Versions_init an_Versions_init cd_Versions_init ct_Versions_init) ["self", "hands", "cells"] [] := by
    obtain ⟨ds, vd, bd⟩ := F_Versions_init.binds1 (ps := ["self", "hands", "cells"]) 3 1 (List.cons_ne_nil _ _) rfl fun T kV doc pm an cdv ct us its l1 l2 => match us, its, l1, l2 with | [_, _, _], [_], _, _ => ⟨_, rfl, rfl⟩
    cases vd
    exact bd
  obtain ⟨its_Versions_init, kb_Versions_init⟩ := F_Versions_init.kbindsD (ps := ["self", "hands", "cells"]) 2 ["cells"] (fun us _ ws => us ++ ws) (List.cons_ne_nil _ _) (fun r1 _ r2 => r1.append r2) fun T kV doc pm an cdv ct us its ws l1 l2 l3 => match us, its, ws, l1, l2, l3 with | [_, _], [_], [_], _, _, _ => ⟨_, rfl, rfl⟩
  have b_Store_init := F_Store_init.binds (ps := ["self", "hands", "cells"]) fun _ _ _ _ _ _ us hl => match us, hl with | [_, _, _], _ => rfl
  have b_Counts_init := F_Counts_init.binds (ps := ["self", "hands", "cells"]) fun _ _ _ _ _ _ us hl => match us, hl with | [_, _, _], _ => rfl
  have b_Marks_init := F_Marks_init.binds (ps := ["self", "hands", "cells"]) fun _ _ _ _ _ _ us hl => match us, hl with | [_, _, _], _ => rfl
  have b_Rounds_init := F_Rounds_init.binds (ps := ["self", "hands", "cells"]) fun _ _ _ _ _ _ us hl => match us, hl with | [_, _, _], _ => rfl
  have b_Store_look_hand := F_Store_look_hand.binds (ps := ["self", "hand"]) fun _ _ _ _ _ _ us hl => match us, hl with | [_, _], _ => rfl
  have b_Rounds_enter := F_Rounds_enter.binds (ps := ["self", "hand"]) fun _ _ _ _ _ _ us hl => match us, hl with | [_, _], _ => rfl
  have b_Rounds_look_in := F_Rounds_look_in.binds (ps := ["self", "hand"]) fun _ _ _ _ _ _ us hl => match us, hl with | [_, _], _ => rfl
  have b_Store_look_cell := F_Store_look_cell.binds (ps := ["self", "cell"]) fun _ _ _ _ _ _ us hl => match us, hl with | [_, _], _ => rfl
  have b_Rounds_look := F_Rounds_look.binds (ps := ["self", "hand", "cell"]) fun _ _ _ _ _ _ us hl => match us, hl with | [_, _, _], _ => rfl
  have b_Marks_look_mark := F_Marks_look_mark.binds (ps := ["self", "hand", "mark"]) fun _ _ _ _ _ _ us hl => match us, hl with | [_, _, _], _ => rfl
  have b_Marks_fetch := F_Marks_fetch.binds (ps := ["self", "hand", "mark", "cell"]) fun _ _ _ _ _ _ us hl => match us, hl with | [_, _, _, _], _ => rfl
  have b_Marks_state_of := F_Marks_state_of.binds (ps := ["self", "hand", "mark", "states"]) fun _ _ _ _ _ _ us hl => match us, hl with | [_, _, _, _], _ => rfl
  have b_Marks_set_mark := F_Marks_set_mark.binds (ps := ["self", "hand", "mark"]) fun _ _ _ _ _ _ us hl => match us, hl with | [_, _, _], _ => rfl
  have b_Marks_sure := F_Marks_sure.binds (ps := ["self", "hand", "mark"]) fun _ _ _ _ _ _ us hl => match us, hl with | [_, _, _], _ => rfl
  have b_Counts_hold := F_Counts_hold.binds (ps := ["self", "hand", "cell"]) fun _ _ _ _ _ _ us hl => match us, hl with | [_, _, _], _ => rfl
  have b_Versions_look_hand := F_Versions_look_hand.binds (ps := ["self", "hand"]) fun _ _ _ _ _ _ us hl => match us, hl with | [_, _], _ => rfl
  have b_Versions_begin := F_Versions_begin.binds (ps := ["self", "hand"]) fun _ _ _ _ _ _ us hl => match us, hl with | [_, _], _ => rfl
  have b__law_stores := F__law_stores.binds (ps := ["cells", "hand", "cell"]) fun _ _ _ _ _ _ us hl => match us, hl with | [_, _, _], _ => rfl
  have b_Rounds_after_swap := F_Rounds_after_swap.binds (ps := ["self", "thing"]) fun _ _ _ _ _ _ us hl => match us, hl with | [_, _], _ => rfl
  have b_Store_swap := F_Store_swap.binds (ps := ["self", "cell", "value"]) fun _ _ _ _ _ _ us hl => match us, hl with | [_, _, _], _ => rfl
  have b_Marks_after_swap := F_Marks_after_swap.binds (ps := ["self", "thing"]) fun _ _ _ _ _ _ us hl => match us, hl with | [_, _], _ => rfl
  have b_Counts_count_of := F_Counts_count_of.binds (ps := ["self", "thing"]) fun _ _ _ _ _ _ us hl => match us, hl with | [_, _], _ => rfl
  have b_Store_is_out := F_Store_is_out.binds (ps := ["self", "thing"]) fun _ _ _ _ _ _ us hl => match us, hl with | [_, _], _ => rfl
  have b_Store_let_go := F_Store_let_go.binds (ps := ["self", "things"]) fun _ _ _ _ _ _ us hl => match us, hl with | [_, _], _ => rfl
  have b_Counts_loose := F_Counts_loose.binds (ps := ["self", "thing"]) fun _ _ _ _ _ _ us hl => match us, hl with | [_, _], _ => rfl
  have b_Counts_after_swap := F_Counts_after_swap.binds (ps := ["self", "thing"]) fun _ _ _ _ _ _ us hl => match us, hl with | [_, _], _ => rfl
  have b_Versions_look_pairs := F_Versions_look_pairs.binds (ps := ["self", "pairs"]) fun _ _ _ _ _ _ us hl => match us, hl with | [_, _], _ => rfl
  have b_Versions_write := F_Versions_write.binds (ps := ["self", "pairs"]) fun _ _ _ _ _ _ us hl => match us, hl with | [_, _], _ => rfl
  have b_Rounds_go_on := F_Rounds_go_on.binds (ps := ["self"]) fun _ _ _ _ _ _ us hl => match us, hl with | [_], _ => rfl
  have b_Marks_marked := F_Marks_marked.binds (ps := ["self"]) fun _ _ _ _ _ _ us hl => match us, hl with | [_], _ => rfl
  have b_Marks_sweep := F_Marks_sweep.binds (ps := ["self"]) fun _ _ _ _ _ _ us hl => match us, hl with | [_], _ => rfl
  have b_Versions_trim := F_Versions_trim.binds (ps := ["self"]) fun _ _ _ _ _ _ us hl => match us, hl with | [_], _ => rfl
  have b_Store_kept := F_Store_kept.binds (ps := ["self"]) fun _ _ _ _ _ _ us hl => match us, hl with | [_], _ => rfl
  have b_Versions_look_cell := F_Versions_look_cell.binds (ps := ["self", "cell"]) fun _ _ _ _ _ _ us hl => match us, hl with | [_, _], _ => rfl
  have b_Versions_kept := F_Versions_kept.binds (ps := ["self", "cell"]) fun _ _ _ _ _ _ us hl => match us, hl with | [_, _], _ => rfl
  have b_Rounds_leave := F_Rounds_leave.binds (ps := ["self", "hand"]) fun _ _ _ _ _ _ us hl => match us, hl with | [_, _], _ => rfl
  have b_Marks_clear_mark := F_Marks_clear_mark.binds (ps := ["self", "hand", "mark"]) fun _ _ _ _ _ _ us hl => match us, hl with | [_, _, _], _ => rfl
  have b_Versions_look_in := F_Versions_look_in.binds (ps := ["self", "hand"]) fun _ _ _ _ _ _ us hl => match us, hl with | [_, _], _ => rfl
  have b_Versions_finish := F_Versions_finish.binds (ps := ["self", "hand"]) fun _ _ _ _ _ _ us hl => match us, hl with | [_, _], _ => rfl
  have b_Counts_look_held := F_Counts_look_held.binds (ps := ["self", "hand", "thing"]) fun _ _ _ _ _ _ us hl => match us, hl with | [_, _, _], _ => rfl
  have b_Counts_drop := F_Counts_drop.binds (ps := ["self", "hand", "thing"]) fun _ _ _ _ _ _ us hl => match us, hl with | [_, _, _], _ => rfl
  have b_law := F_law.binds (ps := ["script"]) fun _ _ _ _ _ _ us hl => match us, hl with | [_], _ => rfl
  let D : Adr := { c_Versions := c_Versions, c_Counts := c_Counts, c_Store := c_Store, c_Marks := c_Marks, c_Rounds := c_Rounds, f__law_town := f__law_town, d__law_town := PySem.W.fnOf "_law_town" "_law_town" (defArgs s__law_town) (defBody s__law_town) (defScope s__law_town) .none kV__law_town dc__law_town pm__law_town an__law_town cd__law_town ct__law_town, f__law_draw := f__law_draw, d__law_draw := PySem.W.fnOf "_law_draw" "_law_draw" (defArgs s__law_draw) (defBody s__law_draw) (defScope s__law_draw) .none kV__law_draw dc__law_draw pm__law_draw an__law_draw cd__law_draw ct__law_draw, f_is_whole := f_is_whole, d_is_whole := PySem.W.fnOf "is_whole" "is_whole" (defArgs s_is_whole) (defBody s_is_whole) (defScope s_is_whole) .none kV_is_whole dc_is_whole pm_is_whole an_is_whole cd_is_whole ct_is_whole, f_look_number := f_look_number, d_look_number := PySem.W.fnOf "look_number" "look_number" (defArgs s_look_number) (defBody s_look_number) (defScope s_look_number) .none kV_look_number dc_look_number pm_look_number an_look_number cd_look_number ct_look_number, f_Versions_init := f_Versions_init, d_Versions_init := PySem.W.fnOf "__init__" "Versions.__init__" (defArgs s_Versions_init) (defBody s_Versions_init) (defScope s_Versions_init) (.ref td_Versions_init) kV_Versions_init dc_Versions_init pm_Versions_init an_Versions_init cd_Versions_init ct_Versions_init, f_Store_init := f_Store_init, d_Store_init := PySem.W.fnOf "__init__" "Store.__init__" (defArgs s_Store_init) (defBody s_Store_init) (defScope s_Store_init) .none kV_Store_init dc_Store_init pm_Store_init an_Store_init cd_Store_init ct_Store_init, f_Counts_init := f_Counts_init, d_Counts_init := PySem.W.fnOf "__init__" "Counts.__init__" (defArgs s_Counts_init) (defBody s_Counts_init) (defScope s_Counts_init) .none kV_Counts_init dc_Counts_init pm_Counts_init an_Counts_init cd_Counts_init ct_Counts_init, f_Marks_init := f_Marks_init, d_Marks_init := PySem.W.fnOf "__init__" "Marks.__init__" (defArgs s_Marks_init) (defBody s_Marks_init) (defScope s_Marks_init) .none kV_Marks_init dc_Marks_init pm_Marks_init an_Marks_init cd_Marks_init ct_Marks_init, f_Rounds_init := f_Rounds_init, d_Rounds_init := PySem.W.fnOf "__init__" "Rounds.__init__" (defArgs s_Rounds_init) (defBody s_Rounds_init) (defScope s_Rounds_init) .none kV_Rounds_init dc_Rounds_init pm_Rounds_init an_Rounds_init cd_Rounds_init ct_Rounds_init, f_Store_look_hand := f_Store_look_hand, d_Store_look_hand := PySem.W.fnOf "look_hand" "Store.look_hand" (defArgs s_Store_look_hand) (defBody s_Store_look_hand) (defScope s_Store_look_hand) .none kV_Store_look_hand dc_Store_look_hand pm_Store_look_hand an_Store_look_hand cd_Store_look_hand ct_Store_look_hand, f_Rounds_enter := f_Rounds_enter, d_Rounds_enter := PySem.W.fnOf "enter" "Rounds.enter" (defArgs s_Rounds_enter) (defBody s_Rounds_enter) (defScope s_Rounds_enter) .none kV_Rounds_enter dc_Rounds_enter pm_Rounds_enter an_Rounds_enter cd_Rounds_enter ct_Rounds_enter, f_Rounds_look_in := f_Rounds_look_in, d_Rounds_look_in := PySem.W.fnOf "look_in" "Rounds.look_in" (defArgs s_Rounds_look_in) (defBody s_Rounds_look_in) (defScope s_Rounds_look_in) .none kV_Rounds_look_in dc_Rounds_look_in pm_Rounds_look_in an_Rounds_look_in cd_Rounds_look_in ct_Rounds_look_in, f_Store_look_cell := f_Store_look_cell, d_Store_look_cell := PySem.W.fnOf "look_cell" "Store.look_cell" (defArgs s_Store_look_cell) (defBody s_Store_look_cell) (defScope s_Store_look_cell) .none kV_Store_look_cell dc_Store_look_cell pm_Store_look_cell an_Store_look_cell cd_Store_look_cell ct_Store_look_cell, f_Rounds_look := f_Rounds_look, d_Rounds_look := PySem.W.fnOf "look" "Rounds.look" (defArgs s_Rounds_look) (defBody s_Rounds_look) (defScope s_Rounds_look) .none kV_Rounds_look dc_Rounds_look pm_Rounds_look an_Rounds_look cd_Rounds_look ct_Rounds_look, f_Marks_look_mark := f_Marks_look_mark, d_Marks_look_mark := PySem.W.fnOf "look_mark" "Marks.look_mark" (defArgs s_Marks_look_mark) (defBody s_Marks_look_mark) (defScope s_Marks_look_mark) .none kV_Marks_look_mark dc_Marks_look_mark pm_Marks_look_mark an_Marks_look_mark cd_Marks_look_mark ct_Marks_look_mark, f_Marks_fetch := f_Marks_fetch, d_Marks_fetch := PySem.W.fnOf "fetch" "Marks.fetch" (defArgs s_Marks_fetch) (defBody s_Marks_fetch) (defScope s_Marks_fetch) .none kV_Marks_fetch dc_Marks_fetch pm_Marks_fetch an_Marks_fetch cd_Marks_fetch ct_Marks_fetch, f_Marks_state_of := f_Marks_state_of, d_Marks_state_of := PySem.W.fnOf "state_of" "Marks.state_of" (defArgs s_Marks_state_of) (defBody s_Marks_state_of) (defScope s_Marks_state_of) .none kV_Marks_state_of dc_Marks_state_of pm_Marks_state_of an_Marks_state_of cd_Marks_state_of ct_Marks_state_of, f_Marks_set_mark := f_Marks_set_mark, d_Marks_set_mark := PySem.W.fnOf "set_mark" "Marks.set_mark" (defArgs s_Marks_set_mark) (defBody s_Marks_set_mark) (defScope s_Marks_set_mark) .none kV_Marks_set_mark dc_Marks_set_mark pm_Marks_set_mark an_Marks_set_mark cd_Marks_set_mark ct_Marks_set_mark, f_Marks_sure := f_Marks_sure, d_Marks_sure := PySem.W.fnOf "sure" "Marks.sure" (defArgs s_Marks_sure) (defBody s_Marks_sure) (defScope s_Marks_sure) .none kV_Marks_sure dc_Marks_sure pm_Marks_sure an_Marks_sure cd_Marks_sure ct_Marks_sure, f_Counts_hold := f_Counts_hold, d_Counts_hold := PySem.W.fnOf "hold" "Counts.hold" (defArgs s_Counts_hold) (defBody s_Counts_hold) (defScope s_Counts_hold) .none kV_Counts_hold dc_Counts_hold pm_Counts_hold an_Counts_hold cd_Counts_hold ct_Counts_hold, f_Versions_look_hand := f_Versions_look_hand, d_Versions_look_hand := PySem.W.fnOf "look_hand" "Versions.look_hand" (defArgs s_Versions_look_hand) (defBody s_Versions_look_hand) (defScope s_Versions_look_hand) .none kV_Versions_look_hand dc_Versions_look_hand pm_Versions_look_hand an_Versions_look_hand cd_Versions_look_hand ct_Versions_look_hand, f_Versions_begin := f_Versions_begin, d_Versions_begin := PySem.W.fnOf "begin" "Versions.begin" (defArgs s_Versions_begin) (defBody s_Versions_begin) (defScope s_Versions_begin) .none kV_Versions_begin dc_Versions_begin pm_Versions_begin an_Versions_begin cd_Versions_begin ct_Versions_begin, f__law_stores := f__law_stores, d__law_stores := PySem.W.fnOf "_law_stores" "_law_stores" (defArgs s__law_stores) (defBody s__law_stores) (defScope s__law_stores) .none kV__law_stores dc__law_stores pm__law_stores an__law_stores cd__law_stores ct__law_stores, f_Rounds_after_swap := f_Rounds_after_swap, d_Rounds_after_swap := PySem.W.fnOf "after_swap" "Rounds.after_swap" (defArgs s_Rounds_after_swap) (defBody s_Rounds_after_swap) (defScope s_Rounds_after_swap) .none kV_Rounds_after_swap dc_Rounds_after_swap pm_Rounds_after_swap an_Rounds_after_swap cd_Rounds_after_swap ct_Rounds_after_swap, f_Store_swap := f_Store_swap, d_Store_swap := PySem.W.fnOf "swap" "Store.swap" (defArgs s_Store_swap) (defBody s_Store_swap) (defScope s_Store_swap) .none kV_Store_swap dc_Store_swap pm_Store_swap an_Store_swap cd_Store_swap ct_Store_swap, f_Marks_after_swap := f_Marks_after_swap, d_Marks_after_swap := PySem.W.fnOf "after_swap" "Marks.after_swap" (defArgs s_Marks_after_swap) (defBody s_Marks_after_swap) (defScope s_Marks_after_swap) .none kV_Marks_after_swap dc_Marks_after_swap pm_Marks_after_swap an_Marks_after_swap cd_Marks_after_swap ct_Marks_after_swap, f_Counts_count_of := f_Counts_count_of, d_Counts_count_of := PySem.W.fnOf "count_of" "Counts.count_of" (defArgs s_Counts_count_of) (defBody s_Counts_count_of) (defScope s_Counts_count_of) .none kV_Counts_count_of dc_Counts_count_of pm_Counts_count_of an_Counts_count_of cd_Counts_count_of ct_Counts_count_of, f_Store_is_out := f_Store_is_out, d_Store_is_out := PySem.W.fnOf "is_out" "Store.is_out" (defArgs s_Store_is_out) (defBody s_Store_is_out) (defScope s_Store_is_out) .none kV_Store_is_out dc_Store_is_out pm_Store_is_out an_Store_is_out cd_Store_is_out ct_Store_is_out, f_Store_let_go := f_Store_let_go, d_Store_let_go := PySem.W.fnOf "let_go" "Store.let_go" (defArgs s_Store_let_go) (defBody s_Store_let_go) (defScope s_Store_let_go) .none kV_Store_let_go dc_Store_let_go pm_Store_let_go an_Store_let_go cd_Store_let_go ct_Store_let_go, f_Counts_loose := f_Counts_loose, d_Counts_loose := PySem.W.fnOf "loose" "Counts.loose" (defArgs s_Counts_loose) (defBody s_Counts_loose) (defScope s_Counts_loose) .none kV_Counts_loose dc_Counts_loose pm_Counts_loose an_Counts_loose cd_Counts_loose ct_Counts_loose, f_Counts_after_swap := f_Counts_after_swap, d_Counts_after_swap := PySem.W.fnOf "after_swap" "Counts.after_swap" (defArgs s_Counts_after_swap) (defBody s_Counts_after_swap) (defScope s_Counts_after_swap) .none kV_Counts_after_swap dc_Counts_after_swap pm_Counts_after_swap an_Counts_after_swap cd_Counts_after_swap ct_Counts_after_swap, f_Versions_look_pairs := f_Versions_look_pairs, d_Versions_look_pairs := PySem.W.fnOf "look_pairs" "Versions.look_pairs" (defArgs s_Versions_look_pairs) (defBody s_Versions_look_pairs) (defScope s_Versions_look_pairs) .none kV_Versions_look_pairs dc_Versions_look_pairs pm_Versions_look_pairs an_Versions_look_pairs cd_Versions_look_pairs ct_Versions_look_pairs, f_Versions_write := f_Versions_write, d_Versions_write := PySem.W.fnOf "write" "Versions.write" (defArgs s_Versions_write) (defBody s_Versions_write) (defScope s_Versions_write) .none kV_Versions_write dc_Versions_write pm_Versions_write an_Versions_write cd_Versions_write ct_Versions_write, f_Rounds_go_on := f_Rounds_go_on, d_Rounds_go_on := PySem.W.fnOf "go_on" "Rounds.go_on" (defArgs s_Rounds_go_on) (defBody s_Rounds_go_on) (defScope s_Rounds_go_on) .none kV_Rounds_go_on dc_Rounds_go_on pm_Rounds_go_on an_Rounds_go_on cd_Rounds_go_on ct_Rounds_go_on, f_Marks_marked := f_Marks_marked, d_Marks_marked := PySem.W.fnOf "marked" "Marks.marked" (defArgs s_Marks_marked) (defBody s_Marks_marked) (defScope s_Marks_marked) .none kV_Marks_marked dc_Marks_marked pm_Marks_marked an_Marks_marked cd_Marks_marked ct_Marks_marked, f_Marks_sweep := f_Marks_sweep, d_Marks_sweep := PySem.W.fnOf "sweep" "Marks.sweep" (defArgs s_Marks_sweep) (defBody s_Marks_sweep) (defScope s_Marks_sweep) .none kV_Marks_sweep dc_Marks_sweep pm_Marks_sweep an_Marks_sweep cd_Marks_sweep ct_Marks_sweep, f_Versions_trim := f_Versions_trim, d_Versions_trim := PySem.W.fnOf "trim" "Versions.trim" (defArgs s_Versions_trim) (defBody s_Versions_trim) (defScope s_Versions_trim) .none kV_Versions_trim dc_Versions_trim pm_Versions_trim an_Versions_trim cd_Versions_trim ct_Versions_trim, f_Store_kept := f_Store_kept, d_Store_kept := PySem.W.fnOf "kept" "Store.kept" (defArgs s_Store_kept) (defBody s_Store_kept) (defScope s_Store_kept) .none kV_Store_kept dc_Store_kept pm_Store_kept an_Store_kept cd_Store_kept ct_Store_kept, f_Versions_look_cell := f_Versions_look_cell, d_Versions_look_cell := PySem.W.fnOf "look_cell" "Versions.look_cell" (defArgs s_Versions_look_cell) (defBody s_Versions_look_cell) (defScope s_Versions_look_cell) .none kV_Versions_look_cell dc_Versions_look_cell pm_Versions_look_cell an_Versions_look_cell cd_Versions_look_cell ct_Versions_look_cell, f_Versions_kept := f_Versions_kept, d_Versions_kept := PySem.W.fnOf "kept" "Versions.kept" (defArgs s_Versions_kept) (defBody s_Versions_kept) (defScope s_Versions_kept) .none kV_Versions_kept dc_Versions_kept pm_Versions_kept an_Versions_kept cd_Versions_kept ct_Versions_kept, f_Rounds_leave := f_Rounds_leave, d_Rounds_leave := PySem.W.fnOf "leave" "Rounds.leave" (defArgs s_Rounds_leave) (defBody s_Rounds_leave) (defScope s_Rounds_leave) .none kV_Rounds_leave dc_Rounds_leave pm_Rounds_leave an_Rounds_leave cd_Rounds_leave ct_Rounds_leave, f_Marks_clear_mark := f_Marks_clear_mark, d_Marks_clear_mark := PySem.W.fnOf "clear_mark" "Marks.clear_mark" (defArgs s_Marks_clear_mark) (defBody s_Marks_clear_mark) (defScope s_Marks_clear_mark) .none kV_Marks_clear_mark dc_Marks_clear_mark pm_Marks_clear_mark an_Marks_clear_mark cd_Marks_clear_mark ct_Marks_clear_mark, f_Versions_look_in := f_Versions_look_in, d_Versions_look_in := PySem.W.fnOf "look_in" "Versions.look_in" (defArgs s_Versions_look_in) (defBody s_Versions_look_in) (defScope s_Versions_look_in) .none kV_Versions_look_in dc_Versions_look_in pm_Versions_look_in an_Versions_look_in cd_Versions_look_in ct_Versions_look_in, f_Versions_finish := f_Versions_finish, d_Versions_finish := PySem.W.fnOf "finish" "Versions.finish" (defArgs s_Versions_finish) (defBody s_Versions_finish) (defScope s_Versions_finish) .none kV_Versions_finish dc_Versions_finish pm_Versions_finish an_Versions_finish cd_Versions_finish ct_Versions_finish, f_Counts_look_held := f_Counts_look_held, d_Counts_look_held := PySem.W.fnOf "look_held" "Counts.look_held" (defArgs s_Counts_look_held) (defBody s_Counts_look_held) (defScope s_Counts_look_held) .none kV_Counts_look_held dc_Counts_look_held pm_Counts_look_held an_Counts_look_held cd_Counts_look_held ct_Counts_look_held, f_Counts_drop := f_Counts_drop, d_Counts_drop := PySem.W.fnOf "drop" "Counts.drop" (defArgs s_Counts_drop) (defBody s_Counts_drop) (defScope s_Counts_drop) .none kV_Counts_drop dc_Counts_drop pm_Counts_drop an_Counts_drop cd_Counts_drop ct_Counts_drop, f_law := fa, d_law := PySem.W.fnOf "law" "law" (defArgs s_law) (defBody s_law) (defScope s_law) .none kV_law dc_law pm_law an_law cd_law ct_law, ds_Versions_init := ds_Versions_init, t_MARKS := t_MARKS, t_MOST_CELLS := t_MOST_CELLS, t_MOST_HANDS := t_MOST_HANDS, t_MOST_VALUE := t_MOST_VALUE }
  have T : Txt K mg D :=
    { F__law_town := F__law_town, b__law_town := b__law_town,
      g__law_town := PySem.W.mg_of X G a__law_town,
      F__law_draw := F__law_draw, b__law_draw := b__law_draw,
      g__law_draw := PySem.W.mg_of X G a__law_draw,
      F_is_whole := F_is_whole, b_is_whole := b_is_whole,
      g_is_whole := PySem.W.mg_of X G a_is_whole,
      F_look_number := F_look_number, b_look_number := b_look_number,
      g_look_number := PySem.W.mg_of X G a_look_number,
      F_Versions_init := F_Versions_init, b_Versions_init := b_Versions_init,
      bd_Versions_init := bd_Versions_init, vd_Versions_init := vd_Versions_init, kb_Versions_init := kb_Versions_init,
      F_Store_init := F_Store_init, b_Store_init := b_Store_init,
      F_Counts_init := F_Counts_init, b_Counts_init := b_Counts_init,
      F_Marks_init := F_Marks_init, b_Marks_init := b_Marks_init,
      F_Rounds_init := F_Rounds_init, b_Rounds_init := b_Rounds_init,
      F_Store_look_hand := F_Store_look_hand, b_Store_look_hand := b_Store_look_hand,
      F_Rounds_enter := F_Rounds_enter, b_Rounds_enter := b_Rounds_enter,
      F_Rounds_look_in := F_Rounds_look_in, b_Rounds_look_in := b_Rounds_look_in,
      F_Store_look_cell := F_Store_look_cell, b_Store_look_cell := b_Store_look_cell,
      F_Rounds_look := F_Rounds_look, b_Rounds_look := b_Rounds_look,
      F_Marks_look_mark := F_Marks_look_mark, b_Marks_look_mark := b_Marks_look_mark,
      F_Marks_fetch := F_Marks_fetch, b_Marks_fetch := b_Marks_fetch,
      F_Marks_state_of := F_Marks_state_of, b_Marks_state_of := b_Marks_state_of,
      F_Marks_set_mark := F_Marks_set_mark, b_Marks_set_mark := b_Marks_set_mark,
      F_Marks_sure := F_Marks_sure, b_Marks_sure := b_Marks_sure,
      F_Counts_hold := F_Counts_hold, b_Counts_hold := b_Counts_hold,
      F_Versions_look_hand := F_Versions_look_hand, b_Versions_look_hand := b_Versions_look_hand,
      F_Versions_begin := F_Versions_begin, b_Versions_begin := b_Versions_begin,
      F__law_stores := F__law_stores, b__law_stores := b__law_stores,
      g__law_stores := PySem.W.mg_of X G a__law_stores,
      F_Rounds_after_swap := F_Rounds_after_swap, b_Rounds_after_swap := b_Rounds_after_swap,
      F_Store_swap := F_Store_swap, b_Store_swap := b_Store_swap,
      F_Marks_after_swap := F_Marks_after_swap, b_Marks_after_swap := b_Marks_after_swap,
      F_Counts_count_of := F_Counts_count_of, b_Counts_count_of := b_Counts_count_of,
      F_Store_is_out := F_Store_is_out, b_Store_is_out := b_Store_is_out,
      F_Store_let_go := F_Store_let_go, b_Store_let_go := b_Store_let_go,
      F_Counts_loose := F_Counts_loose, b_Counts_loose := b_Counts_loose,
      F_Counts_after_swap := F_Counts_after_swap, b_Counts_after_swap := b_Counts_after_swap,
      F_Versions_look_pairs := F_Versions_look_pairs, b_Versions_look_pairs := b_Versions_look_pairs,
      F_Versions_write := F_Versions_write, b_Versions_write := b_Versions_write,
      F_Rounds_go_on := F_Rounds_go_on, b_Rounds_go_on := b_Rounds_go_on,
      F_Marks_marked := F_Marks_marked, b_Marks_marked := b_Marks_marked,
      F_Marks_sweep := F_Marks_sweep, b_Marks_sweep := b_Marks_sweep,
      F_Versions_trim := F_Versions_trim, b_Versions_trim := b_Versions_trim,
      F_Store_kept := F_Store_kept, b_Store_kept := b_Store_kept,
      F_Versions_look_cell := F_Versions_look_cell, b_Versions_look_cell := b_Versions_look_cell,
      F_Versions_kept := F_Versions_kept, b_Versions_kept := b_Versions_kept,
      F_Rounds_leave := F_Rounds_leave, b_Rounds_leave := b_Rounds_leave,
      F_Marks_clear_mark := F_Marks_clear_mark, b_Marks_clear_mark := b_Marks_clear_mark,
      F_Versions_look_in := F_Versions_look_in, b_Versions_look_in := b_Versions_look_in,
      F_Versions_finish := F_Versions_finish, b_Versions_finish := b_Versions_finish,
      F_Counts_look_held := F_Counts_look_held, b_Counts_look_held := b_Counts_look_held,
      F_Counts_drop := F_Counts_drop, b_Counts_drop := b_Counts_drop,
      F_law := F_law, b_law := b_law,
      g_law := PySem.W.mg_of X G a_law,
      cl_Versions := ⟨pg_Versions, hd_Versions, po_Versions, sa_Versions⟩, g_Versions := PySem.W.mg_of X G aC_Versions,
      na_Versions_hands := na_Versions_hands,
      na_Versions_rows := na_Versions_rows,
      na_Versions_version := na_Versions_version,
      na_Versions_begun := na_Versions_begun,
      na_Versions_asked := na_Versions_asked,
      mk_Versions := ⟨mk_Versions, ai_Versions, ii_Versions, kc_Versions⟩,
      cl_Counts := ⟨pg_Counts, hd_Counts, po_Counts, sa_Counts⟩, g_Counts := PySem.W.mg_of X G aC_Counts,
      na_Counts_hands := na_Counts_hands,
      na_Counts_worth := na_Counts_worth,
      na_Counts_cells := na_Counts_cells,
      na_Counts_made := na_Counts_made,
      na_Counts_held := na_Counts_held,
      mk_Counts := ⟨mk_Counts, ai_Counts, ii_Counts, kc_Counts⟩,
      cl_Store := ⟨pg_Store, hd_Store, po_Store, sa_Store⟩, g_Store := PySem.W.mg_of X G aC_Store,
      cl_Marks := ⟨pg_Marks, hd_Marks, po_Marks, sa_Marks⟩, g_Marks := PySem.W.mg_of X G aC_Marks,
      na_Marks_hands := na_Marks_hands,
      na_Marks_worth := na_Marks_worth,
      na_Marks_cells := na_Marks_cells,
      na_Marks_made := na_Marks_made,
      na_Marks_marks := na_Marks_marks,
      na_Marks_waits := na_Marks_waits,
      mk_Marks := ⟨mk_Marks, ai_Marks, ii_Marks, kc_Marks⟩,
      cl_Rounds := ⟨pg_Rounds, hd_Rounds, po_Rounds, sa_Rounds⟩, g_Rounds := PySem.W.mg_of X G aC_Rounds,
      na_Rounds_hands := na_Rounds_hands,
      na_Rounds_worth := na_Rounds_worth,
      na_Rounds_cells := na_Rounds_cells,
      na_Rounds_made := na_Rounds_made,
      na_Rounds_era := na_Rounds_era,
      na_Rounds_inside := na_Rounds_inside,
      na_Rounds_saw := na_Rounds_saw,
      na_Rounds_waits := na_Rounds_waits,
      mk_Rounds := ⟨mk_Rounds, ai_Rounds, ii_Rounds, kc_Rounds⟩,
      me_Rounds_look_hand := ⟨am_Rounds_look_hand, im_Store_look_hand, k_Store_look_hand⟩,
      me_Rounds_enter := ⟨am_Rounds_enter, im_Rounds_enter, k_Rounds_enter⟩,
      me_Rounds_look_in := ⟨am_Rounds_look_in, im_Rounds_look_in, k_Rounds_look_in⟩,
      me_Rounds_look_cell := ⟨am_Rounds_look_cell, im_Store_look_cell, k_Store_look_cell⟩,
      me_Rounds_look := ⟨am_Rounds_look, im_Rounds_look, k_Rounds_look⟩,
      me_Marks_look_hand := ⟨am_Marks_look_hand, im_Store_look_hand, k_Store_look_hand⟩,
      me_Marks_look_mark := ⟨am_Marks_look_mark, im_Marks_look_mark, k_Marks_look_mark⟩,
      me_Marks_look_cell := ⟨am_Marks_look_cell, im_Store_look_cell, k_Store_look_cell⟩,
      me_Marks_fetch := ⟨am_Marks_fetch, im_Marks_fetch, k_Marks_fetch⟩,
      me_Marks_state_of := ⟨am_Marks_state_of, im_Marks_state_of, k_Marks_state_of⟩,
      me_Marks_set_mark := ⟨am_Marks_set_mark, im_Marks_set_mark, k_Marks_set_mark⟩,
      me_Marks_sure := ⟨am_Marks_sure, im_Marks_sure, k_Marks_sure⟩,
      me_Counts_look_hand := ⟨am_Counts_look_hand, im_Store_look_hand, k_Store_look_hand⟩,
      me_Counts_look_cell := ⟨am_Counts_look_cell, im_Store_look_cell, k_Store_look_cell⟩,
      me_Counts_hold := ⟨am_Counts_hold, im_Counts_hold, k_Counts_hold⟩,
      me_Versions_look_hand := ⟨am_Versions_look_hand, im_Versions_look_hand, k_Versions_look_hand⟩,
      me_Versions_begin := ⟨am_Versions_begin, im_Versions_begin, k_Versions_begin⟩,
      me_Rounds_after_swap := ⟨am_Rounds_after_swap, im_Rounds_after_swap, k_Rounds_after_swap⟩,
      me_Rounds_swap := ⟨am_Rounds_swap, im_Store_swap, k_Store_swap⟩,
      me_Marks_after_swap := ⟨am_Marks_after_swap, im_Marks_after_swap, k_Marks_after_swap⟩,
      me_Marks_swap := ⟨am_Marks_swap, im_Store_swap, k_Store_swap⟩,
      me_Counts_count_of := ⟨am_Counts_count_of, im_Counts_count_of, k_Counts_count_of⟩,
      me_Counts_is_out := ⟨am_Counts_is_out, im_Store_is_out, k_Store_is_out⟩,
      me_Counts_let_go := ⟨am_Counts_let_go, im_Store_let_go, k_Store_let_go⟩,
      me_Counts_loose := ⟨am_Counts_loose, im_Counts_loose, k_Counts_loose⟩,
      me_Counts_after_swap := ⟨am_Counts_after_swap, im_Counts_after_swap, k_Counts_after_swap⟩,
      me_Counts_swap := ⟨am_Counts_swap, im_Store_swap, k_Store_swap⟩,
      me_Versions_look_pairs := ⟨am_Versions_look_pairs, im_Versions_look_pairs, k_Versions_look_pairs⟩,
      me_Versions_write := ⟨am_Versions_write, im_Versions_write, k_Versions_write⟩,
      me_Rounds_let_go := ⟨am_Rounds_let_go, im_Store_let_go, k_Store_let_go⟩,
      me_Rounds_go_on := ⟨am_Rounds_go_on, im_Rounds_go_on, k_Rounds_go_on⟩,
      me_Marks_marked := ⟨am_Marks_marked, im_Marks_marked, k_Marks_marked⟩,
      me_Marks_let_go := ⟨am_Marks_let_go, im_Store_let_go, k_Store_let_go⟩,
      me_Marks_sweep := ⟨am_Marks_sweep, im_Marks_sweep, k_Marks_sweep⟩,
      me_Versions_trim := ⟨am_Versions_trim, im_Versions_trim, k_Versions_trim⟩,
      me_Rounds_kept := ⟨am_Rounds_kept, im_Store_kept, k_Store_kept⟩,
      me_Marks_kept := ⟨am_Marks_kept, im_Store_kept, k_Store_kept⟩,
      me_Counts_kept := ⟨am_Counts_kept, im_Store_kept, k_Store_kept⟩,
      me_Versions_look_cell := ⟨am_Versions_look_cell, im_Versions_look_cell, k_Versions_look_cell⟩,
      me_Versions_kept := ⟨am_Versions_kept, im_Versions_kept, k_Versions_kept⟩,
      me_Rounds_leave := ⟨am_Rounds_leave, im_Rounds_leave, k_Rounds_leave⟩,
      me_Marks_clear_mark := ⟨am_Marks_clear_mark, im_Marks_clear_mark, k_Marks_clear_mark⟩,
      me_Versions_look_in := ⟨am_Versions_look_in, im_Versions_look_in, k_Versions_look_in⟩,
      me_Versions_finish := ⟨am_Versions_finish, im_Versions_finish, k_Versions_finish⟩,
      me_Counts_look_held := ⟨am_Counts_look_held, im_Counts_look_held, k_Counts_look_held⟩,
      me_Counts_drop := ⟨am_Counts_drop, im_Counts_drop, k_Counts_drop⟩,
      cf_Store_init := ⟨cr_Store_init, cg_Store_init, ca_Store_init, k_Store_init⟩,
      m_all := PySem.W.mg_none_of X G z_all,
      m_bool := PySem.W.mg_none_of X G z_bool,
      m_dict := PySem.W.mg_none_of X G z_dict,
      m_int := PySem.W.mg_none_of X G z_int,
      m_isinstance := PySem.W.mg_none_of X G z_isinstance,
      m_len := PySem.W.mg_none_of X G z_len,
      m_list := PySem.W.mg_none_of X G z_list,
      m_max := PySem.W.mg_none_of X G z_max,
      m_range := PySem.W.mg_none_of X G z_range,
      m_set := PySem.W.mg_none_of X G z_set,
      m_sorted := PySem.W.mg_none_of X G z_sorted,
      m_sum := PySem.W.mg_none_of X G z_sum,
      m_tuple := PySem.W.mg_none_of X G z_tuple,
      k_MARKS := PySem.W.mg_of X G zk_MARKS,
      k_MOST_CELLS := PySem.W.mg_of X G zk_MOST_CELLS,
      k_MOST_HANDS := PySem.W.mg_of X G zk_MOST_HANDS,
      k_MOST_VALUE := PySem.W.mg_of X G zk_MOST_VALUE }
  exact ⟨_, fun s v => .of_eq rfl, fun base _ _ => ok_law T⟩
theorem walk {l : PySem.W.OpenLaw} {q : Program} {loose : List Str} {XP : (Str → Option Value) → Heap → Prop} {YP : World → Heap → Prop} {d : DefRec} {K : Params → PySem.W.Frag} (hn : l.most = some 63) (hdf : d.params.defaults = [])
    (hY : ∀ (w : World) (h : Heap), YP w h → (K w.params).In h)
    (F : ∀ (w : World) (mg : Str → Option Value) (fa : Addr) (h : Heap), (K w.params).In h → h.Ns mainGlobals mg → mg d.name = some (.ref fa) →
      ∃ fd : FuncData, (∀ (s : Shared) (u : Value), BindsTo s fd ⟨[u], []⟩ [("script", u)]) ∧ ∀ base : Heap, (K w.params).In base → base.Ns mainGlobals mg → FnOk l.prog w (K w.params) mg base CX0 7 fa fd ["script"] (sp_law (K w.params))) :
    PySem.W.WalkO q loose XP YP l.row.toRowW d [] (fun f vs => PySem.call f vs) :=
  L2.walk_of (n := 63) (k := 7) (x := "script") (CX := fun _ => CX0) (sp := fun w => sp_law (K w.params)) hn (by decide) hdf ⟨rfl, by decide, by decide⟩ hY F (fun _ _ a ns hl _ hS => ⟨a, ns, rfl, hS, hl, fun _ => rfl⟩) fun _ _ _ _ _ z => z
end La
open PySem PySem.W PyProof.Rows in
set_option maxRecDepth 100000 in
set_option maxHeartbeats 0 in
theorem PySem.Challenge.cw_lastreader_k21_whole_sleeper_holds : PySem.Challenge.rw_lastreader_k21_whole_sleeper.Holds := by
  w_on; o_law; k_head; (case hw => w_witness2)
  k_fill
  refine La.walk (l := PySem.Challenge.rw_lastreader_k21_whole_sleeper) rfl rfl (fun w h Y => PySem.W.kIn_of Y) ?F
  case F =>
    intro w mg fa h KX G hmg
    refine' La.all_mk KX G hmg ?aC_Versions ?pg_Versions ?hd_Versions ?po_Versions ?sa_Versions ?mk_Versions ?kc_Versions ?ai_Versions ?ii_Versions ?na_Versions_hands ?na_Versions_rows ?na_Versions_version ?na_Versions_begun ?na_Versions_asked ?aC_Counts ?pg_Counts ?hd_Counts ?po_Counts ?sa_Counts ?mk_Counts ?kc_Counts ?ai_Counts ?ii_Counts ?na_Counts_hands ?na_Counts_worth ?na_Counts_cells ?na_Counts_made ?na_Counts_held ?aC_Store ?pg_Store ?hd_Store ?po_Store ?sa_Store ?aC_Marks ?pg_Marks ?hd_Marks ?po_Marks ?sa_Marks ?mk_Marks ?kc_Marks ?ai_Marks ?ii_Marks ?na_Marks_hands ?na_Marks_worth ?na_Marks_cells ?na_Marks_made ?na_Marks_marks ?na_Marks_waits ?aC_Rounds ?pg_Rounds ?hd_Rounds ?po_Rounds ?sa_Rounds ?mk_Rounds ?kc_Rounds ?ai_Rounds ?ii_Rounds ?na_Rounds_hands ?na_Rounds_worth ?na_Rounds_cells ?na_Rounds_made ?na_Rounds_era ?na_Rounds_inside ?na_Rounds_saw ?na_Rounds_waits ?am_Rounds_look_hand ?am_Rounds_enter ?am_Rounds_look_in ?am_Rounds_look_cell ?am_Rounds_look ?am_Marks_look_hand ?am_Marks_look_mark ?am_Marks_look_cell ?am_Marks_fetch ?am_Marks_state_of ?am_Marks_set_mark ?am_Marks_sure ?am_Counts_look_hand ?am_Counts_look_cell ?am_Counts_hold ?am_Versions_look_hand ?am_Versions_begin ?am_Rounds_after_swap ?am_Rounds_swap ?am_Marks_after_swap ?am_Marks_swap ?am_Counts_count_of ?am_Counts_is_out ?am_Counts_let_go ?am_Counts_loose ?am_Counts_after_swap ?am_Counts_swap ?am_Versions_look_pairs ?am_Versions_write ?am_Rounds_let_go ?am_Rounds_go_on ?am_Marks_marked ?am_Marks_let_go ?am_Marks_sweep ?am_Versions_trim ?am_Rounds_kept ?am_Marks_kept ?am_Counts_kept ?am_Versions_look_cell ?am_Versions_kept ?am_Rounds_leave ?am_Marks_clear_mark ?am_Versions_look_in ?am_Versions_finish ?am_Counts_look_held ?am_Counts_drop ?cr_Store_init ?cg_Store_init ?ca_Store_init ?im_Store_look_hand ?im_Rounds_enter ?im_Rounds_look_in ?im_Store_look_cell ?im_Rounds_look ?im_Marks_look_mark ?im_Marks_fetch ?im_Marks_state_of ?im_Marks_set_mark ?im_Marks_sure ?im_Counts_hold ?im_Versions_look_hand ?im_Versions_begin ?im_Rounds_after_swap ?im_Store_swap ?im_Marks_after_swap ?im_Counts_count_of ?im_Store_is_out ?im_Store_let_go ?im_Counts_loose ?im_Counts_after_swap ?im_Versions_look_pairs ?im_Versions_write ?im_Rounds_go_on ?im_Marks_marked ?im_Marks_sweep ?im_Versions_trim ?im_Store_kept ?im_Versions_look_cell ?im_Versions_kept ?im_Rounds_leave ?im_Marks_clear_mark ?im_Versions_look_in ?im_Versions_finish ?im_Counts_look_held ?im_Counts_drop ?a__law_town ?l__law_town ?c__law_town ?k__law_town ?a__law_draw ?l__law_draw ?c__law_draw ?k__law_draw ?a_is_whole ?l_is_whole ?c_is_whole ?k_is_whole ?a_look_number ?l_look_number ?c_look_number ?k_look_number ?l_Versions_init ?lt_Versions_init ?c_Versions_init ?k_Versions_init ?l_Store_init ?c_Store_init ?k_Store_init ?l_Counts_init ?c_Counts_init ?k_Counts_init ?l_Marks_init ?c_Marks_init ?k_Marks_init ?l_Rounds_init ?c_Rounds_init ?k_Rounds_init ?l_Store_look_hand ?c_Store_look_hand ?k_Store_look_hand ?l_Rounds_enter ?c_Rounds_enter ?k_Rounds_enter ?l_Rounds_look_in ?c_Rounds_look_in ?k_Rounds_look_in ?l_Store_look_cell ?c_Store_look_cell ?k_Store_look_cell ?l_Rounds_look ?c_Rounds_look ?k_Rounds_look ?l_Marks_look_mark ?c_Marks_look_mark ?k_Marks_look_mark ?l_Marks_fetch ?c_Marks_fetch ?k_Marks_fetch ?l_Marks_state_of ?c_Marks_state_of ?k_Marks_state_of ?l_Marks_set_mark ?c_Marks_set_mark ?k_Marks_set_mark ?l_Marks_sure ?c_Marks_sure ?k_Marks_sure ?l_Counts_hold ?c_Counts_hold ?k_Counts_hold ?l_Versions_look_hand ?c_Versions_look_hand ?k_Versions_look_hand ?l_Versions_begin ?c_Versions_begin ?k_Versions_begin ?a__law_stores ?l__law_stores ?c__law_stores ?k__law_stores ?l_Rounds_after_swap ?c_Rounds_after_swap ?k_Rounds_after_swap ?l_Store_swap ?c_Store_swap ?k_Store_swap ?l_Marks_after_swap ?c_Marks_after_swap ?k_Marks_after_swap ?l_Counts_count_of ?c_Counts_count_of ?k_Counts_count_of ?l_Store_is_out ?c_Store_is_out ?k_Store_is_out ?l_Store_let_go ?c_Store_let_go ?k_Store_let_go ?l_Counts_loose ?c_Counts_loose ?k_Counts_loose ?l_Counts_after_swap ?c_Counts_after_swap ?k_Counts_after_swap ?l_Versions_look_pairs ?c_Versions_look_pairs ?k_Versions_look_pairs ?l_Versions_write ?c_Versions_write ?k_Versions_write ?l_Rounds_go_on ?c_Rounds_go_on ?k_Rounds_go_on ?l_Marks_marked ?c_Marks_marked ?k_Marks_marked ?l_Marks_sweep ?c_Marks_sweep ?k_Marks_sweep ?l_Versions_trim ?c_Versions_trim ?k_Versions_trim ?l_Store_kept ?c_Store_kept ?k_Store_kept ?l_Versions_look_cell ?c_Versions_look_cell ?k_Versions_look_cell ?l_Versions_kept ?c_Versions_kept ?k_Versions_kept ?l_Rounds_leave ?c_Rounds_leave ?k_Rounds_leave ?l_Marks_clear_mark ?c_Marks_clear_mark ?k_Marks_clear_mark ?l_Versions_look_in ?c_Versions_look_in ?k_Versions_look_in ?l_Versions_finish ?c_Versions_finish ?k_Versions_finish ?l_Counts_look_held ?c_Counts_look_held ?k_Counts_look_held ?l_Counts_drop ?c_Counts_drop ?k_Counts_drop ?a_law ?l_law ?c_law ?k_law ?z_all ?z_bool ?z_dict ?z_int ?z_isinstance ?z_len ?z_list ?z_max ?z_range ?z_set ?z_sorted ?z_sum ?z_tuple ?zk_MARKS ?zk_MOST_CELLS ?zk_MOST_HANDS ?zk_MOST_VALUE
    (case aC_Versions => k_is)
    (case pg_Versions => k_is)
    (case hd_Versions => k_is)
    (case po_Versions => k_is)
    (case sa_Versions => k_is)
    (case mk_Versions => k_is)
    (case kc_Versions => k_is)
    (case ai_Versions => k_is)
    (case ii_Versions => k_is)
    (case na_Versions_hands => k_is)
    (case na_Versions_rows => k_is)
    (case na_Versions_version => k_is)
    (case na_Versions_begun => k_is)
    (case na_Versions_asked => k_is)
    (case aC_Counts => k_is)
    (case pg_Counts => k_is)
    (case hd_Counts => k_is)
    (case po_Counts => k_is)
    (case sa_Counts => k_is)
    (case mk_Counts => k_is)
    (case kc_Counts => k_is)
    (case ai_Counts => k_is)
    (case ii_Counts => k_is)
    (case na_Counts_hands => k_is)
    (case na_Counts_worth => k_is)
    (case na_Counts_cells => k_is)
    (case na_Counts_made => k_is)
    (case na_Counts_held => k_is)
    (case aC_Store => k_is)
    (case pg_Store => k_is)
    (case hd_Store => k_is)
    (case po_Store => k_is)
    (case sa_Store => k_is)
    (case aC_Marks => k_is)
    (case pg_Marks => k_is)
    (case hd_Marks => k_is)
    (case po_Marks => k_is)
    (case sa_Marks => k_is)
    (case mk_Marks => k_is)
    (case kc_Marks => k_is)
    (case ai_Marks => k_is)
    (case ii_Marks => k_is)
    (case na_Marks_hands => k_is)
    (case na_Marks_worth => k_is)
    (case na_Marks_cells => k_is)
    (case na_Marks_made => k_is)
    (case na_Marks_marks => k_is)
    (case na_Marks_waits => k_is)
    (case aC_Rounds => k_is)
    (case pg_Rounds => k_is)
    (case hd_Rounds => k_is)
    (case po_Rounds => k_is)
    (case sa_Rounds => k_is)
    (case mk_Rounds => k_is)
    (case kc_Rounds => k_is)
    (case ai_Rounds => k_is)
    (case ii_Rounds => k_is)
    (case na_Rounds_hands => k_is)
    (case na_Rounds_worth => k_is)
    (case na_Rounds_cells => k_is)
    (case na_Rounds_made => k_is)
    (case na_Rounds_era => k_is)
    (case na_Rounds_inside => k_is)
    (case na_Rounds_saw => k_is)
    (case na_Rounds_waits => k_is)
    (case am_Rounds_look_hand => k_is)
    (case am_Rounds_enter => k_is)
    (case am_Rounds_look_in => k_is)
    (case am_Rounds_look_cell => k_is)
    (case am_Rounds_look => k_is)
    (case am_Marks_look_hand => k_is)
    (case am_Marks_look_mark => k_is)
    (case am_Marks_look_cell => k_is)
    (case am_Marks_fetch => k_is)
    (case am_Marks_state_of => k_is)
    (case am_Marks_set_mark => k_is)
    (case am_Marks_sure => k_is)
    (case am_Counts_look_hand => k_is)
    (case am_Counts_look_cell => k_is)
    (case am_Counts_hold => k_is)
    (case am_Versions_look_hand => k_is)
    (case am_Versions_begin => k_is)
    (case am_Rounds_after_swap => k_is)
    (case am_Rounds_swap => k_is)
    (case am_Marks_after_swap => k_is)
    (case am_Marks_swap => k_is)
    (case am_Counts_count_of => k_is)
    (case am_Counts_is_out => k_is)
    (case am_Counts_let_go => k_is)
    (case am_Counts_loose => k_is)
    (case am_Counts_after_swap => k_is)
    (case am_Counts_swap => k_is)
    (case am_Versions_look_pairs => k_is)
    (case am_Versions_write => k_is)
    (case am_Rounds_let_go => k_is)
    (case am_Rounds_go_on => k_is)
    (case am_Marks_marked => k_is)
    (case am_Marks_let_go => k_is)
    (case am_Marks_sweep => k_is)
    (case am_Versions_trim => k_is)
    (case am_Rounds_kept => k_is)
    (case am_Marks_kept => k_is)
    (case am_Counts_kept => k_is)
    (case am_Versions_look_cell => k_is)
    (case am_Versions_kept => k_is)
    (case am_Rounds_leave => k_is)
    (case am_Marks_clear_mark => k_is)
    (case am_Versions_look_in => k_is)
    (case am_Versions_finish => k_is)
    (case am_Counts_look_held => k_is)
    (case am_Counts_drop => k_is)
    (case cr_Store_init => k_is)
    (case cg_Store_init => k_is)
    (case ca_Store_init => k_is)
    (case im_Store_look_hand => k_is)
    (case im_Rounds_enter => k_is)
    (case im_Rounds_look_in => k_is)
    (case im_Store_look_cell => k_is)
    (case im_Rounds_look => k_is)
    (case im_Marks_look_mark => k_is)
    (case im_Marks_fetch => k_is)
    (case im_Marks_state_of => k_is)
    (case im_Marks_set_mark => k_is)
    (case im_Marks_sure => k_is)
    (case im_Counts_hold => k_is)
    (case im_Versions_look_hand => k_is)
    (case im_Versions_begin => k_is)
    (case im_Rounds_after_swap => k_is)
    (case im_Store_swap => k_is)
    (case im_Marks_after_swap => k_is)
    (case im_Counts_count_of => k_is)
    (case im_Store_is_out => k_is)
    (case im_Store_let_go => k_is)
    (case im_Counts_loose => k_is)
    (case im_Counts_after_swap => k_is)
    (case im_Versions_look_pairs => k_is)
    (case im_Versions_write => k_is)
    (case im_Rounds_go_on => k_is)
    (case im_Marks_marked => k_is)
    (case im_Marks_sweep => k_is)
    (case im_Versions_trim => k_is)
    (case im_Store_kept => k_is)
    (case im_Versions_look_cell => k_is)
    (case im_Versions_kept => k_is)
    (case im_Rounds_leave => k_is)
    (case im_Marks_clear_mark => k_is)
    (case im_Versions_look_in => k_is)
    (case im_Versions_finish => k_is)
    (case im_Counts_look_held => k_is)
    (case im_Counts_drop => k_is)
    (case a__law_town => k_is)
    (case l__law_town => k_is)
    (case c__law_town => k_is)
    (case k__law_town => k_is)
    (case a__law_draw => k_is)
    (case l__law_draw => k_is)
    (case c__law_draw => k_is)
    (case k__law_draw => k_is)
    (case a_is_whole => k_is)
    (case l_is_whole => k_is)
    (case c_is_whole => k_is)
    (case k_is_whole => k_is)
    (case a_look_number => k_is)
    (case l_look_number => k_is)
    (case c_look_number => k_is)
    (case k_look_number => k_is)
    (case l_Versions_init => k_is)
    (case lt_Versions_init => k_is)
    (case c_Versions_init => k_is)
    (case k_Versions_init => k_is)
    (case l_Store_init => k_is)
    (case c_Store_init => k_is)
    (case k_Store_init => k_is)
    (case l_Counts_init => k_is)
    (case c_Counts_init => k_is)
    (case k_Counts_init => k_is)
    (case l_Marks_init => k_is)
    (case c_Marks_init => k_is)
    (case k_Marks_init => k_is)
    (case l_Rounds_init => k_is)
    (case c_Rounds_init => k_is)
    (case k_Rounds_init => k_is)
    (case l_Store_look_hand => k_is)
    (case c_Store_look_hand => k_is)
    (case k_Store_look_hand => k_is)
    (case l_Rounds_enter => k_is)
    (case c_Rounds_enter => k_is)
    (case k_Rounds_enter => k_is)
    (case l_Rounds_look_in => k_is)
    (case c_Rounds_look_in => k_is)
    (case k_Rounds_look_in => k_is)
    (case l_Store_look_cell => k_is)
    (case c_Store_look_cell => k_is)
    (case k_Store_look_cell => k_is)
    (case l_Rounds_look => k_is)
    (case c_Rounds_look => k_is)
    (case k_Rounds_look => k_is)
    (case l_Marks_look_mark => k_is)
    (case c_Marks_look_mark => k_is)
    (case k_Marks_look_mark => k_is)
    (case l_Marks_fetch => k_is)
    (case c_Marks_fetch => k_is)
    (case k_Marks_fetch => k_is)
    (case l_Marks_state_of => k_is)
    (case c_Marks_state_of => k_is)
    (case k_Marks_state_of => k_is)
    (case l_Marks_set_mark => k_is)
    (case c_Marks_set_mark => k_is)
    (case k_Marks_set_mark => k_is)
    (case l_Marks_sure => k_is)
    (case c_Marks_sure => k_is)
    (case k_Marks_sure => k_is)
    (case l_Counts_hold => k_is)
    (case c_Counts_hold => k_is)
    (case k_Counts_hold => k_is)
    (case l_Versions_look_hand => k_is)
    (case c_Versions_look_hand => k_is)
    (case k_Versions_look_hand => k_is)
    (case l_Versions_begin => k_is)
    (case c_Versions_begin => k_is)
    (case k_Versions_begin => k_is)
    (case a__law_stores => k_is)
    (case l__law_stores => k_is)
    (case c__law_stores => k_is)
    (case k__law_stores => k_is)
    (case l_Rounds_after_swap => k_is)
    (case c_Rounds_after_swap => k_is)
    (case k_Rounds_after_swap => k_is)
    (case l_Store_swap => k_is)
    (case c_Store_swap => k_is)
    (case k_Store_swap => k_is)
    (case l_Marks_after_swap => k_is)
    (case c_Marks_after_swap => k_is)
    (case k_Marks_after_swap => k_is)
    (case l_Counts_count_of => k_is)
    (case c_Counts_count_of => k_is)
    (case k_Counts_count_of => k_is)
    (case l_Store_is_out => k_is)
    (case c_Store_is_out => k_is)
    (case k_Store_is_out => k_is)
    (case l_Store_let_go => k_is)
    (case c_Store_let_go => k_is)
    (case k_Store_let_go => k_is)
    (case l_Counts_loose => k_is)
    (case c_Counts_loose => k_is)
    (case k_Counts_loose => k_is)
    (case l_Counts_after_swap => k_is)
    (case c_Counts_after_swap => k_is)
    (case k_Counts_after_swap => k_is)
    (case l_Versions_look_pairs => k_is)
    (case c_Versions_look_pairs => k_is)
    (case k_Versions_look_pairs => k_is)
    (case l_Versions_write => k_is)
    (case c_Versions_write => k_is)
    (case k_Versions_write => k_is)
    (case l_Rounds_go_on => k_is)
    (case c_Rounds_go_on => k_is)
    (case k_Rounds_go_on => k_is)
    (case l_Marks_marked => k_is)
    (case c_Marks_marked => k_is)
    (case k_Marks_marked => k_is)
    (case l_Marks_sweep => k_is)
    (case c_Marks_sweep => k_is)
    (case k_Marks_sweep => k_is)
    (case l_Versions_trim => k_is)
    (case c_Versions_trim => k_is)
    (case k_Versions_trim => k_is)
    (case l_Store_kept => k_is)
    (case c_Store_kept => k_is)
    (case k_Store_kept => k_is)
    (case l_Versions_look_cell => k_is)
    (case c_Versions_look_cell => k_is)
    (case k_Versions_look_cell => k_is)
    (case l_Versions_kept => k_is)
    (case c_Versions_kept => k_is)
    (case k_Versions_kept => k_is)
    (case l_Rounds_leave => k_is)
    (case c_Rounds_leave => k_is)
    (case k_Rounds_leave => k_is)
    (case l_Marks_clear_mark => k_is)
    (case c_Marks_clear_mark => k_is)
    (case k_Marks_clear_mark => k_is)
    (case l_Versions_look_in => k_is)
    (case c_Versions_look_in => k_is)
    (case k_Versions_look_in => k_is)
    (case l_Versions_finish => k_is)
    (case c_Versions_finish => k_is)
    (case k_Versions_finish => k_is)
    (case l_Counts_look_held => k_is)
    (case c_Counts_look_held => k_is)
    (case k_Counts_look_held => k_is)
    (case l_Counts_drop => k_is)
    (case c_Counts_drop => k_is)
    (case k_Counts_drop => k_is)
    (case a_law => k_is)
    (case l_law => k_is)
    (case c_law => k_is)
    (case k_law => k_is)
    (case z_all => k_is)
    (case z_bool => k_is)
    (case z_dict => k_is)
    (case z_int => k_is)
    (case z_isinstance => k_is)
    (case z_len => k_is)
    (case z_list => k_is)
    (case z_max => k_is)
    (case z_range => k_is)
    (case z_set => k_is)
    (case z_sorted => k_is)
    (case z_sum => k_is)
    (case z_tuple => k_is)
    (case zk_MARKS => k_is)
    (case zk_MOST_CELLS => k_is)
    (case zk_MOST_HANDS => k_is)
    (case zk_MOST_VALUE => k_is)
