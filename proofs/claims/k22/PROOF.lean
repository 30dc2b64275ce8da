import PyProof.Rows.All
import Wide.All
import OpenK.AllK
import Wide.FinOn
import HandS.ForMost
import HandS.IsInst
import HandS.SortInts
import HandS.Conv
import HandS.More
import HandS.ClsMeth
import HandS.Exc
import HandS.DictTup
import HandS.Strs
import HandS.SetFor
import HandS.SortRule
import HandS.MakeKw
import HandS.TryOnly
import HandS.Style
import KE.KDictList
import HandS.Small
import HandS.WordsExc
import HandS.ExcValue
import HandS.ExcIs
import PySem.Challenge.RW_lastreader_k22_whole_own_ways
set_option Elab.async false
set_option linter.all false
set_option maxRecDepth 100000
set_option maxHeartbeats 4000000
/-! The symbolic heap: what stands in H, unit by unit. -/
namespace Sy
open PySem L2
abbrev U := List (Addr × HO)
structure Has (H : Hp) (L : List U) : Prop where
  nd : (L.flatten.map (·.1)).Nodup
  at' : ∀ p ∈ L.flatten, H p.1 = some p.2
theorem Has.all {H : Hp} {L : List U} (h : Has H L) : ∀ p ∈ L.flatten, H p.1 = some p.2 := h.at'
theorem Has.set_at {H : Hp} {A : List U} {a : Addr} {o o2 : HO} {us : U} {L : List U} (h : Has H (A ++ ((a, o) :: us) :: L)) : Has (upd H a o2) (A ++ ((a, o2) :: us) :: L) := by
  have e1 : (A ++ ((a, o) :: us) :: L).flatten = A.flatten ++ (a, o) :: (us ++ L.flatten) := by simp
  have e2 : (A ++ ((a, o2) :: us) :: L).flatten = A.flatten ++ (a, o2) :: (us ++ L.flatten) := by simp
  have hn := h.nd
  have ha := h.at'
  rw [e1] at hn ha
  refine ⟨?_, ?_⟩
  · rw [e2]
    simpa using hn
  · rw [e2]
    rw [List.map_append, List.map_cons, List.nodup_append] at hn
    obtain ⟨n1, n2, n3⟩ := hn
    obtain ⟨n4, n5⟩ := List.nodup_cons.mp n2
    intro p hp
    rcases List.mem_append.mp hp with q | q
    · have ne : p.1 ≠ a := n3 p.1 (List.mem_map.mpr ⟨p, q, rfl⟩) a (List.mem_cons.mpr (.inl rfl))
      rw [upd_ne ne]
      exact ha p (List.mem_append.mpr (.inl q))
    · rcases List.mem_cons.mp q with e | q
      · subst e
        exact upd_same
      · have ne : p.1 ≠ a := fun z => n4 (List.mem_map.mpr ⟨p, q, z⟩)
        rw [upd_ne ne]
        exact ha p (List.mem_append.mpr (.inr (List.mem_cons.mpr (.inr q))))
theorem Has.nw {H : Hp} {L : List U} (h : Has H L) {p : Addr} {o : HO} (hp : H p = none) : Has (upd H p o) ([(p, o)] :: L) := by
  have np : ∀ q ∈ L.flatten, q.1 ≠ p := fun q hq => ne_of_none (h.at' q hq) hp
  refine ⟨?_, ?_⟩
  · show ((p :: L.flatten.map (·.1))).Nodup
    exact List.nodup_cons.mpr ⟨fun m => by obtain ⟨q, hq, e⟩ := List.mem_map.mp m; exact np q hq e, h.nd⟩
  · intro q hq
    have hq : q ∈ (p, o) :: L.flatten := hq
    rcases List.mem_cons.mp hq with e | hq
    · subst e
      exact upd_same
    · rw [upd_ne (np q hq)]
      exact h.at' q hq
theorem Has.nil {H : Hp} : Has H [] := ⟨List.nodup_nil, fun _ h => by cases h⟩
def Sub (T L : List U) : Prop := ∃ G, L.Perm (T ++ G)
theorem Sub.rf {L : List U} : Sub L L := ⟨[], by rw [List.append_nil]⟩
theorem Sub.skip {T L : List U} {u : U} (h : Sub T L) : Sub T (u :: L) := by
  obtain ⟨G, p⟩ := h
  exact ⟨u :: G, ((List.Perm.cons u p).trans List.perm_middle.symm)⟩
theorem Sub.pull {A : List U} {u : U} {T L : List U} (h : Sub T (A ++ L)) : Sub (u :: T) (A ++ u :: L) := by
  obtain ⟨G, p⟩ := h
  exact ⟨G, List.perm_middle.trans (List.Perm.cons u p)⟩
theorem Sub.trans {A B C : List U} (h : Sub A B) (k : Sub B C) : Sub A C := by
  obtain ⟨G, p⟩ := h
  obtain ⟨F, q⟩ := k
  refine ⟨G ++ F, q.trans ?_⟩
  rw [← List.append_assoc]
  exact p.append_right F
theorem flatten_perm {L M : List U} (p : L.Perm M) : L.flatten.Perm M.flatten := by
  induction p with
  | nil => exact List.Perm.refl _
  | cons x _ ih =>
    show (x ++ _).Perm (x ++ _)
    exact ih.append_left x
  | swap x y l =>
    show (y ++ (x ++ l.flatten)).Perm (x ++ (y ++ l.flatten))
    rw [← List.append_assoc, ← List.append_assoc]
    exact List.perm_append_comm.append_right _
  | trans _ _ a b => exact a.trans b
theorem Has.perm {H : Hp} {L M : List U} (h : Has H L) (p : L.Perm M) : Has H M :=
  ⟨((flatten_perm p).map (·.1)).nodup_iff.mp h.nd, fun q hq => h.at' q ((flatten_perm p).mem_iff.mpr hq)⟩
theorem Has.left {H : Hp} {L M : List U} (h : Has H (L ++ M)) : Has H L := by
  obtain ⟨n, a⟩ := h
  rw [List.flatten_append] at n a
  rw [List.map_append] at n
  exact ⟨(List.nodup_append.mp n).1, fun p hp => a p (List.mem_append.mpr (.inl hp))⟩
theorem Has.sub {H : Hp} {T L : List U} (h : Has H L) (s : Sub T L) : Has H T := by
  obtain ⟨G, p⟩ := s
  exact (h.perm p).left
/-- a unit is opened, closed -/
theorem Has.op {H : Hp} {A B : U} {L : List U} : Has H ((A ++ B) :: L) ↔ Has H (A :: B :: L) := by
  constructor
  · rintro ⟨n, a⟩
    exact ⟨by simpa using n, fun p hp => a p (by simpa [or_assoc] using hp)⟩
  · rintro ⟨n, a⟩
    exact ⟨by simpa using n, fun p hp => a p (by simpa [or_assoc] using hp)⟩
theorem Has.cut {H : Hp} {p : Addr × HO} {B : U} {L : List U} (h : Has H ((p :: B) :: L)) : Has H ([p] :: B :: L) := Has.op.mp h
theorem Has.glue {H : Hp} {p : Addr × HO} {B : U} {L : List U} (h : Has H ([p] :: B :: L)) : Has H ((p :: B) :: L) := Has.op.mpr h
theorem Has.nilU {H : Hp} {L : List U} : Has H ([] :: L) ↔ Has H L := ⟨fun ⟨n, a⟩ => ⟨n, a⟩, fun ⟨n, a⟩ => ⟨n, a⟩⟩
theorem Has.cut2 {H : Hp} {p q : Addr × HO} {B : U} {L : List U} (h : Has H ((p :: q :: B) :: L)) : Has H ([p] :: [q] :: B :: L) := Has.perm (Has.cut (Has.perm h.cut (List.Perm.swap _ _ _))) ((List.Perm.cons _ (List.Perm.swap _ _ _)).trans ((List.Perm.swap _ _ _)))
theorem Has.glue2 {H : Hp} {p q : Addr × HO} {B : U} {L : List U} (h : Has H ([p] :: [q] :: B :: L)) : Has H ((p :: q :: B) :: L) := Has.glue (Has.perm (Has.glue (Has.perm h ((List.Perm.swap _ _ _).trans (List.Perm.cons _ (List.Perm.swap _ _ _))))) (List.Perm.swap _ _ _))
theorem Has.g0 {H : Hp} {a : Addr} {o : HO} {us : U} {L : List U} (h : Has H (((a, o) :: us) :: L)) : H a = some o := h.2 (a, o) (by simp)
theorem Has.g1 {H : Hp} {u0 : U} {a : Addr} {o : HO} {us : U} {L : List U} (h : Has H (u0 :: ((a, o) :: us) :: L)) : H a = some o := h.2 (a, o) (by simp)
theorem Has.g2 {H : Hp} {u0 u1 : U} {a : Addr} {o : HO} {us : U} {L : List U} (h : Has H (u0 :: u1 :: ((a, o) :: us) :: L)) : H a = some o := h.2 (a, o) (by simp)
theorem Has.g3 {H : Hp} {u0 u1 u2 : U} {a : Addr} {o : HO} {us : U} {L : List U} (h : Has H (u0 :: u1 :: u2 :: ((a, o) :: us) :: L)) : H a = some o := h.2 (a, o) (by simp)
theorem Has.g4 {H : Hp} {u0 u1 u2 u3 : U} {a : Addr} {o : HO} {us : U} {L : List U} (h : Has H (u0 :: u1 :: u2 :: u3 :: ((a, o) :: us) :: L)) : H a = some o := h.2 (a, o) (by simp)
theorem Has.g5 {H : Hp} {u0 u1 u2 u3 u4 : U} {a : Addr} {o : HO} {us : U} {L : List U} (h : Has H (u0 :: u1 :: u2 :: u3 :: u4 :: ((a, o) :: us) :: L)) : H a = some o := h.2 (a, o) (by simp)
theorem Has.g6 {H : Hp} {u0 u1 u2 u3 u4 u5 : U} {a : Addr} {o : HO} {us : U} {L : List U} (h : Has H (u0 :: u1 :: u2 :: u3 :: u4 :: u5 :: ((a, o) :: us) :: L)) : H a = some o := h.2 (a, o) (by simp)
theorem Has.g7 {H : Hp} {u0 u1 u2 u3 u4 u5 u6 : U} {a : Addr} {o : HO} {us : U} {L : List U} (h : Has H (u0 :: u1 :: u2 :: u3 :: u4 :: u5 :: u6 :: ((a, o) :: us) :: L)) : H a = some o := h.2 (a, o) (by simp)
theorem Has.g8 {H : Hp} {u0 u1 u2 u3 u4 u5 u6 u7 : U} {a : Addr} {o : HO} {us : U} {L : List U} (h : Has H (u0 :: u1 :: u2 :: u3 :: u4 :: u5 :: u6 :: u7 :: ((a, o) :: us) :: L)) : H a = some o := h.2 (a, o) (by simp)
theorem Has.g9 {H : Hp} {u0 u1 u2 u3 u4 u5 u6 u7 u8 : U} {a : Addr} {o : HO} {us : U} {L : List U} (h : Has H (u0 :: u1 :: u2 :: u3 :: u4 :: u5 :: u6 :: u7 :: u8 :: ((a, o) :: us) :: L)) : H a = some o := h.2 (a, o) (by simp)
theorem Has.g10 {H : Hp} {u0 u1 u2 u3 u4 u5 u6 u7 u8 u9 : U} {a : Addr} {o : HO} {us : U} {L : List U} (h : Has H (u0 :: u1 :: u2 :: u3 :: u4 :: u5 :: u6 :: u7 :: u8 :: u9 :: ((a, o) :: us) :: L)) : H a = some o := h.2 (a, o) (by simp)
theorem Has.g11 {H : Hp} {u0 u1 u2 u3 u4 u5 u6 u7 u8 u9 u10 : U} {a : Addr} {o : HO} {us : U} {L : List U} (h : Has H (u0 :: u1 :: u2 :: u3 :: u4 :: u5 :: u6 :: u7 :: u8 :: u9 :: u10 :: ((a, o) :: us) :: L)) : H a = some o := h.2 (a, o) (by simp)
theorem Has.g12 {H : Hp} {u0 u1 u2 u3 u4 u5 u6 u7 u8 u9 u10 u11 : U} {a : Addr} {o : HO} {us : U} {L : List U} (h : Has H (u0 :: u1 :: u2 :: u3 :: u4 :: u5 :: u6 :: u7 :: u8 :: u9 :: u10 :: u11 :: ((a, o) :: us) :: L)) : H a = some o := h.2 (a, o) (by simp)
theorem Has.g13 {H : Hp} {u0 u1 u2 u3 u4 u5 u6 u7 u8 u9 u10 u11 u12 : U} {a : Addr} {o : HO} {us : U} {L : List U} (h : Has H (u0 :: u1 :: u2 :: u3 :: u4 :: u5 :: u6 :: u7 :: u8 :: u9 :: u10 :: u11 :: u12 :: ((a, o) :: us) :: L)) : H a = some o := h.2 (a, o) (by simp)
theorem Has.g14 {H : Hp} {u0 u1 u2 u3 u4 u5 u6 u7 u8 u9 u10 u11 u12 u13 : U} {a : Addr} {o : HO} {us : U} {L : List U} (h : Has H (u0 :: u1 :: u2 :: u3 :: u4 :: u5 :: u6 :: u7 :: u8 :: u9 :: u10 :: u11 :: u12 :: u13 :: ((a, o) :: us) :: L)) : H a = some o := h.2 (a, o) (by simp)
theorem Has.g15 {H : Hp} {u0 u1 u2 u3 u4 u5 u6 u7 u8 u9 u10 u11 u12 u13 u14 : U} {a : Addr} {o : HO} {us : U} {L : List U} (h : Has H (u0 :: u1 :: u2 :: u3 :: u4 :: u5 :: u6 :: u7 :: u8 :: u9 :: u10 :: u11 :: u12 :: u13 :: u14 :: ((a, o) :: us) :: L)) : H a = some o := h.2 (a, o) (by simp)
theorem Has.s0 {H : Hp} {a : Addr} {o o2 : HO} {us : U} {L : List U} (h : Has H (((a, o) :: us) :: L)) : Has (upd H a o2) (((a, o2) :: us) :: L) := Has.set_at (A := []) h
theorem Has.s1 {H : Hp} {u0 : U} {a : Addr} {o o2 : HO} {us : U} {L : List U} (h : Has H (u0 :: ((a, o) :: us) :: L)) : Has (upd H a o2) (u0 :: ((a, o2) :: us) :: L) := Has.set_at (A := [u0]) h
theorem Has.s2 {H : Hp} {u0 u1 : U} {a : Addr} {o o2 : HO} {us : U} {L : List U} (h : Has H (u0 :: u1 :: ((a, o) :: us) :: L)) : Has (upd H a o2) (u0 :: u1 :: ((a, o2) :: us) :: L) := Has.set_at (A := [u0, u1]) h
theorem Has.s3 {H : Hp} {u0 u1 u2 : U} {a : Addr} {o o2 : HO} {us : U} {L : List U} (h : Has H (u0 :: u1 :: u2 :: ((a, o) :: us) :: L)) : Has (upd H a o2) (u0 :: u1 :: u2 :: ((a, o2) :: us) :: L) := Has.set_at (A := [u0, u1, u2]) h
theorem Has.s4 {H : Hp} {u0 u1 u2 u3 : U} {a : Addr} {o o2 : HO} {us : U} {L : List U} (h : Has H (u0 :: u1 :: u2 :: u3 :: ((a, o) :: us) :: L)) : Has (upd H a o2) (u0 :: u1 :: u2 :: u3 :: ((a, o2) :: us) :: L) := Has.set_at (A := [u0, u1, u2, u3]) h
theorem Has.s5 {H : Hp} {u0 u1 u2 u3 u4 : U} {a : Addr} {o o2 : HO} {us : U} {L : List U} (h : Has H (u0 :: u1 :: u2 :: u3 :: u4 :: ((a, o) :: us) :: L)) : Has (upd H a o2) (u0 :: u1 :: u2 :: u3 :: u4 :: ((a, o2) :: us) :: L) := Has.set_at (A := [u0, u1, u2, u3, u4]) h
theorem Has.s6 {H : Hp} {u0 u1 u2 u3 u4 u5 : U} {a : Addr} {o o2 : HO} {us : U} {L : List U} (h : Has H (u0 :: u1 :: u2 :: u3 :: u4 :: u5 :: ((a, o) :: us) :: L)) : Has (upd H a o2) (u0 :: u1 :: u2 :: u3 :: u4 :: u5 :: ((a, o2) :: us) :: L) := Has.set_at (A := [u0, u1, u2, u3, u4, u5]) h
theorem Has.s7 {H : Hp} {u0 u1 u2 u3 u4 u5 u6 : U} {a : Addr} {o o2 : HO} {us : U} {L : List U} (h : Has H (u0 :: u1 :: u2 :: u3 :: u4 :: u5 :: u6 :: ((a, o) :: us) :: L)) : Has (upd H a o2) (u0 :: u1 :: u2 :: u3 :: u4 :: u5 :: u6 :: ((a, o2) :: us) :: L) := Has.set_at (A := [u0, u1, u2, u3, u4, u5, u6]) h
theorem Has.s8 {H : Hp} {u0 u1 u2 u3 u4 u5 u6 u7 : U} {a : Addr} {o o2 : HO} {us : U} {L : List U} (h : Has H (u0 :: u1 :: u2 :: u3 :: u4 :: u5 :: u6 :: u7 :: ((a, o) :: us) :: L)) : Has (upd H a o2) (u0 :: u1 :: u2 :: u3 :: u4 :: u5 :: u6 :: u7 :: ((a, o2) :: us) :: L) := Has.set_at (A := [u0, u1, u2, u3, u4, u5, u6, u7]) h
theorem Has.s9 {H : Hp} {u0 u1 u2 u3 u4 u5 u6 u7 u8 : U} {a : Addr} {o o2 : HO} {us : U} {L : List U} (h : Has H (u0 :: u1 :: u2 :: u3 :: u4 :: u5 :: u6 :: u7 :: u8 :: ((a, o) :: us) :: L)) : Has (upd H a o2) (u0 :: u1 :: u2 :: u3 :: u4 :: u5 :: u6 :: u7 :: u8 :: ((a, o2) :: us) :: L) := Has.set_at (A := [u0, u1, u2, u3, u4, u5, u6, u7, u8]) h
theorem Has.s10 {H : Hp} {u0 u1 u2 u3 u4 u5 u6 u7 u8 u9 : U} {a : Addr} {o o2 : HO} {us : U} {L : List U} (h : Has H (u0 :: u1 :: u2 :: u3 :: u4 :: u5 :: u6 :: u7 :: u8 :: u9 :: ((a, o) :: us) :: L)) : Has (upd H a o2) (u0 :: u1 :: u2 :: u3 :: u4 :: u5 :: u6 :: u7 :: u8 :: u9 :: ((a, o2) :: us) :: L) := Has.set_at (A := [u0, u1, u2, u3, u4, u5, u6, u7, u8, u9]) h
theorem Has.s11 {H : Hp} {u0 u1 u2 u3 u4 u5 u6 u7 u8 u9 u10 : U} {a : Addr} {o o2 : HO} {us : U} {L : List U} (h : Has H (u0 :: u1 :: u2 :: u3 :: u4 :: u5 :: u6 :: u7 :: u8 :: u9 :: u10 :: ((a, o) :: us) :: L)) : Has (upd H a o2) (u0 :: u1 :: u2 :: u3 :: u4 :: u5 :: u6 :: u7 :: u8 :: u9 :: u10 :: ((a, o2) :: us) :: L) := Has.set_at (A := [u0, u1, u2, u3, u4, u5, u6, u7, u8, u9, u10]) h
theorem Has.s12 {H : Hp} {u0 u1 u2 u3 u4 u5 u6 u7 u8 u9 u10 u11 : U} {a : Addr} {o o2 : HO} {us : U} {L : List U} (h : Has H (u0 :: u1 :: u2 :: u3 :: u4 :: u5 :: u6 :: u7 :: u8 :: u9 :: u10 :: u11 :: ((a, o) :: us) :: L)) : Has (upd H a o2) (u0 :: u1 :: u2 :: u3 :: u4 :: u5 :: u6 :: u7 :: u8 :: u9 :: u10 :: u11 :: ((a, o2) :: us) :: L) := Has.set_at (A := [u0, u1, u2, u3, u4, u5, u6, u7, u8, u9, u10, u11]) h
theorem Has.s13 {H : Hp} {u0 u1 u2 u3 u4 u5 u6 u7 u8 u9 u10 u11 u12 : U} {a : Addr} {o o2 : HO} {us : U} {L : List U} (h : Has H (u0 :: u1 :: u2 :: u3 :: u4 :: u5 :: u6 :: u7 :: u8 :: u9 :: u10 :: u11 :: u12 :: ((a, o) :: us) :: L)) : Has (upd H a o2) (u0 :: u1 :: u2 :: u3 :: u4 :: u5 :: u6 :: u7 :: u8 :: u9 :: u10 :: u11 :: u12 :: ((a, o2) :: us) :: L) := Has.set_at (A := [u0, u1, u2, u3, u4, u5, u6, u7, u8, u9, u10, u11, u12]) h
theorem Has.s14 {H : Hp} {u0 u1 u2 u3 u4 u5 u6 u7 u8 u9 u10 u11 u12 u13 : U} {a : Addr} {o o2 : HO} {us : U} {L : List U} (h : Has H (u0 :: u1 :: u2 :: u3 :: u4 :: u5 :: u6 :: u7 :: u8 :: u9 :: u10 :: u11 :: u12 :: u13 :: ((a, o) :: us) :: L)) : Has (upd H a o2) (u0 :: u1 :: u2 :: u3 :: u4 :: u5 :: u6 :: u7 :: u8 :: u9 :: u10 :: u11 :: u12 :: u13 :: ((a, o2) :: us) :: L) := Has.set_at (A := [u0, u1, u2, u3, u4, u5, u6, u7, u8, u9, u10, u11, u12, u13]) h
theorem Has.s15 {H : Hp} {u0 u1 u2 u3 u4 u5 u6 u7 u8 u9 u10 u11 u12 u13 u14 : U} {a : Addr} {o o2 : HO} {us : U} {L : List U} (h : Has H (u0 :: u1 :: u2 :: u3 :: u4 :: u5 :: u6 :: u7 :: u8 :: u9 :: u10 :: u11 :: u12 :: u13 :: u14 :: ((a, o) :: us) :: L)) : Has (upd H a o2) (u0 :: u1 :: u2 :: u3 :: u4 :: u5 :: u6 :: u7 :: u8 :: u9 :: u10 :: u11 :: u12 :: u13 :: u14 :: ((a, o2) :: us) :: L) := Has.set_at (A := [u0, u1, u2, u3, u4, u5, u6, u7, u8, u9, u10, u11, u12, u13, u14]) h
theorem Sub.p0 {u : U} {T L : List U} (h : Sub T L) : Sub (u :: T) (u :: L) := Sub.pull (A := []) h
theorem Sub.p1 {u0 u : U} {T L : List U} (h : Sub T (u0 :: L)) : Sub (u :: T) (u0 :: u :: L) := Sub.pull (A := [u0]) h
theorem Sub.p2 {u0 u1 u : U} {T L : List U} (h : Sub T (u0 :: u1 :: L)) : Sub (u :: T) (u0 :: u1 :: u :: L) := Sub.pull (A := [u0, u1]) h
theorem Sub.p3 {u0 u1 u2 u : U} {T L : List U} (h : Sub T (u0 :: u1 :: u2 :: L)) : Sub (u :: T) (u0 :: u1 :: u2 :: u :: L) := Sub.pull (A := [u0, u1, u2]) h
theorem Sub.p4 {u0 u1 u2 u3 u : U} {T L : List U} (h : Sub T (u0 :: u1 :: u2 :: u3 :: L)) : Sub (u :: T) (u0 :: u1 :: u2 :: u3 :: u :: L) := Sub.pull (A := [u0, u1, u2, u3]) h
theorem Sub.p5 {u0 u1 u2 u3 u4 u : U} {T L : List U} (h : Sub T (u0 :: u1 :: u2 :: u3 :: u4 :: L)) : Sub (u :: T) (u0 :: u1 :: u2 :: u3 :: u4 :: u :: L) := Sub.pull (A := [u0, u1, u2, u3, u4]) h
theorem Sub.p6 {u0 u1 u2 u3 u4 u5 u : U} {T L : List U} (h : Sub T (u0 :: u1 :: u2 :: u3 :: u4 :: u5 :: L)) : Sub (u :: T) (u0 :: u1 :: u2 :: u3 :: u4 :: u5 :: u :: L) := Sub.pull (A := [u0, u1, u2, u3, u4, u5]) h
theorem Sub.p7 {u0 u1 u2 u3 u4 u5 u6 u : U} {T L : List U} (h : Sub T (u0 :: u1 :: u2 :: u3 :: u4 :: u5 :: u6 :: L)) : Sub (u :: T) (u0 :: u1 :: u2 :: u3 :: u4 :: u5 :: u6 :: u :: L) := Sub.pull (A := [u0, u1, u2, u3, u4, u5, u6]) h
theorem Sub.p8 {u0 u1 u2 u3 u4 u5 u6 u7 u : U} {T L : List U} (h : Sub T (u0 :: u1 :: u2 :: u3 :: u4 :: u5 :: u6 :: u7 :: L)) : Sub (u :: T) (u0 :: u1 :: u2 :: u3 :: u4 :: u5 :: u6 :: u7 :: u :: L) := Sub.pull (A := [u0, u1, u2, u3, u4, u5, u6, u7]) h
theorem Sub.p9 {u0 u1 u2 u3 u4 u5 u6 u7 u8 u : U} {T L : List U} (h : Sub T (u0 :: u1 :: u2 :: u3 :: u4 :: u5 :: u6 :: u7 :: u8 :: L)) : Sub (u :: T) (u0 :: u1 :: u2 :: u3 :: u4 :: u5 :: u6 :: u7 :: u8 :: u :: L) := Sub.pull (A := [u0, u1, u2, u3, u4, u5, u6, u7, u8]) h
theorem Sub.p10 {u0 u1 u2 u3 u4 u5 u6 u7 u8 u9 u : U} {T L : List U} (h : Sub T (u0 :: u1 :: u2 :: u3 :: u4 :: u5 :: u6 :: u7 :: u8 :: u9 :: L)) : Sub (u :: T) (u0 :: u1 :: u2 :: u3 :: u4 :: u5 :: u6 :: u7 :: u8 :: u9 :: u :: L) := Sub.pull (A := [u0, u1, u2, u3, u4, u5, u6, u7, u8, u9]) h
theorem Sub.p11 {u0 u1 u2 u3 u4 u5 u6 u7 u8 u9 u10 u : U} {T L : List U} (h : Sub T (u0 :: u1 :: u2 :: u3 :: u4 :: u5 :: u6 :: u7 :: u8 :: u9 :: u10 :: L)) : Sub (u :: T) (u0 :: u1 :: u2 :: u3 :: u4 :: u5 :: u6 :: u7 :: u8 :: u9 :: u10 :: u :: L) := Sub.pull (A := [u0, u1, u2, u3, u4, u5, u6, u7, u8, u9, u10]) h
theorem Sub.p12 {u0 u1 u2 u3 u4 u5 u6 u7 u8 u9 u10 u11 u : U} {T L : List U} (h : Sub T (u0 :: u1 :: u2 :: u3 :: u4 :: u5 :: u6 :: u7 :: u8 :: u9 :: u10 :: u11 :: L)) : Sub (u :: T) (u0 :: u1 :: u2 :: u3 :: u4 :: u5 :: u6 :: u7 :: u8 :: u9 :: u10 :: u11 :: u :: L) := Sub.pull (A := [u0, u1, u2, u3, u4, u5, u6, u7, u8, u9, u10, u11]) h
theorem Sub.p13 {u0 u1 u2 u3 u4 u5 u6 u7 u8 u9 u10 u11 u12 u : U} {T L : List U} (h : Sub T (u0 :: u1 :: u2 :: u3 :: u4 :: u5 :: u6 :: u7 :: u8 :: u9 :: u10 :: u11 :: u12 :: L)) : Sub (u :: T) (u0 :: u1 :: u2 :: u3 :: u4 :: u5 :: u6 :: u7 :: u8 :: u9 :: u10 :: u11 :: u12 :: u :: L) := Sub.pull (A := [u0, u1, u2, u3, u4, u5, u6, u7, u8, u9, u10, u11, u12]) h
theorem Sub.p14 {u0 u1 u2 u3 u4 u5 u6 u7 u8 u9 u10 u11 u12 u13 u : U} {T L : List U} (h : Sub T (u0 :: u1 :: u2 :: u3 :: u4 :: u5 :: u6 :: u7 :: u8 :: u9 :: u10 :: u11 :: u12 :: u13 :: L)) : Sub (u :: T) (u0 :: u1 :: u2 :: u3 :: u4 :: u5 :: u6 :: u7 :: u8 :: u9 :: u10 :: u11 :: u12 :: u13 :: u :: L) := Sub.pull (A := [u0, u1, u2, u3, u4, u5, u6, u7, u8, u9, u10, u11, u12, u13]) h
theorem Sub.p15 {u0 u1 u2 u3 u4 u5 u6 u7 u8 u9 u10 u11 u12 u13 u14 u : U} {T L : List U} (h : Sub T (u0 :: u1 :: u2 :: u3 :: u4 :: u5 :: u6 :: u7 :: u8 :: u9 :: u10 :: u11 :: u12 :: u13 :: u14 :: L)) : Sub (u :: T) (u0 :: u1 :: u2 :: u3 :: u4 :: u5 :: u6 :: u7 :: u8 :: u9 :: u10 :: u11 :: u12 :: u13 :: u14 :: u :: L) := Sub.pull (A := [u0, u1, u2, u3, u4, u5, u6, u7, u8, u9, u10, u11, u12, u13, u14]) h
/-! Steps: a reading, rule by rule, over the symbolic heap. -/
theorem Has.cut3 {H : Hp} {p q r : Addr × HO} {B : U} {L : List U} (h : Has H ((p :: q :: r :: B) :: L)) : Has H ([p] :: [q] :: [r] :: B :: L) := (Has.cut (h.cut2.sub (Sub.p2 Sub.rf))).sub (Sub.p2 (Sub.p2 (Sub.p0 (Sub.p0 Sub.rf))))
theorem Has.glue3 {H : Hp} {p q r : Addr × HO} {B : U} {L : List U} (h : Has H ([p] :: [q] :: [r] :: B :: L)) : Has H ((p :: q :: r :: B) :: L) := Has.glue2 ((Has.glue (h.sub (Sub.p2 (Sub.p2 Sub.rf)))).sub (Sub.p1 (Sub.p1 (Sub.p0 Sub.rf))))
section
variable {K : PySem.W.Frag} {σ : St} {H H1 : Hp} {L : List U} {Q : VK} {QT : Bool → Hp → Prop} {QA : List V → Hp → Prop} {QS : St → Hp → Prop} {ta tb tc te tv td ty tx : TE} {t u c : TT} {tr : TA} {v w x y z : V} {xs ys : List V} {i j n m : Int} {a b p : Addr} {f : Str} {C dx : Addr} {fs : List (Str × V)} {nx bk ct : St → Hp → Prop} {rt : VK} {s1 s2 : TS} {A B : Prop} {k : Nat} {D : Ends}
/-! ### names, constants, operators -/
theorem x_var {k : Nat} (h : σ[k]? = some (some v)) (q : Q v H) : tVar k σ H Q := ⟨v, h, q⟩
theorem x_c (q : Q v H) : tC v σ H Q := q
theorem x_op {r : R2} (q : ta σ H fun x H1 => tb σ H1 fun y H2 => r x y H2 Q) : tOp r ta tb σ H Q := q
theorem x_un {r : V → Hp → VK → Prop} (q : ta σ H fun x H1 => r x H1 Q) : tUn r ta σ H Q := q
def rAddI : R2 := rI0 fun i j => .int (i + j)
def rSubI : R2 := rI0 fun i j => .int (i - j)
def rMulI : R2 := rI CMul fun i j => .int (i * j)
def rDivI : R2 := rI CDiv fun i j => .int (i / j)
def rModI : R2 := rI (fun _ j => 0 < j) fun i j => .int (i % j)
def rPowI : R2 := rI CPow fun i j => .int (i ^ j.toNat)
def rLtI : R2 := rI0 fun i j => .bl (decide (i < j))
def rLeI : R2 := rI0 fun i j => .bl (decide (i ≤ j))
def rGtI : R2 := rI0 fun i j => .bl (decide (j < i))
def rGeI : R2 := rI0 fun i j => .bl (decide (j ≤ i))
def rIsNo : R2 := fun x y H Q => y = .non ∧ Q (.bl (decide (x = .non))) H
def rNotNo : R2 := fun x y H Q => y = .non ∧ Q (.bl (!decide (x = .non))) H
theorem op_addI {X : Cx} : OpR X (binaryOp .Add) rAddI := op_add
theorem op_subI {X : Cx} : OpR X (binaryOp .Sub) rSubI := op_sub
theorem op_mulI {X : Cx} : OpR X (binaryOp .Mult) rMulI := op_mul
theorem op_divI {X : Cx} : OpR X (binaryOp .FloorDiv) rDivI := op_fdiv
theorem op_modI {X : Cx} : OpR X (binaryOp .Mod) rModI := op_mod
theorem op_powI {X : Cx} : OpR X (binaryOp .Pow) rPowI := op_pow
theorem op_ltI {X : Cx} : OpR X (compareOp .Lt) rLtI := op_lt
theorem op_leI {X : Cx} : OpR X (compareOp .LtE) rLeI := op_le
theorem op_gtI {X : Cx} : OpR X (compareOp .Gt) rGtI := op_gt
theorem op_geI {X : Cx} : OpR X (compareOp .GtE) rGeI := op_ge
theorem op_isNo {X : Cx} : OpR X (compareOp .Is) rIsNo := op_isN
theorem op_notNo {X : Cx} : OpR X (compareOp .IsNot) rNotNo := op_notN
theorem k_addI (q : Q (.int (i + j)) H) : rAddI (.int i) (.int j) H Q := ⟨i, j, rfl, rfl, q⟩
theorem k_subI (q : Q (.int (i - j)) H) : rSubI (.int i) (.int j) H Q := ⟨i, j, rfl, rfl, q⟩
theorem k_mulI (h : CMul i j) (q : Q (.int (i * j)) H) : rMulI (.int i) (.int j) H Q := ⟨i, j, rfl, rfl, h, q⟩
theorem k_divI (h : CDiv i j) (q : Q (.int (i / j)) H) : rDivI (.int i) (.int j) H Q := ⟨i, j, rfl, rfl, h, q⟩
theorem k_modI (h : 0 < j) (q : Q (.int (i % j)) H) : rModI (.int i) (.int j) H Q := ⟨i, j, rfl, rfl, h, q⟩
theorem k_powI (h : CPow i j) (q : Q (.int (i ^ j.toNat)) H) : rPowI (.int i) (.int j) H Q := ⟨i, j, rfl, rfl, h, q⟩
theorem k_ltI (q : Q (.bl (decide (i < j))) H) : rLtI (.int i) (.int j) H Q := ⟨i, j, rfl, rfl, q⟩
theorem k_leI (q : Q (.bl (decide (i ≤ j))) H) : rLeI (.int i) (.int j) H Q := ⟨i, j, rfl, rfl, q⟩
theorem k_gtI (q : Q (.bl (decide (j < i))) H) : rGtI (.int i) (.int j) H Q := ⟨i, j, rfl, rfl, q⟩
theorem k_geI (q : Q (.bl (decide (j ≤ i))) H) : rGeI (.int i) (.int j) H Q := ⟨i, j, rfl, rfl, q⟩
theorem k_isNo (q : Q (.bl (decide (x = .non))) H) : rIsNo x .non H Q := ⟨rfl, q⟩
theorem k_isNo0 (q : Q (.bl true) H) : rIsNo .non .non H Q := ⟨rfl, q⟩
theorem k_isNoI (q : Q (.bl false) H) : rIsNo (.int i) .non H Q := ⟨rfl, q⟩
theorem k_isNoR (q : Q (.bl false) H) : rIsNo (.ref a) .non H Q := ⟨rfl, q⟩
theorem k_notNo0 (q : Q (.bl false) H) : rNotNo .non .non H Q := ⟨rfl, q⟩
theorem k_notNoI (q : Q (.bl true) H) : rNotNo (.int i) .non H Q := ⟨rfl, q⟩
theorem k_notNoR (q : Q (.bl true) H) : rNotNo (.ref a) .non H Q := ⟨rfl, q⟩
theorem k_notNo (q : Q (.bl (!decide (x = .non))) H) : rNotNo x .non H Q := ⟨rfl, q⟩
theorem dI_eq : decide (V.int i = V.int j) = decide (i = j) := by
  by_cases h : i = j
  · subst h; simp
  · rw [decide_eq_false h, decide_eq_false fun q => h (V.int.inj q)]
theorem dB_eq {i j : Bool} : decide (V.bl i = V.bl j) = decide (i = j) := by
  by_cases h : i = j
  · subst h; simp
  · rw [decide_eq_false h, decide_eq_false fun q => h (V.bl.inj q)]
theorem dS_eq {i j : Str} : decide (V.str i = V.str j) = decide (i = j) := by
  by_cases h : i = j
  · subst h; simp
  · rw [decide_eq_false h, decide_eq_false fun q => h (V.str.inj q)]
theorem k_eqI (q : Q (.bl (decide (i = j))) H) : rEq (.int i) (.int j) H Q := ⟨rfl, by rw [dI_eq]; exact q⟩
theorem k_neI (q : Q (.bl (!decide (i = j))) H) : rNe (.int i) (.int j) H Q := ⟨rfl, by rw [dI_eq]; exact q⟩
theorem k_eqB {i j : Bool} (q : Q (.bl (decide (i = j))) H) : rEq (.bl i) (.bl j) H Q := ⟨rfl, by rw [dB_eq]; exact q⟩
theorem k_neB {i j : Bool} (q : Q (.bl (!decide (i = j))) H) : rNe (.bl i) (.bl j) H Q := ⟨rfl, by rw [dB_eq]; exact q⟩
theorem k_eqS {i j : Str} (q : Q (.bl (decide (i = j))) H) : rEq (.str i) (.str j) H Q := ⟨rfl, by rw [dS_eq]; exact q⟩
theorem k_neS {i j : Str} (q : Q (.bl (!decide (i = j))) H) : rNe (.str i) (.str j) H Q := ⟨rfl, by rw [dS_eq]; exact q⟩
theorem k_eqIN (q : Q (.bl false) H) : rEq (.int i) .non H Q := ⟨rfl, q⟩
theorem k_eqNI (q : Q (.bl false) H) : rEq .non (.int i) H Q := ⟨rfl, q⟩
theorem k_eqNN (q : Q (.bl true) H) : rEq .non .non H Q := ⟨rfl, q⟩
theorem k_neIN (q : Q (.bl true) H) : rNe (.int i) .non H Q := ⟨rfl, q⟩
theorem k_neNI (q : Q (.bl true) H) : rNe .non (.int i) H Q := ⟨rfl, q⟩
theorem k_neNN (q : Q (.bl false) H) : rNe .non .non H Q := ⟨rfl, q⟩
/-! ### tests -/
def kB (x : V) (H : Hp) (Q : Bool → Hp → Prop) : Prop := ∃ k, x = .bl k ∧ Q k H
theorem x_test (q : te σ H fun x H' => kB x H' QT) : tTest te σ H QT := q
theorem x_tB (q : te σ H fun x H' => kB x H' QT) : tB te σ H QT := q
theorem k_b {b : Bool} (q : QT b H) : kB (.bl b) H QT := ⟨b, rfl, q⟩
theorem x_and (q : t σ H fun c H1 => if c = true then u σ H1 QT else QT false H1) : tAnd t u σ H QT := q
theorem x_or (q : t σ H fun c H1 => if c = true then QT true H1 else u σ H1 QT) : tOr t u σ H QT := q
theorem x_not (q : t σ H fun c H1 => QT (!c) H1) : tNot t σ H QT := q
def kAndV (tb : TE) (σ : St) (x : V) (H1 : Hp) (Q : VK) : Prop := ∃ c, x = .bl c ∧ if c = true then tb σ H1 Q else Q (.bl false) H1
def kOrV (tb : TE) (σ : St) (x : V) (H1 : Hp) (Q : VK) : Prop := ∃ c, x = .bl c ∧ if c = true then Q (.bl true) H1 else tb σ H1 Q
def kNotV (x : V) (H1 : Hp) (Q : VK) : Prop := ∃ c, x = .bl c ∧ Q (.bl (!c)) H1
theorem x_andV (q : ta σ H fun x H1 => kAndV tb σ x H1 Q) : tAndV ta tb σ H Q := q
theorem x_orV (q : ta σ H fun x H1 => kOrV tb σ x H1 Q) : tOrV ta tb σ H Q := q
theorem x_notV (q : ta σ H fun x H1 => kNotV x H1 Q) : tNotV ta σ H Q := q
theorem k_andV {c : Bool} (q : if c = true then tb σ H Q else Q (.bl false) H) : kAndV tb σ (.bl c) H Q := ⟨c, rfl, q⟩
theorem k_orV {c : Bool} (q : if c = true then Q (.bl true) H else tb σ H Q) : kOrV tb σ (.bl c) H Q := ⟨c, rfl, q⟩
theorem k_notV {c : Bool} (q : Q (.bl (!c)) H) : kNotV (.bl c) H Q := ⟨c, rfl, q⟩
theorem k_notVt (q : Q (.bl false) H) : kNotV (.bl true) H Q := ⟨true, rfl, q⟩
theorem k_notVf (q : Q (.bl true) H) : kNotV (.bl false) H Q := ⟨false, rfl, q⟩
theorem x_ifE (q : t σ H fun c H1 => if c = true then ta σ H1 Q else tb σ H1 Q) : tIf t ta tb σ H Q := q
def kChain (r' : R2) (tc : TE) (σ : St) (y z : V) (H3 : Hp) (Q : VK) : Prop := ∃ k, z = .bl k ∧ (if k = true then tc σ H3 fun w' H4 => r' y w' H4 Q else Q (.bl false) H3)
theorem x_chain {r r' : R2} (q : ta σ H fun x H1 => tb σ H1 fun y H2 => r x y H2 fun z H3 => kChain r' tc σ y z H3 Q) : tChain r r' ta tb tc σ H Q := q
theorem k_chain {r' : R2} {c : Bool} (q : if c = true then tc σ H fun w' H4 => r' y w' H4 Q else Q (.bl false) H) : kChain r' tc σ y (.bl c) H Q := ⟨c, rfl, q⟩
theorem ifT (q : A) : if true = true then A else B := by rw [if_pos rfl]; exact q
theorem ifF (q : B) : if false = true then A else B := by rw [if_neg Bool.false_ne_true]; exact q
theorem ifNT (q : B) : if (!true) = true then A else B := ifF q
theorem ifNF (q : A) : if (!false) = true then A else B := ifT q
theorem ifY {c : Bool} (h : c = true) (q : A) : if c = true then A else B := by rw [if_pos h]; exact q
theorem ifN {c : Bool} (h : c = false) (q : B) : if c = true then A else B := by rw [h, if_neg Bool.false_ne_true]; exact q
theorem ifB {c : Bool} (h : c = true → A) (g : c = false → B) : if c = true then A else B := by
  cases c with
  | true => rw [if_pos rfl]; exact h rfl
  | false => rw [if_neg Bool.false_ne_true]; exact g rfl
theorem ifD {c : Prop} [Decidable c] (h : c → A) (g : ¬ c → B) : if decide c = true then A else B := ifB (fun q => h (of_decide_eq_true q)) fun q => g (of_decide_eq_false q)
theorem ifE {c : Prop} [Decidable c] (h : ¬ c → A) (g : c → B) : if (!decide c) = true then A else B := ifB (fun q => h (by simpa using q)) fun q => g (by simpa using q)
/-! ### statements -/
theorem x_seq (q : s1 ⟨s2 ⟨nx, rt, bk, ct⟩, rt, bk, ct⟩ σ H) : tSeq s1 s2 ⟨nx, rt, bk, ct⟩ σ H := q
theorem x_next (q : nx σ H) : tNext ⟨nx, rt, bk, ct⟩ σ H := q
theorem x_brk (q : bk σ H) : tBreak ⟨nx, rt, bk, ct⟩ σ H := q
theorem x_ct (q : ct σ H) : tCont ⟨nx, rt, bk, ct⟩ σ H := q
theorem x_drop (q : te σ H fun _ H1 => nx σ H1) : tDrop te ⟨nx, rt, bk, ct⟩ σ H := q
theorem x_ret (q : te σ H rt) : tRet te ⟨nx, rt, bk, ct⟩ σ H := q
theorem x_retN (q : rt .non H) : tRetN ⟨nx, rt, bk, ct⟩ σ H := q
theorem x_if (q : c σ H fun b H1 => if b = true then s1 ⟨nx, rt, bk, ct⟩ σ H1 else s2 ⟨nx, rt, bk, ct⟩ σ H1) : tIfS c s1 s2 ⟨nx, rt, bk, ct⟩ σ H := q
theorem x_asg {g : TG} (q : te σ H fun x H1 => g x σ H1 nx) : tAsg te g ⟨nx, rt, bk, ct⟩ σ H := q
theorem x_gname {k : Nat} (q : QS (σ.set k (some v)) H) : gName k v σ H QS := q
theorem x_gtup {k : Nat} {g : TGs} (hp : H a = some (.tup xs)) (hl : xs.length = k) (q : g xs σ H QS) : gTup K k g (.ref a) σ H QS := ⟨a, xs, rfl, SqT.of hp, hl, q⟩
theorem x_gcons {g : TG} {gs : TGs} (q : g v σ H fun σ' H' => gs xs σ' H' QS) : gCons g gs (v :: xs) σ H QS := ⟨v, xs, rfl, q⟩
theorem x_gnil (q : QS σ H) : gNil [] σ H QS := ⟨rfl, q⟩
theorem x_gsub {s : TSet} (q : ta σ H fun o H1 => tb σ H1 fun i H2 => s o i v H2 fun H3 => QS σ H3) : gSub ta tb s v σ H QS := q
theorem k_setL {Q : Hp → Prop} {k : Nat} {M : List U} (hp : H p = some (.lst xs)) (hk : ixN xs.length i = some k) (hh : Has (upd H p (.lst (xs.set k v))) M) (q : ∀ H', Has H' M → Q H') : rSetL (.ref p) (.int i) v H Q := ⟨p, xs, i, k, rfl, rfl, hp, hk, q _ hh⟩
def kPar (i j : Nat) (nx : St → Hp → Prop) (σ : St) (vs : List V) (H1 : Hp) : Prop := ∃ v w, vs = [v, w] ∧ nx ((σ.set i (some v)).set j (some w)) H1
theorem x_par {i j : Nat} (q : tr σ H fun vs H1 => kPar i j nx σ vs H1) : tPar i j tr ⟨nx, rt, bk, ct⟩ σ H := q
theorem k_par {i j : Nat} (q : nx ((σ.set i (some v)).set j (some w)) H) : kPar i j nx σ [v, w] H := ⟨v, w, rfl, q⟩
/-! ### fields -/
def kFld (K : PySem.W.Frag) (f : Str) (x : V) (H1 : Hp) (Q : VK) : Prop := ∃ a C dx fs v, x = .ref a ∧ H1 a = some (.ins C dx fs) ∧ Cls K C ∧ NoAttr K C f ∧ fs.lookup f = some v ∧ Q v H1
theorem x_fld (q : ta σ H fun x H1 => kFld K f x H1 Q) : tFld K ta f σ H Q := q
theorem k_fld (hp : H a = some (.ins C dx fs)) (hc : Cls K C) (hn : NoAttr K C f) (hl : fs.lookup f = some v) (q : Q v H) : kFld K f (.ref a) H Q := ⟨a, C, dx, fs, v, rfl, hp, hc, hn, hl, q⟩
def kSFld (K : PySem.W.Frag) (f : Str) (nx : St → Hp → Prop) (σ : St) (y x : V) (H2 : Hp) : Prop := ∃ a C dx fs, x = .ref a ∧ H2 a = some (.ins C dx fs) ∧ Cls K C ∧ NoAttr K C f ∧ fs.length < 1000 ∧ nx σ (upd H2 a (.ins C dx (putF f y fs)))
theorem x_sfld (q : tv σ H fun y H1 => ta σ H1 fun x H2 => kSFld K f nx σ y x H2) : sFld K ta tv f ⟨nx, rt, bk, ct⟩ σ H := q
theorem k_sfld {M : List U} {gs : List (Str × V)} (hp : H a = some (.ins C dx fs)) (hc : Cls K C) (hn : NoAttr K C f) (hl : fs.length < 1000) (he : putF f y fs = gs) (hh : Has (upd H a (.ins C dx gs)) M) (q : ∀ H', Has H' M → nx σ H') : kSFld K f nx σ y (.ref a) H :=
  ⟨a, C, dx, fs, rfl, hp, hc, hn, hl, by rw [he]; exact q _ hh⟩
/-! ### lists, tuples -/
theorem x_nil (q : QA [] H) : tNil σ H QA := q
theorem x_cons (q : ta σ H fun x H1 => tr σ H1 fun xs H2 => QA (x :: xs) H2) : tCons ta tr σ H QA := q
def kLst (xs : List V) (H1 : Hp) (Q : VK) : Prop := xs.length ≤ sizeLine ∧ ∀ p, H1 p = none → Q (.ref p) (upd H1 p (.lst xs))
def kTupN (xs : List V) (H1 : Hp) (Q : VK) : Prop := xs.length ≤ sizeLine ∧ ∀ p, H1 p = none → Q (.ref p) (upd H1 p (.tup xs))
theorem x_lst (q : tr σ H fun xs H1 => kLst xs H1 Q) : tLst tr σ H Q := q
theorem x_tup (q : tr σ H fun xs H1 => kTupN xs H1 Q) : tTup tr σ H Q := q
theorem k_lst (hh : Has H L) (hl : xs.length ≤ sizeLine) (q : ∀ p H', Has H' ([(p, .lst xs)] :: L) → Q (.ref p) H') : kLst xs H Q := ⟨hl, fun p hp => q p _ (hh.nw hp)⟩
theorem k_tupN (hh : Has H L) (hl : xs.length ≤ sizeLine) (q : ∀ p H', Has H' ([(p, .tup xs)] :: L) → Q (.ref p) H') : kTupN xs H Q := ⟨hl, fun p hp => q p _ (hh.nw hp)⟩
theorem k_ixL (hp : H p = some (.lst xs)) (hi : atI xs i = some v) (q : Q v H) : rIxL K (.ref p) (.int i) H Q := ⟨p, xs, i, v, rfl, rfl, SqL.of hp, hi, q⟩
theorem k_ixT (hp : H p = some (.tup xs)) (hi : atI xs i = some v) (q : Q v H) : rIxT K (.ref p) (.int i) H Q := ⟨p, xs, i, v, rfl, rfl, SqT.of hp, hi, q⟩
theorem at_n {α : Type} {zs : List α} {d : Int} {v : α} (h0 : 0 ≤ d) (h : zs[d.toNat]? = some v) : atI zs d = some v := by
  obtain ⟨j, rfl⟩ := Int.eq_ofNat_of_zero_le h0
  exact atI_nat h
def kTy (K : PySem.W.Frag) (T : String) (x : V) (H1 : Hp) (A : Prop) : Prop := tyV K T x H1 ∧ A
theorem x_bm {T : String} {r : V → List V → Hp → VK → Prop} (q : ta σ H fun x H1 => kTy K T x H1 (tr σ H1 fun xs H2 => r x xs H2 Q)) : tBM K T r ta tr σ H Q := q
theorem x_bm0 {T : String} {r : V → List V → Hp → VK → Prop} (q : ta σ H fun x H1 => kTy K T x H1 (r x [] H1 Q)) : tBM0 K T r ta σ H Q := q
theorem k_tyL (hp : H a = some (.lst xs)) (q : A) : kTy K "list" (.ref a) H A := ⟨.inl ⟨rfl, _, SqL.of hp⟩, q⟩
theorem k_app {M : List U} (hp : H a = some (.lst xs)) (hl : xs.length < sizeLine) (hh : Has (upd H a (.lst (xs ++ [v]))) M) (q : ∀ H', Has H' M → Q .non H') : rAppend (.ref a) [v] H Q := ⟨a, xs, v, rfl, rfl, hp, hl, q _ hh⟩
theorem k_pop {M : List U} (hp : H a = some (.lst xs)) (hl : xs[xs.length - 1]? = some y) (hh : Has (upd H a (.lst xs.dropLast)) M) (q : ∀ H', Has H' M → Q y H') : rPop (.ref a) [] H Q := ⟨a, xs, y, rfl, rfl, hp, hl, q _ hh⟩
theorem k_cat (hh : Has H L) (hp : H a = some (.lst xs)) (hq : H b = some (.lst ys)) (hl : xs.length + ys.length ≤ sizeLine) (q : ∀ p H', Has H' ([(p, .lst (xs ++ ys))] :: L) → Q (.ref p) H') : rCat (.ref a) (.ref b) H Q :=
  ⟨a, b, xs, ys, rfl, rfl, hp, hq, hl, fun p hp => q p _ (hh.nw hp)⟩
theorem k_rep (hh : Has H L) (hp : H a = some (.lst [v])) (h0 : 0 ≤ i) (h1 : i ≤ 100000) (q : ∀ p H', Has H' ([(p, .lst (List.replicate i.toNat v))] :: L) → Q (.ref p) H') : rRep (.ref a) (.int i) H Q := by
  have e : (List.replicate i.toNat [v]).flatten = List.replicate i.toNat v := by
    generalize i.toNat = n
    induction n with
    | zero => rfl
    | succ n ih => rw [List.replicate_succ, List.flatten_cons, ih]; rfl
  refine ⟨a, i, [v], rfl, rfl, hp, by omega, by omega, ?_, fun p hp => ?_⟩
  · rw [sizeLine_eq]; show 1 * i.toNat ≤ _; omega
  · rw [e]; exact q p _ (hh.nw hp)
def kRg (Qr : Int → Int → Hp → Prop) (x : V) (H1 : Hp) : Prop := ∃ n, x = .int n ∧ Qr 0 n H1
def kLstRg (a b : Int) (H1 : Hp) (Q : VK) : Prop := RgOk a b ∧ ∀ q, H1 q = none → Q (.ref q) (upd H1 q (.lst (rgV a b)))
theorem x_rg1 {Qr : Int → Int → Hp → Prop} (q : ta σ H fun x H1 => kRg Qr x H1) : tRg1 ta σ H Qr := q
theorem k_rg1 {Qr : Int → Int → Hp → Prop} (q : Qr 0 i H) : kRg Qr (.int i) H := ⟨i, rfl, q⟩
theorem x_lstRg {te : St → Hp → (Int → Int → Hp → Prop) → Prop} (q : te σ H fun a b H1 => kLstRg a b H1 Q) : tLstRg te σ H Q := q
def rgI (n : Int) : List Int := (List.range n.toNat).map fun (i : Nat) => (i : Int)
theorem rgV_I (n : Int) : rgV 0 n = (rgI n).map V.int := by
  unfold rgV rgI
  rw [List.map_map, Int.sub_zero]
  refine List.map_congr_left fun i _ => ?_
  show V.int (0 + (i : Int)) = V.int i
  rw [Int.zero_add]
theorem rgI_len (n : Int) : (rgI n).length = n.toNat := by unfold rgI; rw [List.length_map, List.length_range]
theorem k_lstRg (hh : Has H L) (h0 : 0 ≤ n) (h1 : n ≤ 100000) (q : ∀ p H', Has H' ([(p, .lst ((rgI n).map V.int))] :: L) → Q (.ref p) H') : kLstRg 0 n H Q :=
  ⟨RgOk.of_le (by omega) (by omega) (by omega) h0, fun p hp => by rw [rgV_I]; exact q p _ (hh.nw hp)⟩
/-! ### calls of built-ins -/
theorem x_cb {r : List V → Hp → VK → Prop} (q : tr σ H fun vs H1 => r vs H1 Q) : tCB r tr σ H Q := q
def rLenQ (K : PySem.W.Frag) : List V → Hp → VK → Prop := fun xs H Q => ∃ p ys, xs = [.ref p] ∧ (SqL K H p ys ∨ SqT K H p ys) ∧ Q (.int ys.length) H
theorem call_lenQ {X : Cx} : CallR X (.builtin "len") (rLenQ X.K) := call_len_seq
theorem k_lenL (hp : H p = some (.lst xs)) (q : Q (.int xs.length) H) : rLenQ K [.ref p] H Q := ⟨p, xs, rfl, .inl (SqL.of hp), q⟩
theorem k_lenT (hp : H p = some (.tup xs)) (q : Q (.int xs.length) H) : rLenQ K [.ref p] H Q := ⟨p, xs, rfl, .inr (SqT.of hp), q⟩
def rLenK : List V → Hp → VK → Prop := fun xs H Q => ∃ a kvs, xs = [V.ref a] ∧ H a = some (.dK kvs) ∧ Q (.int kvs.length) H
theorem call_lenK {X : Cx} : CallR X (.builtin "len") rLenK := call_lenD
theorem k_lenK {kvs : List (Key × V)} (hp : H p = some (.dK kvs)) (q : Q (.int kvs.length) H) : rLenK [.ref p] H Q := ⟨p, kvs, rfl, hp, q⟩
theorem k_isi {ta' tb' : String} {r : Bool} (hx : TyOf K H x (.type ta')) (hk : kitB ta' tb' = some r) (q : Q (.bl r) H) : rIsi K [x, .ty tb'] H Q := ⟨x, .ty tb', .type ta', .type tb', r, rfl, .ty tb', .base hx, kit_ty hk, q⟩
theorem kb_ii : kitB "int" "int" = some true := by decide +kernel
theorem kb_ib : kitB "int" "bool" = some false := by decide +kernel
theorem kb_bi : kitB "bool" "int" = some true := by decide +kernel
theorem kb_bb : kitB "bool" "bool" = some true := by decide +kernel
theorem kb_ll : kitB "list" "list" = some true := by decide +kernel
theorem kb_tt : kitB "tuple" "tuple" = some true := by decide +kernel
theorem k_isiII (q : Q (.bl true) H) : rIsi K [.int i, .ty "int"] H Q := k_isi (.int i) kb_ii q
theorem k_isiIB (q : Q (.bl false) H) : rIsi K [.int i, .ty "bool"] H Q := k_isi (.int i) kb_ib q
theorem k_isiBI {b : Bool} (q : Q (.bl true) H) : rIsi K [.bl b, .ty "int"] H Q := k_isi (.bl b) kb_bi q
theorem k_isiBB {b : Bool} (q : Q (.bl true) H) : rIsi K [.bl b, .ty "bool"] H Q := k_isi (.bl b) kb_bb q
theorem k_isiLL (hp : H p = some (.lst xs)) (q : Q (.bl true) H) : rIsi K [.ref p, .ty "list"] H Q := k_isi (.lst hp) kb_ll q
theorem k_isiTT (hp : H p = some (.tup xs)) (q : Q (.bl true) H) : rIsi K [.ref p, .ty "tuple"] H Q := k_isi (.tup hp) kb_tt q
theorem k_all {bs : List Bool} (hp : H p = some (.lst (bs.map V.bl))) (q : Q (.bl (bs.all id)) H) : rAll K [.ref p] H Q := ⟨p, bs, rfl, SqL.of hp, q⟩
theorem k_sum {ns : List Int} (hp : H p = some (.lst (ns.map V.int))) (q : Q (.int ns.sum) H) : rSum K [.ref p] H Q := ⟨p, ns, rfl, SqL.of hp, q⟩
def rSortD : List V → Hp → VK → Prop := fun xs H Q => ∃ (a : Addr) (kvs : List (Key × V)) (ks : List Int), xs = [.ref a] ∧ Rd H a (.dK kvs) ∧ kvs.map (·.1) = ks.map Sum.inl ∧ ks.length < 64 ∧
    ∀ (ys : List Int) (p : Addr), ys.Perm ks → ys.Pairwise (· ≤ ·) → H p = none → Q (.ref p) (upd H p (.lst (ys.map V.int)))
theorem call_sortD {X : Cx} (hc : X.calm = true) : CallR X (.builtin "sorted") rSortD := call_sortedDI hc
def rListOf (K : PySem.W.Frag) : List V → Hp → VK → Prop := fun xs H Q => ∃ p ys, xs = [.ref p] ∧ (SqL K H p ys ∨ SqT K H p ys) ∧ ∀ l, H l = none → Q (.ref l) (upd H l (.lst ys))
theorem call_listOf {X : Cx} : CallR X (.type "list") (rListOf X.K) := call_list_of
theorem k_listOf (hh : Has H L) (hp : H p = some (.lst xs)) (q : ∀ p H', Has H' ([(p, .lst xs)] :: L) → Q (.ref p) H') : rListOf K [.ref p] H Q := ⟨p, xs, rfl, .inl (SqL.of hp), fun l hl => q l _ (hh.nw hl)⟩
theorem k_listOfS (hh : Has H L) (hp : SqL K H p xs) (q : ∀ p H', Has H' ([(p, .lst xs)] :: L) → Q (.ref p) H') : rListOf K [.ref p] H Q := ⟨p, xs, rfl, .inl hp, fun l hl => q l _ (hh.nw hl)⟩
def rDictP (K : PySem.W.Frag) : List V → Hp → VK → Prop := fun xs H Q => ∃ (a : Addr) (ps : List Addr) (kvs : List (Key × V)), xs = [.ref a] ∧ SqL K H a (ps.map V.ref) ∧ Paired (fun p kv => SqT K H p [kV kv.1, kv.2]) ps kvs ∧
    ∀ p, H p = none → Q (.ref p) (upd H p (.dK (mergeK [] kvs)))
theorem call_dictPr {X : Cx} (hc : X.calm = true) : CallR X (.type "dict") (rDictP X.K) := call_dictP hc
theorem k_sortI {ns : List Int} (hh : Has H L) (hp : H p = some (.lst (ns.map V.int))) (q : ∀ (ys : List Int) p H', ys.Perm ns → ys.Pairwise (· ≤ ·) → Has H' ([(p, .lst (ys.map V.int))] :: L) → Q (.ref p) H') : rSortedI K [.ref p] H Q :=
  ⟨p, ns, rfl, SqL.of hp, fun ys l h1 h2 hl => q ys l _ h1 h2 (hh.nw hl)⟩
/-! ### own calls -/
theorem x_call {sp : Sp} {dvs : List V} {E : XK} (q : tr σ H fun vs H1 => sp (vs ++ dvs) H1 Q E) : tCall sp dvs E tr σ H Q := q
theorem x_call0 {sp : Sp} {E : XK} (q : tr σ H fun vs H1 => sp vs H1 Q E) : tCall sp [] E tr σ H Q := by
  have e : (fun vs H1 => sp (vs ++ []) H1 Q E) = fun vs H1 => sp vs H1 Q E := by funext vs H1; rw [List.append_nil]
  show tr σ H fun vs H1 => sp (vs ++ []) H1 Q E
  rw [e]
  exact q
def kMeth (C : Addr) (m : Str) (sp : Sp) (dvs : List V) (E : XK) (t : TA) (σ : St) (x : V) (H1 : Hp) (Q : VK) : Prop := ∃ a dx fs, x = .ref a ∧ H1 a = some (.ins C dx fs) ∧ fs.lookup m = none ∧ t σ H1 fun vs H2 => sp (x :: (vs ++ dvs)) H2 Q E
theorem x_meth {m : Str} {sp : Sp} {dvs : List V} {E : XK} (q : ta σ H fun x H1 => kMeth C m sp dvs E tr σ x H1 Q) : tMeth C m sp dvs E ta tr σ H Q := q
theorem k_meth {m : Str} {sp : Sp} {dvs : List V} {E : XK} (hp : H a = some (.ins C dx fs)) (hl : fs.lookup m = none) (q : tr σ H fun vs H2 => sp (.ref a :: (vs ++ dvs)) H2 Q E) : kMeth C m sp dvs E tr σ (.ref a) H Q := ⟨a, dx, fs, rfl, hp, hl, q⟩
theorem k_meth0 {m : Str} {sp : Sp} {E : XK} (hp : H a = some (.ins C dx fs)) (hl : fs.lookup m = none) (q : tr σ H fun vs H2 => sp (.ref a :: vs) H2 Q E) : kMeth C m sp [] E tr σ (.ref a) H Q := by
  have e : (fun vs H2 => sp (.ref a :: (vs ++ [])) H2 Q E) = fun vs H2 => sp (.ref a :: vs) H2 Q E := by funext vs H1; rw [List.append_nil]
  refine ⟨a, dx, fs, rfl, hp, hl, ?_⟩
  rw [e]
  exact q
def kMake (C : Addr) (sp : Sp) (dvs : List V) (E : XK) (vs : List V) (H1 : Hp) (Q : VK) : Prop := ∀ x dx, H1 x = none → H1 dx = none → dx ≠ x → sp (.ref x :: (vs ++ dvs)) (upd (upd H1 dx (.own x)) x (.ins C dx [])) (fun v H2 => v = .non ∧ Q (.ref x) H2) E
theorem x_make {sp : Sp} {dvs : List V} {E : XK} (q : tr σ H fun vs H1 => kMake C sp dvs E vs H1 Q) : tMake C sp dvs E tr σ H Q := q
theorem k_make {sp : Sp} {dvs vs : List V} {E : XK} (hh : Has H L) (q : ∀ x dx H', Has H' ([(x, .ins C dx [])] :: L) → sp (.ref x :: (vs ++ dvs)) H' (fun v H2 => v = .non ∧ Q (.ref x) H2) E) : kMake C sp dvs E vs H Q :=
  fun x dx hx hd ne => q x dx _ ((hh.nw hd (o := .own x)).nw (p := x) (o := .ins C dx []) (by rw [upd_ne (Ne.symm ne)]; exact hx) |>.sub (Sub.p0 (Sub.skip Sub.rf)))
theorem k_make0 {sp : Sp} {vs : List V} {E : XK} (hh : Has H L) (q : ∀ x dx H', Has H' ([(x, .ins C dx [])] :: L) → sp (.ref x :: vs) H' (fun v H2 => v = .non ∧ Q (.ref x) H2) E) : kMake C sp [] E vs H Q :=
  k_make hh (by rw [List.append_nil]; exact q)
/-! ### dicts with int keys, with keys that are pairs of ints -/
section
variable {κ κ' : Type} [DecidableEq κ] [DecidableEq κ']
def mk (g : κ → κ') (m : List (κ × V)) : List (κ' × V) := m.map fun p => (g p.1, p.2)
theorem mk_len (g : κ → κ') (m : List (κ × V)) : (mk g m).length = m.length := List.length_map ..
theorem mk_keys (g : κ → κ') (m : List (κ × V)) : (mk g m).map (·.1) = (m.map (·.1)).map g := by
  unfold mk
  rw [List.map_map, List.map_map]
  rfl
theorem mk_val {g : κ → κ'} (hg : ∀ a b, g a = g b → a = b) (m : List (κ × V)) (k : κ) : valV (mk g m) (g k) = valV m k := by
  induction m with
  | nil => rfl
  | cons p r ih =>
    show valV ((g p.1, p.2) :: mk g r) (g k) = _
    by_cases h : p.1 = k
    · rw [valV_pos (p := (g p.1, p.2)) (congrArg g h), valV_pos h]
    · rw [valV_neg (p := (g p.1, p.2)) (fun q => h (hg _ _ q)), valV_neg h, ih]
theorem mk_drop {g : κ → κ'} (hg : ∀ a b, g a = g b → a = b) (m : List (κ × V)) (k : κ) : dropK (mk g m) (g k) = mk g (dropK m k) := by
  induction m with
  | nil => rfl
  | cons p r ih =>
    show dropK ((g p.1, p.2) :: mk g r) (g k) = _
    by_cases h : p.1 = k
    · rw [dropK_pos (p := (g p.1, p.2)) (congrArg g h), dropK_pos h, ih]
    · rw [dropK_neg (p := (g p.1, p.2)) (fun q => h (hg _ _ q)), dropK_neg h, ih]
      rfl
theorem mk_any {g : κ → κ'} (hg : ∀ a b, g a = g b → a = b) (m : List (κ × V)) (k : κ) : ((mk g m).any fun kv => decide (kv.1 = g k)) = m.any fun kv => decide (kv.1 = k) := by
  rw [valV_any, valV_any, mk_val hg]
theorem mk_put {g : κ → κ'} (hg : ∀ a b, g a = g b → a = b) (m : List (κ × V)) (k : κ) (v : V) : putK (mk g m) (g k) v = mk g (putK m k v) := by
  unfold putK
  rw [mk_any hg]
  split
  · unfold mk
    rw [List.map_map, List.map_map]
    refine List.map_congr_left fun p _ => ?_
    show (if g p.1 = g k then (g p.1, v) else (g p.1, p.2)) = _
    by_cases h : p.1 = k
    · rw [if_pos (congrArg g h)]
      show _ = (g (if p.1 = k then (p.1, v) else p).1, (if p.1 = k then (p.1, v) else p).2)
      rw [if_pos h]
    · rw [if_neg (fun q => h (hg _ _ q))]
      show _ = (g (if p.1 = k then (p.1, v) else p).1, (if p.1 = k then (p.1, v) else p).2)
      rw [if_neg h]
  · unfold mk
    rw [List.map_append]
    rfl
end
def g1 : Int → Key := Sum.inl
def g2 (p : Int × Int) : List Key := [Sum.inl p.1, Sum.inl p.2]
theorem g1_inj : ∀ a b, g1 a = g1 b → a = b := fun _ _ h => Sum.inl.inj h
theorem g2_inj : ∀ a b, g2 a = g2 b → a = b := fun a b h => by
  obtain ⟨a1, a2⟩ := a
  obtain ⟨b1, b2⟩ := b
  unfold g2 at h
  simp only [List.cons.injEq, Sum.inl.injEq, and_true] at h
  rw [h.1, h.2]
abbrev dI (m : List (Int × V)) : HO := .dK (mk g1 m)
abbrev dP (m : List ((Int × Int) × V)) : HO := .dT (mk g2 m)
def kDGet (x y : V) (H2 : Hp) (Q : VK) : Prop := ∃ a v, x = .ref a ∧ DGet H2 a y (some v) ∧ Q v H2
theorem x_dget (q : td σ H fun x H1 => ty σ H1 fun y H2 => kDGet x y H2 Q) : tDGet td ty σ H Q := q
theorem dget_I {mm : List (Int × V)} (hp : H a = some (dI mm)) : DGet H a (.int i) (valV mm i) := by
  rw [← mk_val g1_inj mm i]
  exact DGet.k (k := g1 i) hp
theorem dget_P {mm : List ((Int × Int) × V)} (hp : H a = some (dP mm)) (hb : H b = some (.tup [.int i, .int j])) : DGet H a (.ref b) (valV mm (i, j)) := by
  rw [← mk_val g2_inj mm (i, j)]
  exact DGet.t (k := g2 (i, j)) hp hb
theorem k_dget {mm : List (Int × V)} (hp : H a = some (dI mm)) (hv : valV mm i = some v) (q : Q v H) : kDGet (.ref a) (.int i) H Q := ⟨a, v, rfl, hv ▸ dget_I hp, q⟩
theorem k_dgetP {mm : List ((Int × Int) × V)} (hp : H a = some (dP mm)) (hb : H b = some (.tup [.int i, .int j])) (hv : valV mm (i, j) = some v) (q : Q v H) : kDGet (.ref a) (.ref b) H Q := ⟨a, v, rfl, hv ▸ dget_P hp hb, q⟩
def kDIn (y x : V) (H2 : Hp) (Q : VK) : Prop := ∃ a o, x = .ref a ∧ DGet H2 a y o ∧ Q (.bl o.isSome) H2
def kDNot (y x : V) (H2 : Hp) (Q : VK) : Prop := ∃ a o, x = .ref a ∧ DGet H2 a y o ∧ Q (.bl (!o.isSome)) H2
theorem x_din (q : ty σ H fun y H1 => td σ H1 fun x H2 => kDIn y x H2 Q) : tDIn ty td σ H Q := q
theorem x_dnot (q : ty σ H fun y H1 => td σ H1 fun x H2 => kDNot y x H2 Q) : tDNotIn ty td σ H Q := q
theorem k_din {mm : List (Int × V)} (hp : H a = some (dI mm)) (q : Q (.bl (valV mm i).isSome) H) : kDIn (.int i) (.ref a) H Q := ⟨a, _, rfl, dget_I hp, q⟩
theorem k_dnot {mm : List (Int × V)} (hp : H a = some (dI mm)) (q : Q (.bl (!(valV mm i).isSome)) H) : kDNot (.int i) (.ref a) H Q := ⟨a, _, rfl, dget_I hp, q⟩
theorem k_dinP {mm : List ((Int × Int) × V)} (hp : H a = some (dP mm)) (hb : H b = some (.tup [.int i, .int j])) (q : Q (.bl (valV mm (i, j)).isSome) H) : kDIn (.ref b) (.ref a) H Q := ⟨a, _, rfl, dget_P hp hb, q⟩
theorem k_dnotP {mm : List ((Int × Int) × V)} (hp : H a = some (dP mm)) (hb : H b = some (.tup [.int i, .int j])) (q : Q (.bl (!(valV mm (i, j)).isSome)) H) : kDNot (.ref b) (.ref a) H Q := ⟨a, _, rfl, dget_P hp hb, q⟩
def kDPut (nx : St → Hp → Prop) (σ : St) (v x y : V) (H3 : Hp) : Prop := ∃ a H4, x = .ref a ∧ DPut H3 a y v H4 ∧ nx σ H4
theorem x_dput (q : tv σ H fun v H1 => td σ H1 fun x H2 => ty σ H2 fun y H3 => kDPut nx σ v x y H3) : sDPut td ty tv ⟨nx, rt, bk, ct⟩ σ H := q
theorem k_dput {mm : List (Int × V)} {M : List U} (hp : H a = some (dI mm)) (hl : mm.length < sizeLine) (hh : Has (upd H a (dI (putK mm i v))) M) (q : ∀ H', Has H' M → nx σ H') : kDPut nx σ v (.ref a) (.int i) H := by
  refine ⟨a, _, rfl, DPut.k (k := g1 i) hp (by rw [mk_len]; exact hl), ?_⟩
  rw [mk_put g1_inj]
  exact q _ hh
theorem k_dputP {mm : List ((Int × Int) × V)} {M : List U} (hp : H a = some (dP mm)) (hb : H b = some (.tup [.int i, .int j])) (hl : mm.length < sizeLine) (hh : Has (upd H a (dP (putK mm (i, j) v))) M) (q : ∀ H', Has H' M → nx σ H') : kDPut nx σ v (.ref a) (.ref b) H := by
  refine ⟨a, _, rfl, DPut.t (k := g2 (i, j)) hp hb (by rw [mk_len]; exact hl), ?_⟩
  rw [mk_put g2_inj]
  exact q _ hh
def kIsD (x : V) (H1 : Hp) (F : Addr → Prop) : Prop := ∃ a, x = .ref a ∧ IsD H1 a ∧ F a
theorem k_isD {kvs : List (Key × V)} {F : Addr → Prop} (hp : H a = some (.dK kvs)) (q : F a) : kIsD (.ref a) H F := ⟨a, rfl, .inl ⟨kvs, .inl hp⟩, q⟩
theorem k_isDT {kvs : List (List Key × V)} {F : Addr → Prop} (hp : H a = some (.dT kvs)) (q : F a) : kIsD (.ref a) H F := ⟨a, rfl, .inr ⟨kvs, .inl hp⟩, q⟩
def kDPop (a : Addr) (y : V) (H2 : Hp) (Q : VK) : Prop := ∃ kvs k v, H2 a = some (.dK kvs) ∧ y = kV k ∧ valV kvs k = some v ∧ Q v (upd H2 a (.dK (dropK kvs k)))
theorem x_dpop1 (q : td σ H fun x H1 => kIsD x H1 fun a => ty σ H1 fun y H2 => kDPop a y H2 Q) : tDPop1 td ty σ H Q := q
theorem k_dpop1 {mm : List (Int × V)} {M : List U} (hp : H a = some (dI mm)) (hv : valV mm i = some v) (hh : Has (upd H a (dI (dropK mm i))) M) (q : ∀ H', Has H' M → Q v H') : kDPop a (.int i) H Q := by
  refine ⟨_, g1 i, v, hp, rfl, by rw [mk_val g1_inj]; exact hv, ?_⟩
  rw [mk_drop g1_inj]
  exact q _ hh
def kDGet2 (a : Addr) (y z : V) (H3 : Hp) (Q : VK) : Prop := ∃ o, DGet H3 a y o ∧ Q (o.getD z) H3
theorem x_dget2 (q : td σ H fun x H1 => kIsD x H1 fun a => ty σ H1 fun y H2 => tx σ H2 fun z H3 => kDGet2 a y z H3 Q) : tDGet2 td ty tx σ H Q := q
theorem k_dget2 {mm : List (Int × V)} (hp : H a = some (dI mm)) (q : Q ((valV mm i).getD z) H) : kDGet2 a (.int i) z H Q := ⟨_, dget_I hp, q⟩
theorem k_dget2P {mm : List ((Int × Int) × V)} (hp : H a = some (dP mm)) (hb : H b = some (.tup [.int i, .int j])) (q : Q ((valV mm (i, j)).getD z) H) : kDGet2 a (.ref b) z H Q := ⟨_, dget_P hp hb, q⟩
def kDGet1 (a : Addr) (y : V) (H3 : Hp) (Q : VK) : Prop := ∃ o, DGet H3 a y o ∧ Q (o.getD .non) H3
theorem x_dget1 (q : td σ H fun x H1 => kIsD x H1 fun a => ty σ H1 fun y H2 => kDGet1 a y H2 Q) : tDGet1 td ty σ H Q := q
theorem k_dget1 {mm : List (Int × V)} (hp : H a = some (dI mm)) (q : Q ((valV mm i).getD .non) H) : kDGet1 a (.int i) H Q := ⟨_, dget_I hp, q⟩
theorem x_dnewK (hh : Has H L) (q : ∀ p H', Has H' ([(p, dI [])] :: L) → Q (.ref p) H') : tDNewK σ H Q := fun p hp => q p _ (hh.nw hp)
theorem x_dnewT (hh : Has H L) (q : ∀ p H', Has H' ([(p, dP [])] :: L) → Q (.ref p) H') : tDNewT σ H Q := fun p hp => q p _ (hh.nw hp)
theorem k_sortD {mm : List (Int × V)} (hh : Has H L) (hp : H p = some (dI mm)) (hl : mm.length < 64) (q : ∀ (ys : List Int) p H', ys.Perm (mm.map (·.1)) → ys.Pairwise (· ≤ ·) → Has H' ([(p, .lst (ys.map V.int))] :: L) → Q (.ref p) H') : rSortD [.ref p] H Q :=
  ⟨p, _, mm.map (fun (x : Int × V) => x.1), rfl, .inl hp, (by have e := mk_keys g1 mm; exact e), by rw [List.length_map]; exact hl, fun ys l h1 h2 hl => q ys l _ h1 h2 (hh.nw hl)⟩
/-! ### == of data -/
theorem dpAll_ints (ns : List Int) : DpAll K H (ns.map V.int) (ns.map PyData.int) := by
  induction ns with
  | nil => exact .nil
  | cons n r ih => exact .cons (.int n) ih
theorem eqv_ints (ns : List Int) : ∀ ms : List Int, PyData.eqv (.list (ns.map PyData.int)) (.list (ms.map PyData.int)) = decide (ns = ms) := by
  induction ns with
  | nil =>
    intro ms
    cases ms with
    | nil => rfl
    | cons m r => rfl
  | cons n r ih =>
    intro ms
    cases ms with
    | nil => rfl
    | cons m s =>
      have h := ih s
      simp [PyData.eqv, PyData.eqvAll] at h ⊢
      rw [h]
      by_cases e1 : n = m
      · subst e1; by_cases e2 : r = s <;> simp [e2]
      · simp [e1]
theorem lay_ints (ns : List Int) : PyData.canLayAll0 (ns.map PyData.int) = true := by
  induction ns with
  | nil => simp [PyData.canLayAll0]
  | cons n r ih => simp [PyData.canLayAll0, PyData.canLay0, ih]
theorem deep_ints (ns : List Int) : PyData.depthAll (ns.map PyData.int) ≤ 1 := by
  induction ns with
  | nil => simp [PyData.depthAll]
  | cons n r ih => simp [PyData.depthAll, PyData.depth, ih]
theorem shaped_ints (ns : List Int) : SeqAt.shaped (.list (ns.map PyData.int)) = true := by
  have h := deep_ints ns
  simp [SeqAt.shaped, PyData.canLay0, lay_ints, PyData.depth]
  omega
theorem k_eqLI {ns ms : List Int} (hp : H a = some (.lst (ns.map V.int))) (hq : H b = some (.lst (ms.map V.int))) (q : Q (.bl (decide (ns = ms))) H) : rEqD K (.ref a) (.ref b) H Q :=
  ⟨_, _, .lst (SqL.of hp) (dpAll_ints ns), .lst (SqL.of hq) (dpAll_ints ms), shaped_ints ns, shaped_ints ms, by rw [eqv_ints]; exact q⟩
theorem k_neLI {ns ms : List Int} (hp : H a = some (.lst (ns.map V.int))) (hq : H b = some (.lst (ms.map V.int))) (q : Q (.bl (!decide (ns = ms))) H) : rNeD K (.ref a) (.ref b) H Q :=
  ⟨_, _, .lst (SqL.of hp) (dpAll_ints ns), .lst (SqL.of hq) (dpAll_ints ms), shaped_ints ns, shaped_ints ms, by rw [eqv_ints]; exact q⟩
theorem k_eqLN {ns : List Int} (hp : H a = some (.lst (ns.map V.int))) (hq : H b = some (.lst [])) (q : Q (.bl (decide (ns = []))) H) : rEqD K (.ref a) (.ref b) H Q := k_eqLI (ms := []) hp hq q
theorem k_neLN {ns : List Int} (hp : H a = some (.lst (ns.map V.int))) (hq : H b = some (.lst [])) (q : Q (.bl (!decide (ns = []))) H) : rNeD K (.ref a) (.ref b) H Q := k_neLI (ms := []) hp hq q
/-! ### loops -/
def kForR (k : Nat) (tb : TS) (nx : St → Hp → Prop) (rt : VK) (σ : St) (vs : List V) (H1 : Hp) : Prop := ∃ j : Int, vs = [.int j] ∧ -(2 ^ 62) ≤ j ∧ j < 2 ^ 62 ∧ ∃ W : Nat → Nat → St → Hp → Prop, (∃ m, W 0 m σ H1) ∧ ∀ i m σ H, W i m σ H →
  ((Itr 0 j.toNat).stop i H ∧ nx σ H) ∨ ((Itr 0 j.toNat).go i H ∧ ∃ N : St → Hp → Prop, (∀ σ' H', N σ' H' → ∃ m', m' < m ∧ W (i + 1) m' σ' H') ∧ ∀ x H', (Itr 0 j.toNat).yld i H x H' → gName k x σ H' fun σ2 H2 => tb ⟨N, rt, nx, N⟩ σ2 H2)
theorem x_forR {k : Nat} (q : tr σ H fun vs H1 => kForR k s1 nx rt σ vs H1) : tFor (iRng1 tr) (gName k) s1 ⟨nx, rt, bk, ct⟩ σ H := q
theorem k_forR {k : Nat} (Pv : Nat → St → Hp → Prop) (h0 : Pv 0 σ H) (hn : 0 ≤ n ∧ n ≤ 100000) (hs : ∀ (i : Nat) σ H, (i : Int) < n → Pv i σ H → s1 ⟨Pv (i + 1), rt, nx, Pv (i + 1)⟩ (σ.set k (some (.int i))) H) (hd : ∀ σ H, Pv n.toNat σ H → nx σ H) : kForR k s1 nx rt σ [.int n] H := by
  refine ⟨n, rfl, by omega, by omega, for_range (g := gName k) (tb := s1) (D := ⟨nx, rt, fun _ _ => False, fun _ _ => False⟩) Pv h0 (fun i σ' H' hi p => ?_) hd⟩
  show s1 ⟨Pv (i + 1), rt, nx, Pv (i + 1)⟩ (σ'.set k (some (.int (0 + (i : Int))))) H'
  rw [Int.zero_add]
  exact hs i σ' H' (by omega) p
def kForL (K : PySem.W.Frag) (g : TG) (tb : TS) (nx : St → Hp → Prop) (rt : VK) (σ : St) (x : V) (H1 : Hp) : Prop := ∃ a, x = .ref a ∧ (∃ xs, SqL K H1 a xs) ∧ ∃ W : Nat → Nat → St → Hp → Prop, (∃ m, W 0 m σ H1) ∧ ∀ i m σ H, W i m σ H →
  ((Itl K a).stop i H ∧ nx σ H) ∨ ((Itl K a).go i H ∧ ∃ N : St → Hp → Prop, (∀ σ' H', N σ' H' → ∃ m', m' < m ∧ W (i + 1) m' σ' H') ∧ ∀ x H', (Itl K a).yld i H x H' → g x σ H' fun σ2 H2 => tb ⟨N, rt, nx, N⟩ σ2 H2)
theorem x_forL {g : TG} (q : te σ H fun x H1 => kForL K g s1 nx rt σ x H1) : tFor (iList K te) g s1 ⟨nx, rt, bk, ct⟩ σ H := q
theorem k_forL {g : TG} (Pv : Nat → St → Hp → Prop) (hp : H a = some (.lst xs)) (h0 : Pv 0 σ H) (hl : ∀ i σ H, Pv i σ H → H a = some (.lst xs)) (hs : ∀ (i : Nat) x σ H, xs[i]? = some x → Pv i σ H → g x σ H fun σ2 H2 => s1 ⟨Pv (i + 1), rt, nx, Pv (i + 1)⟩ σ2 H2) (hd : ∀ σ H, Pv xs.length σ H → nx σ H) : kForL K g s1 nx rt σ (.ref a) H :=
  ⟨a, rfl, ⟨xs, SqL.of hp⟩, for_list (K := K) (xs := xs) (tb := s1) (D := ⟨nx, rt, fun _ _ => False, fun _ _ => False⟩) Pv h0 (fun i σ H _ p => SqL.of (hl i σ H p)) hs hd⟩
/-! ### comprehensions -/
def kLc (g : TG) (tt : TT) (te : TE) (vs : List Nat) (σ : St) (J : It) (H1 : Hp) (Q : VK) : Prop := ∀ D, H1 D = none → ∃ W : Nat → Nat → Hp → Prop, (∃ m, W 0 m (upd H1 D (.lst []))) ∧ ∀ i m H, W i m H →
  (J.stop i H ∧ Q (.ref D) H) ∨ (J.go i H ∧ ∃ Nx : Hp → Prop, (∀ H', Nx H' → ∃ m', m' < m ∧ W (i + 1) m' H') ∧ ∀ x H', J.yld i H x H' → g x (wipe σ vs) H' fun σ2 H2 => wipe σ2 vs = wipe σ vs ∧ tt σ2 H2 fun b H3 =>
    if b = true then te σ2 H3 fun y H4 => ∃ acc, H4 D = some (.lst acc) ∧ acc.length < sizeLine ∧ Nx (upd H4 D (.lst (acc ++ [y]))) else Nx H3)
/-- what a comprehension's turn wants behind its element y: the list at D one longer, and J of that -/
def kAdd (D : Addr) (Nx : Hp → Prop) (y : V) (H4 : Hp) : Prop := ∃ acc, H4 D = some (.lst acc) ∧ acc.length < sizeLine ∧ Nx (upd H4 D (.lst (acc ++ [y])))
theorem k_add {Nx : Hp → Prop} {M : List U} (hp : H p = some (.lst xs)) (hl : xs.length < sizeLine) (hh : Has (upd H p (.lst (xs ++ [y]))) M) (q : ∀ H', Has H' M → Nx H') : kAdd p Nx y H := ⟨xs, hp, hl, q _ hh⟩
def kLcL (K : PySem.W.Frag) (g : TG) (tt : TT) (te : TE) (vs : List Nat) (σ : St) (x : V) (H1 : Hp) (Q : VK) : Prop := ∃ a, x = .ref a ∧ (∃ xs, SqL K H1 a xs) ∧ kLc g tt te vs σ (Itl K a) H1 Q
theorem x_lcL {g : TG} {tt : TT} {vs : List Nat} (q : ta σ H fun x H1 => kLcL K g tt te vs σ x H1 Q) : tLc (iList K ta) g tt te vs σ H Q := q
theorem k_lcL {g : TG} {tt : TT} {vs : List Nat} (hh : Has H L) (Pv : Addr → Nat → Hp → Prop) (hp : H a = some (.lst xs)) (h0 : ∀ D H', Has H' ([(D, .lst [])] :: L) → Pv D 0 H') (hl : ∀ D i H, Pv D i H → H a = some (.lst xs))
    (hs : ∀ D i x H, xs[i]? = some x → Pv D i H → g x (wipe σ vs) H fun σ2 H2 => wipe σ2 vs = wipe σ vs ∧ tt σ2 H2 fun b H3 => if b = true then te σ2 H3 (kAdd D (Pv D (i + 1))) else Pv D (i + 1) H3)
    (hd : ∀ D H, Pv D xs.length H → Q (.ref D) H) : kLcL K g tt te vs σ (.ref a) H Q :=
  ⟨a, rfl, ⟨xs, SqL.of hp⟩, fun D hD => lc_list (K := K) (xs := xs) (Pv D) (h0 D _ (hh.nw hD)) (fun i H _ p => SqL.of (hl D i H p)) (fun i x H hi p => hs D i x H hi p) fun H p => hd D H p⟩
def kLcR (g : TG) (tt : TT) (te : TE) (vs : List Nat) (σ : St) (us : List V) (H1 : Hp) (Q : VK) : Prop := ∃ j : Int, us = [.int j] ∧ -(2 ^ 62) ≤ j ∧ j < 2 ^ 62 ∧ kLc g tt te vs σ (Itr 0 j.toNat) H1 Q
theorem x_lcR {g : TG} {tt : TT} {vs : List Nat} (q : tr σ H fun us H1 => kLcR g tt te vs σ us H1 Q) : tLc (iRng1 tr) g tt te vs σ H Q := q
theorem k_lcR {k : Nat} {tt : TT} {vs : List Nat} (hh : Has H L) (Pv : Addr → Nat → Hp → Prop) (hn : 0 ≤ n ∧ n ≤ 100000) (h0 : ∀ D H', Has H' ([(D, .lst [])] :: L) → Pv D 0 H')
    (hs : ∀ D (i : Nat) H, (i : Int) < n → Pv D i H → gName k (.int i) (wipe σ vs) H fun σ2 H2 => wipe σ2 vs = wipe σ vs ∧ tt σ2 H2 fun b H3 => if b = true then te σ2 H3 (kAdd D (Pv D (i + 1))) else Pv D (i + 1) H3)
    (hd : ∀ D H, Pv D n.toNat H → Q (.ref D) H) : kLcR (gName k) tt te vs σ [.int n] H Q :=
  ⟨n, rfl, by omega, by omega, fun D hD => lc_range (lo := 0) (Pv D) (h0 D _ (hh.nw hD)) (fun i H hi p => by
    have q := hs D i H (by omega) p
    rw [← Int.zero_add (i : Int)] at q
    exact q) fun H p => hd D H p⟩
theorem filt_true {α : Type} (l : List α) : l.filter (fun _ => true) = l := List.filter_eq_self.mpr fun _ _ => rfl
/-- [h z for z in zs if c z], the source a list that stands in L; the test and the element may lay new things, which are let go -/
theorem k_lcF {α : Type} {k : Nat} {tt : TT} (zs : List α) (g h : α → V) (c : α → Bool) (hh : Has H L) (ha : ∀ H', Has H' L → H' a = some (.lst (zs.map g))) (hz : zs.length ≤ 100000)
    (ht : ∀ z ∈ zs, ∀ D M H' (Q' : Bool → Hp → Prop), Has H' ([(D, .lst M)] :: L) → (∀ H'', Has H'' ([(D, .lst M)] :: L) → Q' (c z) H'') → tt ((wipe σ [k]).set k (some (g z))) H' Q')
    (hs : ∀ z ∈ zs, c z = true → ∀ D M H' (Q' : VK), Has H' ([(D, .lst M)] :: L) → (∀ H'', Has H'' ([(D, .lst M)] :: L) → Q' (h z) H'') → te ((wipe σ [k]).set k (some (g z))) H' Q')
    (q : ∀ D H', Has H' ([(D, .lst ((zs.filter c).map h))] :: L) → Q (.ref D) H') : kLcL K (gName k) tt te [k] σ (.ref a) H Q := by
  have hw : ∀ x, wipe ((wipe σ [k]).set k (some x)) [k] = wipe σ [k] := fun x => by
    show ((σ.set k none).set k (some x)).set k none = σ.set k none
    rw [List.set_set, List.set_set]
  refine k_lcL (L := L) hh (fun D i H' => Has H' ([(D, .lst (((zs.take i).filter c).map h))] :: L)) (ha H hh) (fun D H' h' => h') (fun D i H' h' => ha H' (h'.sub (Sub.skip Sub.rf))) (fun D i x H' hi h' => ?_) (fun D H' h' => ?_)
  · rw [List.getElem?_map] at hi
    obtain ⟨z, hz1, rfl⟩ := Option.map_eq_some_iff.mp hi
    have hm : z ∈ zs := List.mem_of_getElem? hz1
    have et : zs.take (i + 1) = zs.take i ++ [z] := by rw [List.take_add_one, hz1]; rfl
    refine ⟨hw _, ht z hm D _ H' _ h' fun H2 h2 => ?_⟩
    refine ifB (fun e => ?_) (fun e => ?_)
    · refine hs z hm e D _ H2 _ h2 fun H3 h3 => ?_
      refine ⟨_, h3.g0, ?_, ?_⟩
      · rw [sizeLine_eq, List.length_map]
        have l1 := List.length_filter_le c (zs.take i)
        have l2 := List.length_take_le i zs
        have l3 := List.length_take_le' i zs
        omega
      · rw [et, List.filter_append, List.map_append, List.filter_cons, if_pos e]
        exact h3.s0
    · rw [et, List.filter_append, List.filter_cons, if_neg (by rw [e]; decide)]
      simpa using h2
  · rw [List.length_map, List.take_length] at h'
    exact q D H' h'
theorem k_lcM {α : Type} {k : Nat} (zs : List α) (g h : α → V) (hh : Has H L) (ha : ∀ H', Has H' L → H' a = some (.lst (zs.map g))) (hz : zs.length ≤ 100000)
    (hs : ∀ z ∈ zs, ∀ D M H' (Q' : VK), Has H' ([(D, .lst M)] :: L) → (∀ H'', Has H'' ([(D, .lst M)] :: L) → Q' (h z) H'') → te ((wipe σ [k]).set k (some (g z))) H' Q')
    (q : ∀ D H', Has H' ([(D, .lst (zs.map h))] :: L) → Q (.ref D) H') : kLcL K (gName k) tYes te [k] σ (.ref a) H Q :=
  k_lcF zs g h (fun _ => true) hh ha hz (fun z _ D M H' Q' h' q' => q' H' h') (fun z hm _ => hs z hm) fun D H' h' => q D H' (by rw [filt_true] at h'; exact h')
/-- [h i for i in range(n) if c i] -/
theorem k_lcRF {k : Nat} {tt : TT} (h : Int → V) (c : Int → Bool) (hh : Has H L) (hn : 0 ≤ n ∧ n ≤ 100000)
    (ht : ∀ z : Int, 0 ≤ z → z < n → ∀ D M H' (Q' : Bool → Hp → Prop), Has H' ([(D, .lst M)] :: L) → (∀ H'', Has H'' ([(D, .lst M)] :: L) → Q' (c z) H'') → tt ((wipe σ [k]).set k (some (.int z))) H' Q')
    (hs : ∀ z : Int, 0 ≤ z → z < n → c z = true → ∀ D M H' (Q' : VK), Has H' ([(D, .lst M)] :: L) → (∀ H'', Has H'' ([(D, .lst M)] :: L) → Q' (h z) H'') → te ((wipe σ [k]).set k (some (.int z))) H' Q')
    (q : ∀ D H', Has H' ([(D, .lst (((rgI n).filter c).map h))] :: L) → Q (.ref D) H') : kLcR (gName k) tt te [k] σ [.int n] H Q := by
  have hw : ∀ x, wipe ((wipe σ [k]).set k (some x)) [k] = wipe σ [k] := fun x => by
    show ((σ.set k none).set k (some x)).set k none = σ.set k none
    rw [List.set_set, List.set_set]
  refine k_lcR (L := L) hh (fun D i H' => Has H' ([(D, .lst (((rgI i).filter c).map h))] :: L)) hn (fun D H' h' => h') (fun D i H' hi h' => ?_) (fun D H' h' => ?_)
  · have et : rgI ((i + 1 : Nat) : Int) = rgI i ++ [(i : Int)] := by
      unfold rgI
      rw [Int.toNat_natCast, Int.toNat_natCast, List.range_succ, List.map_append]
      rfl
    have lr : (rgI (i : Int)).length = i := by rw [rgI_len, Int.toNat_natCast]
    refine ⟨hw _, ht i (by omega) hi D _ H' _ h' fun H2 h2 => ?_⟩
    refine ifB (fun e => ?_) (fun e => ?_)
    · refine hs i (by omega) hi e D _ H2 _ h2 fun H3 h3 => ?_
      refine ⟨_, h3.g0, ?_, ?_⟩
      · rw [sizeLine_eq, List.length_map]
        have l1 := List.length_filter_le c (rgI i)
        omega
      · rw [et, List.filter_append, List.map_append, List.filter_cons, if_pos e]
        exact h3.s0
    · rw [et, List.filter_append, List.filter_cons, if_neg (by rw [e]; decide)]
      simpa using h2
  · rw [Int.toNat_of_nonneg hn.1] at h'
    exact q D H' h'
theorem k_lcRM {k : Nat} (h : Int → V) (hh : Has H L) (hn : 0 ≤ n ∧ n ≤ 100000)
    (hs : ∀ z : Int, 0 ≤ z → z < n → ∀ D M H' (Q' : VK), Has H' ([(D, .lst M)] :: L) → (∀ H'', Has H'' ([(D, .lst M)] :: L) → Q' (h z) H'') → te ((wipe σ [k]).set k (some (.int z))) H' Q')
    (q : ∀ D H', Has H' ([(D, .lst ((rgI n).map h))] :: L) → Q (.ref D) H') : kLcR (gName k) tYes te [k] σ [.int n] H Q :=
  k_lcRF h (fun _ => true) hh hn (fun z _ _ D M H' Q' h' q' => q' H' h') (fun z h0 h1 _ => hs z h0 h1) fun D H' h' => q D H' (by rw [filt_true] at h'; exact h')
theorem x_yes (q : QT true H) : tYes σ H QT := q
end
end Sy
/-! More rules: C.f(..) of a def read off its class; comprehensions over dicts. -/
namespace Sy
open PySem PySem.Spec PyProof.Rows L2
def tCFn (C : Addr) (sp : Sp) (dvs : List V) (E : XK) (ta : TE) (t : TA) : TE := fun σ H Q => ta σ H fun x H1 => x = .ref C ∧ t σ H1 fun vs H2 => sp (vs ++ dvs) H2 Q E
/-- what the text must say of C.f, a def -/
structure CFn (K : PySem.W.Frag) (C : Addr) (mc : Value) (m : Str) (f : Addr) : Prop where
  rd : PySem.W.readsIn K C mc = true
  ga : PySem.W.specialIn K (.ref C) "__getattribute__" = some (some (.builtin "type.__getattribute__"))
  at_ : PySem.W.findCls K (.ref C) mc m = some (.val (.ref f))
  kp : PySem.W.keepIn K (.ref f) = true
section
variable {X : Cx} {CX : CXT} {k : Nat} {f C : Addr} {fd : FuncData} {ps : List Str} {sp : Sp} {dvs : List V} {ds : List Value} {E : XK} {m : Str} {pos apos : Pos} {e o : Expr} {es : List Expr} {ta : TE} {t : TA} {mc : Value}
theorem pe_cfn {pl : Sem Bool} (he : PE X o ta) (c : CFn X.K C mc m f) (F : FnOk X.prog X.w X.K X.mg X.base CX k f fd ps sp) (hr : Room k X.A) (hb : Binds X.K fd ps ds) (hd : Vals dvs ds) (hx : Passes CX X E) (ha : PA X (e :: es) t)
    (hst : starEach (e :: es) X.env = (false, eval e X.env) :: starEach es X.env := by rfl) (hpl : (backTo pos (starEach es X.env)).any (·.1) = false := by rfl)
    (ht : eval (.Call (.Attribute o m apos) (e :: es) [] pos) X.env = (do
      let ov ← eval o X.env
      standAt apos.atName
      let (f, first) ← holding [ov] (getMethod ov m pl)
      callWith pos f first (backTo pos (starEach (e :: es) X.env)) (backToKw pos (keywordEach [] X.env))) := by rfl) :
    PE X (.Call (.Attribute o m apos) (e :: es) [] pos) (tCFn C sp dvs E ta t) := by
  refine ⟨fun pins s σ H Q I h => ?_⟩
  refine PySem.W.methodCall_KW (pl := pl) (thn (he.run pins s σ H _ I h) fun u s1 ⟨x, H1, I1, rx, ex, q⟩ => ?_) ht
  subst ex
  obtain rfl : u = Value.ref C := rx
  refine PySem.W.method_cls I1.kIn c.ga (PySem.W.cls_value I1.kIn c.rd c.at_ rfl ?_)
  have I2 := I1.tok (s1.toks + 1)
  refine PySem.W.callWith_K (first := []) (h₀ := X.base) I.ok.mod.kin c.kp (thn (ha.run pos pins _ σ H1 _ I2 q) fun us s2 ⟨vs, H2, I3, r, q2⟩ => ⟨I3.kIn, ?_⟩) hst hpl
  exact run_fn F hr hb hd hx I3 r q2
end
end Sy
namespace Sy
open PySem L2
section
variable {K : PySem.W.Frag} {σ : St} {H H1 : Hp} {L : List U} {Q : VK} {ta td te : TE} {tr : TA} {v x y z : V} {xs ys : List V} {i j n m : Int} {a b d p : Addr} {C : Addr} {nx bk ct : St → Hp → Prop} {rt : VK} {s1 : TS} {A : Prop}
def kCFn (C : Addr) (sp : Sp) (dvs : List V) (E : XK) (t : TA) (σ : St) (x : V) (H1 : Hp) (Q : VK) : Prop := x = .ref C ∧ t σ H1 fun vs H2 => sp (vs ++ dvs) H2 Q E
theorem x_cfn {sp : Sp} {dvs : List V} {E : XK} (q : ta σ H fun x H1 => kCFn C sp dvs E tr σ x H1 Q) : tCFn C sp dvs E ta tr σ H Q := q
theorem k_cfn0 {sp : Sp} {E : XK} (q : tr σ H fun vs H2 => sp vs H2 Q E) : kCFn C sp [] E tr σ (.ref C) H Q := by
  have e : (fun vs H1 => sp (vs ++ []) H1 Q E) = fun vs H1 => sp vs H1 Q E := by funext vs H1; rw [List.append_nil]
  refine ⟨rfl, ?_⟩
  rw [e]
  exact q
/-! ### a dict while it is walked -/
theorem dget_F {o : Obj} {mm : List (Int × V)} (hp : H a = some (.frz o (dI mm))) : DGet H a (.int i) (valV mm i) := by
  rw [← mk_val g1_inj mm i]
  exact .inl ⟨_, g1 i, .inr ⟨o, hp⟩, rfl, rfl⟩
theorem k_dgetF {o : Obj} {mm : List (Int × V)} (hp : H a = some (.frz o (dI mm))) (hv : valV mm i = some v) (q : Q v H) : kDGet (.ref a) (.int i) H Q := ⟨a, v, rfl, hv ▸ dget_F hp, q⟩
/-- the keys of a locked dict, with a test and an element -/
theorem lc_keysF {k : Nat} {tt : TT} {o : Obj} {mm : List (Int × V)} (h : Int → V) (c : Int → Bool) (hh : Has H L) (hd : ∀ H', Has H' L → H' d = some (.frz o (dI mm))) (hz : mm.length ≤ 100000)
    (ht : ∀ z ∈ mm.map (·.1), ∀ D M H' (Q' : Bool → Hp → Prop), Has H' ([(D, .lst M)] :: L) → (∀ H'', Has H'' ([(D, .lst M)] :: L) → Q' (c z) H'') → tt ((wipe σ [k]).set k (some (.int z))) H' Q')
    (hs : ∀ z ∈ mm.map (·.1), c z = true → ∀ D M H' (Q' : VK), Has H' ([(D, .lst M)] :: L) → (∀ H'', Has H'' ([(D, .lst M)] :: L) → Q' (h z) H'') → te ((wipe σ [k]).set k (some (.int z))) H' Q')
    (q : ∀ D H', Has H' ([(D, .lst (((mm.map (·.1)).filter c).map h))] :: L) → Q (.ref D) H') : kLc (gName k) tt te [k] σ (Itk d o (mk g1 mm)) H Q := by
  have hw : ∀ x, wipe ((wipe σ [k]).set k (some x)) [k] = wipe σ [k] := fun x => by
    show ((σ.set k none).set k (some x)).set k none = σ.set k none
    rw [List.set_set, List.set_set]
  intro D hD
  have hl : (mk g1 mm).length = mm.length := mk_len _ _
  refine ⟨fun i m H' => m = mm.length - i ∧ i ≤ mm.length ∧ Has H' ([(D, .lst ((((mm.map (·.1)).take i).filter c).map h))] :: L), ⟨mm.length, by simp, Nat.zero_le _, hh.nw hD⟩, ?_⟩
  rintro i m H' ⟨rfl, hi, p⟩
  have pl := hd H' (p.sub (Sub.skip Sub.rf))
  by_cases hlt : i < mm.length
  · refine .inr ⟨⟨pl, by rw [hl]; exact hlt⟩, fun H2 => Has H2 ([(D, .lst ((((mm.map (·.1)).take (i + 1)).filter c).map h))] :: L), fun H2 p2 => ⟨mm.length - (i + 1), by omega, rfl, hlt, p2⟩, fun x H2 y => ?_⟩
    obtain ⟨e, kk, vv, hk, ex⟩ := y
    subst e
    have hz1 : (mm.map (·.1))[i]? = some (mm[i]).1 := by rw [List.getElem?_map, List.getElem?_eq_getElem hlt]; rfl
    have hkk : kk = g1 (mm[i]).1 := by
      unfold mk at hk
      rw [List.getElem?_map, List.getElem?_eq_getElem hlt] at hk
      exact (congrArg Prod.fst (Option.some.inj hk)).symm
    subst hkk
    have ex : x = .int (mm[i]).1 := ex
    subst ex
    have hm : (mm[i]).1 ∈ mm.map (·.1) := List.mem_of_getElem? hz1
    have et : (mm.map (·.1)).take (i + 1) = (mm.map (·.1)).take i ++ [(mm[i]).1] := by rw [List.take_add_one, hz1]; rfl
    refine ⟨hw _, ht _ hm D _ H2 _ p fun H3 h3 => ?_⟩
    refine ifB (fun e => ?_) (fun e => ?_)
    · refine hs _ hm e D _ H3 _ h3 fun H4 h4 => ?_
      refine ⟨_, h4.g0, ?_, ?_⟩
      · rw [sizeLine_eq, List.length_map]
        have l1 := List.length_filter_le c ((mm.map (·.1)).take i)
        have l3 := List.length_take_le' i (mm.map (·.1))
        rw [List.length_map] at l3
        omega
      · rw [et, List.filter_append, List.map_append, List.filter_cons, if_pos e]
        exact h4.s0
    · rw [et, List.filter_append, List.filter_cons, if_neg (by rw [e]; decide)]
      simpa using h3
  · have e : i = mm.length := by omega
    subst e
    refine .inl ⟨⟨pl, by rw [hl]; exact Nat.le_refl _⟩, q D H' ?_⟩
    have e2 : (mm.map (·.1)).take mm.length = mm.map (·.1) := List.take_of_length_le (by rw [List.length_map]; exact Nat.le_refl _)
    rw [e2] at p
    exact p
/-- [h z for z in d if c z], d a dict that stands in what is known -/
theorem x_lcD {k : Nat} {tt : TT} {mm : List (Int × V)} (h : Int → V) (c : Int → Bool) (hh : Has H ([(d, dI mm)] :: L)) (hz : mm.length ≤ 100000)
    (htd : ∀ o H' (Q' : VK), Has H' ([(d, .frz o (dI mm))] :: L) → Q' (.ref d) H' → td σ H' Q')
    (ht : ∀ o, ∀ z ∈ mm.map (·.1), ∀ D M H' (Q' : Bool → Hp → Prop), Has H' ([(D, .lst M)] :: [(d, .frz o (dI mm))] :: L) → (∀ H'', Has H'' ([(D, .lst M)] :: [(d, .frz o (dI mm))] :: L) → Q' (c z) H'') → tt ((wipe σ [k]).set k (some (.int z))) H' Q')
    (hs : ∀ o, ∀ z ∈ mm.map (·.1), c z = true → ∀ D M H' (Q' : VK), Has H' ([(D, .lst M)] :: [(d, .frz o (dI mm))] :: L) → (∀ H'', Has H'' ([(D, .lst M)] :: [(d, .frz o (dI mm))] :: L) → Q' (h z) H'') → te ((wipe σ [k]).set k (some (.int z))) H' Q')
    (q : ∀ D H', Has H' ([(D, .lst (((mm.map (·.1)).filter c).map h))] :: [(d, dI mm)] :: L) → Q (.ref D) H') : tLockE (tLc (iKeys td) (gName k) tt te [k]) σ H Q := by
  refine ⟨d, dI mm, hh.g0, trivial, fun o => ?_⟩
  have h1 : Has (upd H d (.frz o (dI mm))) ([(d, .frz o (dI mm))] :: L) := hh.s0
  have z : kLc (gName k) tt te [k] σ (Itk d o (mk g1 mm)) (upd H d (.frz o (dI mm))) (fun v H' => H' d = some (.frz o (dI mm)) ∧ Q v (upd H' d (dI mm))) :=
    lc_keysF h c h1 (fun H' h' => h'.g0) hz (ht o) (hs o) fun D H' h' => ⟨h'.g1, q D _ h'.s1⟩
  exact htd o _ _ h1 ⟨d, o, rfl, .inl ⟨mk g1 mm, h1.g0, z⟩⟩
/-- x = [h z for z in d if c z] -/
theorem x_asgD {k l : Nat} {tt : TT} {mm : List (Int × V)} (h : Int → V) (c : Int → Bool) (hh : Has H ([(d, dI mm)] :: L)) (hz : mm.length ≤ 100000)
    (htd : ∀ o H' (Q' : VK), Has H' ([(d, .frz o (dI mm))] :: L) → Q' (.ref d) H' → td σ H' Q')
    (ht : ∀ o, ∀ z ∈ mm.map (·.1), ∀ D M H' (Q' : Bool → Hp → Prop), Has H' ([(D, .lst M)] :: [(d, .frz o (dI mm))] :: L) → (∀ H'', Has H'' ([(D, .lst M)] :: [(d, .frz o (dI mm))] :: L) → Q' (c z) H'') → tt ((wipe σ [k]).set k (some (.int z))) H' Q')
    (hs : ∀ o, ∀ z ∈ mm.map (·.1), c z = true → ∀ D M H' (Q' : VK), Has H' ([(D, .lst M)] :: [(d, .frz o (dI mm))] :: L) → (∀ H'', Has H'' ([(D, .lst M)] :: [(d, .frz o (dI mm))] :: L) → Q' (h z) H'') → te ((wipe σ [k]).set k (some (.int z))) H' Q')
    (q : ∀ D H', Has H' ([(D, .lst (((mm.map (·.1)).filter c).map h))] :: [(d, dI mm)] :: L) → nx (σ.set l (some (.ref D))) H') : tLock (tAsg (tLc (iKeys td) (gName k) tt te [k]) (gName l)) ⟨nx, rt, bk, ct⟩ σ H := by
  refine ⟨d, dI mm, hh.g0, trivial, fun o => ?_⟩
  have h1 : Has (upd H d (.frz o (dI mm))) ([(d, .frz o (dI mm))] :: L) := hh.s0
  have z : kLc (gName k) tt te [k] σ (Itk d o (mk g1 mm)) (upd H d (.frz o (dI mm))) (fun v H' => H' d = some (.frz o (dI mm)) ∧ nx (σ.set l (some v)) (upd H' d (dI mm))) :=
    lc_keysF h c h1 (fun H' h' => h'.g0) hz (ht o) (hs o) fun D H' h' => ⟨h'.g1, q D _ h'.s1⟩
  exact htd o _ _ h1 ⟨d, o, rfl, .inl ⟨mk g1 mm, h1.g0, z⟩⟩
/-! ### x in xs, whole numbers -/
theorem k_inI {neg : Bool} {ns : List Int} (hp : H p = some (.lst (ns.map V.int))) (q : Q (.bl (if neg then !decide (i ∈ ns) else decide (i ∈ ns))) H) : rIn K neg (.int i) (.ref p) H Q := by
  refine ⟨p, _, rfl, .inl (SqL.of hp), rfl, ?_, ?_⟩
  · rw [List.all_eq_true]
    intro y hy
    obtain ⟨z, _, rfl⟩ := List.mem_map.mp hy
    rfl
  · have e : inV (.int i) (ns.map V.int) = decide (i ∈ ns) := by
      unfold inV
      rw [List.any_map]
      by_cases h : i ∈ ns
      · rw [decide_eq_true h, List.any_eq_true]
        exact ⟨i, h, by simp [eqV]⟩
      · rw [decide_eq_false h, List.any_eq_false]
        intro z hz
        have : z ≠ i := fun e => h (e ▸ hz)
        simp [eqV, this]
    rw [e]
    exact q
theorem k_inIt {ns : List Int} (hp : H p = some (.lst (ns.map V.int))) (q : Q (.bl (decide (i ∈ ns))) H) : rIn K false (.int i) (.ref p) H Q := k_inI hp q
theorem k_inIf {ns : List Int} (hp : H p = some (.lst (ns.map V.int))) (q : Q (.bl (!decide (i ∈ ns))) H) : rIn K true (.int i) (.ref p) H Q := k_inI hp q
/-- [h z for .. in zs if c z], the target of any form: behind it the names are t z -/
theorem k_lcG {α : Type} {g : TG} {tt : TT} {vs : List Nat} (zs : List α) (e : α → V) (h : α → V) (c : α → Bool) (t : α → St) (hh : Has H L) (ha : ∀ H', Has H' L → H' a = some (.lst (zs.map e))) (hz : zs.length ≤ 100000) (hw : ∀ z ∈ zs, wipe (t z) vs = wipe σ vs)
    (hg : ∀ z ∈ zs, ∀ D M H' (Q' : St → Hp → Prop), Has H' ([(D, .lst M)] :: L) → Q' (t z) H' → g (e z) (wipe σ vs) H' Q')
    (ht : ∀ z ∈ zs, ∀ D M H' (Q' : Bool → Hp → Prop), Has H' ([(D, .lst M)] :: L) → (∀ H'', Has H'' ([(D, .lst M)] :: L) → Q' (c z) H'') → tt (t z) H' Q')
    (hs : ∀ z ∈ zs, c z = true → ∀ D M H' (Q' : VK), Has H' ([(D, .lst M)] :: L) → (∀ H'', Has H'' ([(D, .lst M)] :: L) → Q' (h z) H'') → te (t z) H' Q')
    (q : ∀ D H', Has H' ([(D, .lst ((zs.filter c).map h))] :: L) → Q (.ref D) H') : kLcL K g tt te vs σ (.ref a) H Q := by
  refine k_lcL (L := L) hh (fun D i H' => Has H' ([(D, .lst (((zs.take i).filter c).map h))] :: L)) (ha H hh) (fun D H' h' => h') (fun D i H' h' => ha H' (h'.sub (Sub.skip Sub.rf))) (fun D i x H' hi h' => ?_) (fun D H' h' => ?_)
  · rw [List.getElem?_map] at hi
    obtain ⟨z, hz1, rfl⟩ := Option.map_eq_some_iff.mp hi
    have hm : z ∈ zs := List.mem_of_getElem? hz1
    have et : zs.take (i + 1) = zs.take i ++ [z] := by rw [List.take_add_one, hz1]; rfl
    refine hg z hm D _ H' _ h' ⟨hw z hm, ht z hm D _ H' _ h' fun H2 h2 => ?_⟩
    refine ifB (fun e => ?_) (fun e => ?_)
    · refine hs z hm e D _ H2 _ h2 fun H3 h3 => ?_
      refine ⟨_, h3.g0, ?_, ?_⟩
      · rw [sizeLine_eq, List.length_map]
        have l1 := List.length_filter_le c (zs.take i)
        have l3 := List.length_take_le' i zs
        omega
      · rw [et, List.filter_append, List.map_append, List.filter_cons, if_pos e]
        exact h3.s0
    · rw [et, List.filter_append, List.filter_cons, if_neg (by rw [e]; decide)]
      simpa using h2
  · rw [List.length_map, List.take_length] at h'
    exact q D H' h'
theorem k_neDNN (q : Q (.bl false) H) : rNeD K .non .non H Q := ⟨.none, .none, .non, .non, by decide +kernel, by decide +kernel, by
  have e : PyData.eqv .none .none = true := by decide +kernel
  rw [e]; exact q⟩
theorem k_eqDNN (q : Q (.bl true) H) : rEqD K .non .non H Q := ⟨.none, .none, .non, .non, by decide +kernel, by decide +kernel, by
  have e : PyData.eqv .none .none = true := by decide +kernel
  rw [e]; exact q⟩
end
end Sy
/-! Rules of our own: d.pop(k) for keys that are tuples; comprehensions over such dicts; set(xs) of a list of whole numbers, sorted. -/
namespace Sy
open PySem PySem.W PySem.Calls PySem.Spec PyProof.Rows L2
section
variable {κ : Type} [DecidableEq κ] {prog : Program} {w : World} {knd : HeapKind prog w κ}
theorem meetsPop1 {d b : Addr} {k : κ} (hd : (d == sysModules) = false) :
    MeetsIn prog w (Builtin.«dict.pop» ⟨[.ref d, .ref b], []⟩) (fun A R s => ∃ xs p, knd.room A.in1 ∧ knd.is s.heap k b ∧ s.heap.DictOfH knd d xs ∧ xs.length ≤ sizeLine ∧ atKey xs k = some p ∧
      ∀ h' tk, h'.DictOfH knd d (DT.dropH xs k) → Heap.SameBut d s.heap h' → R (.ok (.ret p.2)) { s with heap := h', toks := tk }) :=
  .of_wp fun A R s ⟨xs, p, hu, hkey, hm, hsz, hp, hsome⟩ => by
    obtain ⟨o, es, ep, ho, hc, hdat, he, his, hn⟩ := id hm
    have hpart : (keyPart (Value.ref b)).isSome = false := rfl
    have hes : es.size = xs.length := by rw [← Array.length_toList, he, List.length_map]
    unfold Builtin.«dict.pop»
    refine wpAny_bind ?_
    unfold Builtin.Dict.keyAndDefault
    refine wpAny_bind (wpAny_notOrdered_dict hm.typeIs ?_)
    show wpAny _ _ (pure (d, Value.ref b, none)) _ _ s
    refine wpAny_pure ?_
    simp only [hpart, Bool.false_eq_true, if_false]
    refine wpAny_bind (wpAny_dictEntries ho hdat (wpAny_bind (wpAny_pure ?_)))
    have hem : es.isEmpty = false := by
      cases hq : es.isEmpty with
      | false => rfl
      | true =>
        have z : es.size = 0 := by simpa using hq
        have z2 : xs = [] := List.length_eq_zero_iff.mp (by omega)
        rw [z2] at hp
        cases hp
    rw [hem]
    simp only [Bool.false_eq_true, if_false]
    refine wpAny_bind (DT.takeH hu hkey hm hsz (fun hno => absurd (hno.symm.trans hp) (fun z => nomatch z)) fun p' e hp' hev h' hm' hs' => ?_)
    simp only [Option.isNone_some, Bool.false_eq_true, if_false]
    have e2 : p' = p := Option.some.inj (hp'.symm.trans hp)
    subst e2
    exact wpAny_bind (wpAny_letGo (wpAny_pure ⟨e.val, rfl, by rw [hev]; exact hsome h' _ hm' hs'⟩))
end
/-- d.pop(k), k a tuple that is there -/
def tDPopT (td ty : TE) : TE := fun σ H Q => td σ H fun x H1 => ∃ a, x = .ref a ∧ IsD H1 a ∧ ty σ H1 fun y H2 => ∃ kvs k b v, H2 a = some (.dT kvs) ∧ y = .ref b ∧ H2 b = some (.tup (k.map kV)) ∧ valV kvs k = some v ∧ Q v (upd H2 a (.dT (dropK kvs k)))
section
variable {X : Cx} {o e : Expr} {apos cpos : Pos} {td ty : TE}
theorem pe_dpopT (hu : X.A.units + 1 < cLine) (ho : PE X o td) (he : PE X e ty) (m : M1 X o "pop" apos e cpos) : PE X (.Call (.Attribute o "pop" apos) [e] [] cpos) (tDPopT td ty) := by
  refine ⟨fun pins s σ H Q I h => ?_⟩
  refine wpAny_Call_method m.base m.few m.line PySem.F.plainAttrs_dict PySem.F.slot_dict_pop PySem.F.type_dict_pop (thn (ho.run pins s σ H _ I h) fun u s1 ⟨x, H1, I1, rx, a, ex, d, q1⟩ => ?_)
  subst ex
  obtain rfl : u = Value.ref a := rx
  obtain ⟨t1, t2, _⟩ := isD_at I1 d
  refine ⟨t1, t2, ?_⟩
  rw [m.trees]
  refine Calls.callWith_builtin rfl (Calls.evalArgs_plain (Calls.spliced_cons (thn (he.run pins s1 σ H1 _ I1 q1) fun iv s2 ⟨y, H2, I2, ry, kvs, k, b, v, ea, ey, eb, l, q2⟩ => Calls.spliced_nil ?_)))
  subst ey
  obtain rfl : iv = Value.ref b := ry
  obtain ⟨z, hd, xs, rel, dd⟩ := dt_of I2.hok ea
  have hz : xs.length ≤ sizeLine := by rw [← Paired.length rel]; exact z
  have r := rel.val k
  rw [l] at r
  obtain ⟨p, hp, rp⟩ : ∃ p, atKey xs k = some p ∧ RelV v p.2 := by
    cases ev : atKey xs k with
    | none => rw [ev] at r; exact (show False from r).elim
    | some p => rw [ev] at r; exact ⟨p, rfl, r⟩
  refine call_meetsIn PySem.F.slot_dict_pop dd.typeIs PySem.F.entry_dict_pop (PySem.F.args_dict_pop_2 _ _) (meetsPop1 (knd := tupleKind (mixKind X.prog X.w)) (k := k) hd)
    ⟨xs, p, tupleKind_room_in1 hu, key_of I2.hok eb, dd, hz, hp, fun h' tk dd' hs => ?_⟩
  obtain ⟨o, es, ep, hq, h2, h3, h4, _, h5⟩ := dd'
  have I3 : Inv X pins σ (upd H2 a (.dT (dropK kvs k))) { s2 with heap := h', toks := tk } :=
    d_write I2 (by rw [ea]; exact True.intro) hs ⟨o, hq⟩ ⟨Nat.le_trans (dropK_le kvs k) z, hd, _, (DX.KT_drop k rel).keeps (fun c ys ec => (by rw [upd_ne (ne_of ec ea (fun z => nomatch z))]; exact ec)), o, es, ep, hq, h2, h3, h4, h5⟩
  exact ⟨v, _, I3, rp, q2⟩
end
section
variable {P : Program} {w : World} {A : Around} {E : Value → Shared → Prop} {s : Shared}
abbrev freshSet (w : World) : Obj := { cls := .type "set", dict := none, data := .set #[] 0 (.fresh 0 0 (!w.params.followText "set-order")) }
set_option maxHeartbeats 3200000 in
theorem call_set_ints {l : Addr} {items : Array Value} (ns : List Int) {Q : Value → Shared → Prop} (hh : A.handled = none) (hl : s.heap.IsList l items) (hit : IntsAre items.toList ns) (hb : ns.length + 1 < scanBound)
    (h : ∀ (h' : Heap) (tk c : Nat), SetR w h' s.heap.objs.size (fun j => decide (j ∈ ns)) c → c ≤ ns.length → (∀ b o, s.heap.get? b = some o → h'.get? b = some o) → Q (.ref s.heap.objs.size) { s with heap := h', toks := tk }) :
    wpAny (model P w) A (call (.type "set") [.ref l]) Q E s := by
  have hisz : items.size = ns.length := by
    have q := IntsAre.length hit
    rw [Array.length_toList] at q
    exact q
  obtain ⟨c, tl, hmro⟩ := F.called_set.mro
  have hmade := F.called_set.made
  have hsub := F.called_set.sub
  refine wpAny_call (codeAny_of_tree ?_)
  show wpAny _ _ (callAny (.type "set") _) _ _ _
  refine wpAny_pure ⟨Code.quiet_builtin _ (by decide +kernel), codeAny_builtin F.entry_type_call ?_⟩
  rw [Around.under_plain (weight_type_call_type "set" [.ref l] []) rfl]
  have h1 := F.called_set.notType
  have h2 := F.called_set.canCreate
  have hct := F.typeCall_set_1 (.ref l)
  repeat (any_goals (first | assumption | wp_step))
  refine codeAny_mono (code_set_led1 (.ref l) (E := E) (Q₁ := fun obj s₁ => obj = .ref s.heap.objs.size ∧ s₁ = { s with heap := s.heap.push (freshSet w) }) ⟨rfl, rfl⟩) fun r s₁ hr => ?_
  match r, hr with
  | .error e, hr => exact hr
  | .ok (.ret obj), hr =>
    obtain ⟨rfl, rfl⟩ := hr
    have hS : (s.heap.push (freshSet w)).get? s.heap.objs.size = some (freshSet w) := Heap.get?_push_size _ rfl
    have hT : Shared.TypeIs { s with heap := s.heap.push (freshSet w) } (.ref s.heap.objs.size) "set" := ⟨_, hS, rfl⟩
    have hli := F.called_set.init.lookup
    have hbi := F.called_set.init.bind (.ref s.heap.objs.size)
    repeat (any_goals (first | assumption | wp_step))
    refine codeAny_mono (codeAny_call_builtin (R := wants (fun r s₂ => r = .none ∧ ∃ h' tk c, s₂ = { s with heap := h', toks := tk } ∧ SetR w h' s.heap.objs.size (fun j => decide (j ∈ ns)) c ∧ c ≤ ns.length ∧
        (∀ b o, s.heap.get? b = some o → h'.get? b = some o)) E) F.called_set.init.plain F.entry_set_init (check_set_init_1 hT ?_)) fun r₂ s₂ hr₂ => ?_
    · obtain ⟨ol, hol, hcl, nl, hdl⟩ := hl
      obtain ⟨ocls, odict, odata, oslots⟩ := ol
      simp only at hcl hdl
      subst hcl; subst hdl
      have hol' : (s.heap.push (freshSet w)).get? l = some { cls := .type "list", dict := odict, data := .seq items nl, slots := oslots } := Heap.get?_push_of_some _ hol
      have hsls := F.sub_list_set
      have hslf := F.sub_list_frozenset
      have hne : (Value.type "list" == Value.type "dict") = false := by decide
      have hl1 : (s.heap.push (freshSet w)).IsList l items := ⟨_, hol', rfl, nl, rfl⟩
      unfold Builtin.«set.__init__» noKeywords Builtin.Frozenset.updateFrom
      generalize hPI : pyIter = PI
      wp_walk
      subst hPI
      refine wpAny_pyIter_list hl1 ?_
      refine wpAny_bind (wpAny_runValue ?_)
      have hlS : l < s.heap.objs.size := Heap.lt_size hol
      have hsp : (s.heap.push (freshSet w)).objs.size = s.heap.objs.size + 1 := Heap.size_push ..
      have hneI : l ≠ (s.heap.push (freshSet w)).objs.size := by rw [hsp]; exact Nat.ne_of_lt (Nat.lt_succ_of_lt hlS)
      have hSf : s.heap.objs.size ∉ [(s.heap.push (freshSet w)).objs.size, l] := by
        simp only [List.mem_cons, List.not_mem_nil, or_false, not_or]
        exact ⟨by rw [hsp]; exact Nat.ne_of_lt (Nat.lt_succ_self _), Nat.ne_of_gt hlS⟩
      have hval : ∀ (i : Nat) (v : Value), items[i]? = some v → ∃ k t, ns[i]? = some k ∧ v = .int k t := fun i v hv => by
        have hi : i < ns.length := by rw [← hisz]; exact (Array.getElem?_eq_some_iff.mp hv).1
        obtain ⟨t, e⟩ := PyProof.Rows.IntsAre.int_at hit i v (by rw [Array.getElem?_toList]; exact hv)
        refine ⟨ns[i], t, List.getElem?_eq_getElem hi, ?_⟩
        rw [e, List.getD_eq_getElem?_getD, List.getElem?_eq_getElem hi] <;> rfl
      refine set_update_ints ((Walks.list (by simp [hh]) _ l hneI items).toS) s.heap.objs.size hSf ns hisz hb hval (items.size - 0) 0 _ (by omega) (Nat.zero_le _)
        ⟨⟨_, Heap.get?_push_size _ rfl, rfl, rfl⟩, hl1.push _⟩ ⟨0, Nat.le_refl 0, setR_new_at (Heap.get?_push_of_some _ hS)⟩ fun s' c' hm hc' hS' => ?_
      obtain ⟨h', g2, d', tk', os'⟩ := s'
      have eg : g2 = s.gens := hm.gens
      have ed : d' = s.drawn := hm.drawn
      have eo : os' = s.os := hm.os
      subst eg; subst ed; subst eo
      show wpAny _ _ _ _ _ _
      refine wpAny_pure ?_
      show wpAny _ _ (ret Value.none) _ _ _
      rw [hisz] at hc'
      refine wpAny_pure ⟨rfl, h', tk', c', rfl, hS', hc', fun b o e => ?_⟩
      have hb0 : b < s.heap.objs.size := Heap.lt_size e
      exact hm.heap b o (by simp only [List.mem_cons, List.not_mem_nil, or_false, not_or]; exact ⟨Nat.ne_of_lt hb0, by rw [hsp]; exact Nat.ne_of_lt (Nat.lt_succ_of_lt hb0)⟩) (Heap.get?_push_of_some _ (Heap.get?_push_of_some _ e))
    · match r₂, hr₂ with
      | .error e, hr₂ => exact hr₂
      | .ok (.ret r), hr₂ =>
        obtain ⟨rfl, h', tk, c', rfl, hS', hc', hk'⟩ := hr₂
        repeat (any_goals (first | assumption | wp_step))
        exact h _ _ _ hS' hc' hk'
      | .ok .next, hr₂ => exact hr₂.elim
      | .ok .brk, hr₂ => exact hr₂.elim
      | .ok .cont, hr₂ => exact hr₂.elim
  | .ok .next, hr => exact hr.elim
  | .ok .brk, hr => exact hr.elim
  | .ok .cont, hr => exact hr.elim
end
/-- set(xs), whole numbers -/
def rSetOf (K : PySem.W.Frag) (w : World) : List V → Hp → VK → Prop := fun vs H Q => ∃ (p : Addr) (ns : List Int), vs = [.ref p] ∧ SqL K H p (ns.map V.int) ∧ ns.length ≤ 1000 ∧
  ∀ q c, H q = none → c ≤ ns.length → Q (.ref q) (upd H q (SetO w q (fun j => decide (j ∈ ns)) c))
section
variable {X : Cx}
theorem call_setOf (hc : X.calm = true) : CallR X (.type "set") (rSetOf X.K X.w) := by
  intro pins s σ H vs us Q I r h
  obtain ⟨p, ns, rfl, hp, hl, q⟩ := h
  rw [Vals.ref1 r]
  obtain ⟨its, rv, pt, _⟩ := I.list hp
  have hi : IntsAre its.toArray.toList ns := ints_of_vals rv
  refine call_set_ints ns (I.ok.hd hc) pt.isList hi (by unfold scanBound; omega) fun h' tk c R1 hcn k => ?_
  have hn : H s.heap.objs.size = none := I.hok.fresh (Nat.le_refl _)
  exact ⟨.ref s.heap.objs.size, _, I.laid (t' := tk) (fun b u e => k b u e) (Nat.le_refl _) (setO_new R1), rfl, q _ c hn hcn⟩
end
/-- sorted(set(xs)), whole numbers -/
def tSSet (K : PySem.W.Frag) (t : TA) : TE := fun σ H Q => ∀ w : World, t σ H fun vs H1 => rSetOf K w vs H1 fun v H2 => rSortedSet w [v] H2 Q
section
variable {X : Cx} {e : Expr} {t : TA} {p p2 pos pos2 : Pos}
theorem pe_sset (hc : X.calm = true) (hg : Gl X "sorted") (hm : X.mg "sorted" = none) (hg2 : Gl X "set") (hm2 : X.mg "set" = none) (ha : PA X [e] t)
    (hs2 : starEach [e] X.env = [(false, eval e X.env)] := by rfl)
    (hs : starEach [.Call (.Name "set" p2) [e] [] pos2] X.env = [(false, eval (.Call (.Name "set" p2) [e] [] pos2) X.env)] := by rfl) :
    PE X (.Call (.Name "sorted" p) [.Call (.Name "set" p2) [e] [] pos2] [] pos) (tSSet X.K t) := by
  have h1 : PE X (.Call (.Name "sorted" p) [.Call (.Name "set" p2) [e] [] pos2] [] pos) (tCB (rSortedSet X.w) (tCons (tCB (rSetOf X.K X.w) t) tNil)) :=
    pe_callB (cr_sortedSet hc) hg hm (by decide +kernel) (pa_cons (pe_callTy (call_setOf hc) hg2 hm2 (by decide +kernel) ha (by decide) (by decide) hs2 rfl) pa_nil) (by decide) (by decide) hs rfl
  exact ⟨fun pins s σ H Q I h => h1.run pins s σ H Q I (h X.w)⟩
end
end Sy
namespace Sy
open PySem L2
section
variable {K : PySem.W.Frag} {σ : St} {H H1 : Hp} {L : List U} {Q : VK} {ta td te ty : TE} {tr : TA} {v x y z : V} {xs ys : List V} {i j n m : Int} {a b d p : Addr} {C : Addr} {nx bk ct : St → Hp → Prop} {rt : VK} {s1 : TS} {A : Prop}
def kSSet (K : PySem.W.Frag) (w : World) (vs : List V) (H1 : Hp) (Q : VK) : Prop := rSetOf K w vs H1 fun v H2 => rSortedSet w [v] H2 Q
theorem x_sset (q : ∀ w, tr σ H fun vs H1 => kSSet K w vs H1 Q) : tSSet K tr σ H Q := q
theorem k_sset {w : World} {ns : List Int} (hh : Has H L) (hp : H p = some (.lst (ns.map V.int))) (hl : ns.length < 64)
    (q : ∀ (ys : List Int) d H', ys.Pairwise (· < ·) → (∀ k, k ∈ ys ↔ k ∈ ns) → Has H' ([(d, .lst (ys.map V.int))] :: L) → Q (.ref d) H') : kSSet K w [.ref p] H Q := by
  refine ⟨p, ns, rfl, SqL.of hp, by omega, fun r c hr hc => ?_⟩
  have h1 := hh.nw (o := SetO w r (fun j => decide (j ∈ ns)) c) hr
  refine ⟨r, _, c, rfl, h1.g0, by omega, fun ys d hs hm _ hd => q ys d _ hs (fun k => (hm k).trans (by simp)) ?_⟩
  exact (h1.nw hd).sub (Sub.p0 (Sub.skip Sub.rf))
def kDPopT (a : Addr) (y : V) (H2 : Hp) (Q : VK) : Prop := ∃ kvs k b v, H2 a = some (.dT kvs) ∧ y = .ref b ∧ H2 b = some (.tup (k.map kV)) ∧ valV kvs k = some v ∧ Q v (upd H2 a (.dT (dropK kvs k)))
theorem x_dpopT (q : td σ H fun x H1 => kIsD x H1 fun a => ty σ H1 fun y H2 => kDPopT a y H2 Q) : tDPopT td ty σ H Q := q
theorem k_dpopT {mm : List ((Int × Int) × V)} {M : List U} (hp : H a = some (dP mm)) (hb : H b = some (.tup [.int i, .int j])) (hv : valV mm (i, j) = some v) (hh : Has (upd H a (dP (dropK mm (i, j)))) M) (q : ∀ H', Has H' M → Q v H') : kDPopT a (.ref b) H Q := by
  refine ⟨_, g2 (i, j), b, v, hp, rfl, hb, by rw [mk_val g2_inj]; exact hv, ?_⟩
  rw [mk_drop g2_inj]
  exact q _ hh
theorem dget_FP {o : Obj} {mm : List ((Int × Int) × V)} (hp : H a = some (.frz o (dP mm))) (hb : H b = some (.tup [.int i, .int j])) : DGet H a (.ref b) (valV mm (i, j)) := by
  rw [← mk_val g2_inj mm (i, j)]
  exact .inr ⟨_, g2 (i, j), b, .inr ⟨o, hp⟩, rfl, hb, rfl⟩
theorem k_dgetFP {o : Obj} {mm : List ((Int × Int) × V)} (hp : H a = some (.frz o (dP mm))) (hb : H b = some (.tup [.int i, .int j])) (hv : valV mm (i, j) = some v) (q : Q v H) : kDGet (.ref a) (.ref b) H Q := ⟨a, v, rfl, hv ▸ dget_FP hp hb, q⟩
/-- the keys of a locked dict, pairs, with a test and an element; behind the target the names are t -/
theorem lc_keysT {g : TG} {tt : TT} {o : Obj} {vs : List Nat} {mm : List ((Int × Int) × V)} (h : Int × Int → V) (c : Int × Int → Bool) (t : Addr → Int × Int → St) (hh : Has H L) (hd : ∀ H', Has H' L → H' d = some (.frz o (dP mm))) (hz : mm.length ≤ 100000)
    (hw : ∀ q, ∀ z ∈ mm.map (·.1), wipe (t q z) vs = wipe σ vs)
    (hg : ∀ q, ∀ z ∈ mm.map (·.1), ∀ D M H' (Q' : St → Hp → Prop), H' q = some (.tup [.int z.1, .int z.2]) → Has H' ([(D, .lst M)] :: L) → Q' (t q z) H' → g (.ref q) (wipe σ vs) H' Q')
    (ht : ∀ q, ∀ z ∈ mm.map (·.1), ∀ D M H' (Q' : Bool → Hp → Prop), H' q = some (.tup [.int z.1, .int z.2]) → Has H' ([(D, .lst M)] :: L) → (∀ H'', H'' q = some (.tup [.int z.1, .int z.2]) → Has H'' ([(D, .lst M)] :: L) → Q' (c z) H'') → tt (t q z) H' Q')
    (hs : ∀ q, ∀ z ∈ mm.map (·.1), c z = true → ∀ D M H' (Q' : VK), H' q = some (.tup [.int z.1, .int z.2]) → Has H' ([(D, .lst M)] :: L) → (∀ H'', Has H'' ([(D, .lst M)] :: L) → Q' (h z) H'') → te (t q z) H' Q')
    (q : ∀ D H', Has H' ([(D, .lst (((mm.map (·.1)).filter c).map h))] :: L) → Q (.ref D) H') : kLc g tt te vs σ (Itkt d o (mk g2 mm)) H Q := by
  intro D hD
  have hl : (mk g2 mm).length = mm.length := mk_len _ _
  refine ⟨fun i m H' => m = mm.length - i ∧ i ≤ mm.length ∧ Has H' ([(D, .lst ((((mm.map (·.1)).take i).filter c).map h))] :: L), ⟨mm.length, by simp, Nat.zero_le _, hh.nw hD⟩, ?_⟩
  rintro i m H' ⟨rfl, hi, p⟩
  have pl := hd H' (p.sub (Sub.skip Sub.rf))
  by_cases hlt : i < mm.length
  · refine .inr ⟨⟨pl, by rw [hl]; exact hlt⟩, fun H2 => Has H2 ([(D, .lst ((((mm.map (·.1)).take (i + 1)).filter c).map h))] :: L), fun H2 p2 => ⟨mm.length - (i + 1), by omega, rfl, hlt, p2⟩, fun x H2 y => ?_⟩
    obtain ⟨e, kk, vv, r, hk, ex, hr⟩ := y
    subst e
    have hz1 : (mm.map (·.1))[i]? = some (mm[i]).1 := by rw [List.getElem?_map, List.getElem?_eq_getElem hlt]; rfl
    have hkk : kk = g2 (mm[i]).1 := by
      unfold mk at hk
      rw [List.getElem?_map, List.getElem?_eq_getElem hlt] at hk
      exact (congrArg Prod.fst (Option.some.inj hk)).symm
    subst hkk ex
    have hr : H2 r = some (.tup [.int (mm[i]).1.1, .int (mm[i]).1.2]) := hr
    have hm : (mm[i]).1 ∈ mm.map (·.1) := List.mem_of_getElem? hz1
    have et : (mm.map (·.1)).take (i + 1) = (mm.map (·.1)).take i ++ [(mm[i]).1] := by rw [List.take_add_one, hz1]; rfl
    refine hg r _ hm D _ H2 _ hr p ⟨hw r _ hm, ht r _ hm D _ H2 _ hr p fun H3 hr3 h3 => ?_⟩
    refine ifB (fun e => ?_) (fun e => ?_)
    · refine hs r _ hm e D _ H3 _ hr3 h3 fun H4 h4 => ?_
      refine ⟨_, h4.g0, ?_, ?_⟩
      · rw [sizeLine_eq, List.length_map]
        have l1 := List.length_filter_le c ((mm.map (·.1)).take i)
        have l3 := List.length_take_le' i (mm.map (·.1))
        rw [List.length_map] at l3
        omega
      · rw [et, List.filter_append, List.map_append, List.filter_cons, if_pos e]
        exact h4.s0
    · rw [et, List.filter_append, List.filter_cons, if_neg (by rw [e]; decide)]
      simpa using h3
  · have e : i = mm.length := by omega
    subst e
    refine .inl ⟨⟨pl, by rw [hl]; exact Nat.le_refl _⟩, q D H' ?_⟩
    have e2 : (mm.map (·.1)).take mm.length = mm.map (·.1) := List.take_of_length_le (by rw [List.length_map]; exact Nat.le_refl _)
    rw [e2] at p
    exact p
/-- [h z for .. in d if c z], d a dict of pairs that stands in what is known -/
theorem x_lcT {g : TG} {tt : TT} {vs : List Nat} {mm : List ((Int × Int) × V)} (h : Int × Int → V) (c : Int × Int → Bool) (t : Addr → Int × Int → St) (hh : Has H ([(d, dP mm)] :: L)) (hz : mm.length ≤ 100000)
    (hw : ∀ q, ∀ z ∈ mm.map (·.1), wipe (t q z) vs = wipe σ vs)
    (htd : ∀ o H' (Q' : VK), Has H' ([(d, .frz o (dP mm))] :: L) → Q' (.ref d) H' → td σ H' Q')
    (hg : ∀ o q, ∀ z ∈ mm.map (·.1), ∀ D M H' (Q' : St → Hp → Prop), H' q = some (.tup [.int z.1, .int z.2]) → Has H' ([(D, .lst M)] :: [(d, .frz o (dP mm))] :: L) → Q' (t q z) H' → g (.ref q) (wipe σ vs) H' Q')
    (ht : ∀ o q, ∀ z ∈ mm.map (·.1), ∀ D M H' (Q' : Bool → Hp → Prop), H' q = some (.tup [.int z.1, .int z.2]) → Has H' ([(D, .lst M)] :: [(d, .frz o (dP mm))] :: L) → (∀ H'', H'' q = some (.tup [.int z.1, .int z.2]) → Has H'' ([(D, .lst M)] :: [(d, .frz o (dP mm))] :: L) → Q' (c z) H'') → tt (t q z) H' Q')
    (hs : ∀ o q, ∀ z ∈ mm.map (·.1), c z = true → ∀ D M H' (Q' : VK), H' q = some (.tup [.int z.1, .int z.2]) → Has H' ([(D, .lst M)] :: [(d, .frz o (dP mm))] :: L) → (∀ H'', Has H'' ([(D, .lst M)] :: [(d, .frz o (dP mm))] :: L) → Q' (h z) H'') → te (t q z) H' Q')
    (q : ∀ D H', Has H' ([(D, .lst (((mm.map (·.1)).filter c).map h))] :: [(d, dP mm)] :: L) → Q (.ref D) H') : tLockE (tLc (iKeys td) g tt te vs) σ H Q := by
  refine ⟨d, dP mm, hh.g0, trivial, fun o => ?_⟩
  have h1 : Has (upd H d (.frz o (dP mm))) ([(d, .frz o (dP mm))] :: L) := hh.s0
  have z : kLc g tt te vs σ (Itkt d o (mk g2 mm)) (upd H d (.frz o (dP mm))) (fun v H' => H' d = some (.frz o (dP mm)) ∧ Q v (upd H' d (dP mm))) :=
    lc_keysT h c t h1 (fun H' h' => h'.g0) hz hw (hg o) (ht o) (hs o) fun D H' h' => ⟨h'.g1, q D _ h'.s1⟩
  exact htd o _ _ h1 ⟨d, o, rfl, .inr ⟨mk g2 mm, h1.g0, z⟩⟩
theorem x_asgT {g : TG} {l : Nat} {tt : TT} {vs : List Nat} {mm : List ((Int × Int) × V)} (h : Int × Int → V) (c : Int × Int → Bool) (t : Addr → Int × Int → St) (hh : Has H ([(d, dP mm)] :: L)) (hz : mm.length ≤ 100000)
    (hw : ∀ q, ∀ z ∈ mm.map (·.1), wipe (t q z) vs = wipe σ vs)
    (htd : ∀ o H' (Q' : VK), Has H' ([(d, .frz o (dP mm))] :: L) → Q' (.ref d) H' → td σ H' Q')
    (hg : ∀ o q, ∀ z ∈ mm.map (·.1), ∀ D M H' (Q' : St → Hp → Prop), H' q = some (.tup [.int z.1, .int z.2]) → Has H' ([(D, .lst M)] :: [(d, .frz o (dP mm))] :: L) → Q' (t q z) H' → g (.ref q) (wipe σ vs) H' Q')
    (ht : ∀ o q, ∀ z ∈ mm.map (·.1), ∀ D M H' (Q' : Bool → Hp → Prop), H' q = some (.tup [.int z.1, .int z.2]) → Has H' ([(D, .lst M)] :: [(d, .frz o (dP mm))] :: L) → (∀ H'', H'' q = some (.tup [.int z.1, .int z.2]) → Has H'' ([(D, .lst M)] :: [(d, .frz o (dP mm))] :: L) → Q' (c z) H'') → tt (t q z) H' Q')
    (hs : ∀ o q, ∀ z ∈ mm.map (·.1), c z = true → ∀ D M H' (Q' : VK), H' q = some (.tup [.int z.1, .int z.2]) → Has H' ([(D, .lst M)] :: [(d, .frz o (dP mm))] :: L) → (∀ H'', Has H'' ([(D, .lst M)] :: [(d, .frz o (dP mm))] :: L) → Q' (h z) H'') → te (t q z) H' Q')
    (q : ∀ D H', Has H' ([(D, .lst (((mm.map (·.1)).filter c).map h))] :: [(d, dP mm)] :: L) → nx (σ.set l (some (.ref D))) H') : tLock (tAsg (tLc (iKeys td) g tt te vs) (gName l)) ⟨nx, rt, bk, ct⟩ σ H := by
  refine ⟨d, dP mm, hh.g0, trivial, fun o => ?_⟩
  have h1 : Has (upd H d (.frz o (dP mm))) ([(d, .frz o (dP mm))] :: L) := hh.s0
  have z : kLc g tt te vs σ (Itkt d o (mk g2 mm)) (upd H d (.frz o (dP mm))) (fun v H' => H' d = some (.frz o (dP mm)) ∧ nx (σ.set l (some v)) (upd H' d (dP mm))) :=
    lc_keysT h c t h1 (fun H' h' => h'.g0) hz hw (hg o) (ht o) (hs o) fun D H' h' => ⟨h'.g1, q D _ h'.s1⟩
  exact htd o _ _ h1 ⟨d, o, rfl, .inr ⟨mk g2 mm, h1.g0, z⟩⟩
/-- x in t, texts -/
theorem k_inS {neg : Bool} {ss : List Str} {x : Str} (hp : H p = some (.tup (ss.map V.str))) (q : Q (.bl (if neg then !decide (x ∈ ss) else decide (x ∈ ss))) H) : rIn K neg (.str x) (.ref p) H Q := by
  refine ⟨p, _, rfl, .inr (SqT.of hp), rfl, ?_, ?_⟩
  · rw [List.all_eq_true]
    intro y hy
    obtain ⟨z, _, rfl⟩ := List.mem_map.mp hy
    rfl
  · have e : inV (.str x) (ss.map V.str) = decide (x ∈ ss) := by
      unfold inV
      rw [List.any_map]
      by_cases h : x ∈ ss
      · rw [decide_eq_true h, List.any_eq_true]
        exact ⟨x, h, by simp [eqV]⟩
      · rw [decide_eq_false h, List.any_eq_false]
        intro z hz
        have : z ≠ x := fun e => h (e ▸ hz)
        simp [eqV, this]
    rw [e]
    exact q
end
end Sy
/-! Lists of pairs of whole numbers: sorted, ==; xs.remove, xs.count. -/
namespace Sy
open PySem L2
/-- new objects, each with what it bears -/
def fmU {β : Type} (ob : β → HO) (m : List (Addr × β)) : U := m.map fun q => (q.1, ob q.2)
def fmR {β : Type} (m : List (Addr × β)) : List V := m.map fun q => V.ref q.1
abbrev Prs := List (Addr × (Int × Int))
def obP (q : Int × Int) : HO := .tup [.int q.1, .int q.2]
abbrev prU (m : Prs) : U := fmU obP m
abbrev prR (m : Prs) : List V := fmR m
theorem fmU_snoc {β : Type} (ob : β → HO) (m : List (Addr × β)) (t : Addr) (b : β) : fmU ob (m ++ [(t, b)]) = fmU ob m ++ [(t, ob b)] := by unfold fmU; rw [List.map_append]; rfl
theorem fmR_snoc {β : Type} (m : List (Addr × β)) (t : Addr) (b : β) : fmR (m ++ [(t, b)]) = fmR m ++ [.ref t] := by unfold fmR; rw [List.map_append]; rfl
theorem Has.fms {β : Type} {ob : β → HO} {H : Hp} {zs : List (Addr × β)} {L : List U} (h : Has H (fmU ob zs :: L)) : ∀ q ∈ zs, H q.1 = some (ob q.2) := fun q hq => h.2 (q.1, ob q.2) (List.mem_append.mpr (.inl (List.mem_map.mpr ⟨q, hq, rfl⟩)))
/-- a before b, or alike -/
def leP (a b : Int × Int) : Prop := a.1 < b.1 ∨ (a.1 = b.1 ∧ a.2 ≤ b.2)
section
variable {K : PySem.W.Frag} {σ : St} {H H1 : Hp} {L : List U} {Q : VK} {a b d p : Addr}
theorem Has.prs {zs : Prs} (h : Has H (prU zs :: L)) : ∀ q ∈ zs, H q.1 = some (.tup [.int q.2.1, .int q.2.2]) := fun q hq => h.2 (q.1, .tup [.int q.2.1, .int q.2.2]) (List.mem_append.mpr (.inl (List.mem_map.mpr ⟨q, hq, rfl⟩)))
def keyP (zs : Prs) (x : V) : Int × Int := ((zs.find? fun q => match x with | .ref t => decide (q.1 = t) | _ => false).map (·.2)).getD (0, 0)
theorem keyP_of : ∀ {zs : Prs}, (zs.map (·.1)).Nodup → ∀ q ∈ zs, keyP zs (.ref q.1) = q.2
  | [], _, q, hq => by cases hq
  | z :: r, nd, q, hq => by
    have nd2 := List.nodup_cons.mp (show (z.1 :: r.map (·.1)).Nodup from nd)
    rcases List.mem_cons.mp hq with e | e
    · subst e
      simp [keyP, List.find?_cons]
    · have hne : ¬ z.1 = q.1 := fun h => nd2.1 (h ▸ List.mem_map.mpr ⟨q, e, rfl⟩)
      have ih := keyP_of nd2.2 q e
      unfold keyP at ih ⊢
      rw [List.find?_cons]
      simp only [decide_eq_false hne]
      exact ih
theorem k_sortP {zs : Prs} (hh : Has H (prU zs :: L)) (hp : H p = some (.lst (prR zs)))
    (q : ∀ (ys : Prs) d H', ys.Perm zs → (ys.map (·.2)).Pairwise leP → Has H' ([(d, .lst (prR ys))] :: prU zs :: L) → Q (.ref d) H') : rSortedPO K [.ref p] H Q := by
  have nd : (zs.map (·.1)).Nodup := by
    have h1 := hh.1
    rw [show (prU zs :: L).flatten = prU zs ++ L.flatten from rfl, List.map_append] at h1
    have h2 := (List.nodup_append.mp h1).1
    unfold prU fmU at h2
    rw [List.map_map] at h2
    exact h2
  have key := keyP_of nd
  have fam := hh.prs
  refine ⟨p, prR zs, keyP zs, rfl, SqL.of hp, fun x hx => ?_, fun vs d hs ht hd => ?_⟩
  · obtain ⟨z, hz, rfl⟩ := List.mem_map.mp hx
    refine ⟨z.1, rfl, ?_⟩
    rw [key z hz]
    exact fam z hz
  · obtain ⟨ys, py, ey⟩ := perm_lift (fun q : Addr × (Int × Int) => V.ref q.1) ht.perm zs rfl
    subst ey
    refine q ys d _ py ?_ (hh.nw hd)
    have hs2 : (ys.map fun q : Addr × (Int × Int) => V.ref q.1).Pairwise fun x y => SrtO.lexB (keyP zs y) (keyP zs x) = false := hs
    rw [List.pairwise_map] at hs2 ⊢
    refine List.Pairwise.imp_of_mem (fun {x y} hx hy h => ?_) hs2
    rw [key x (py.mem_iff.mp hx), key y (py.mem_iff.mp hy)] at h
    have h2 := SrtO.lexB_no.mp h
    unfold leP
    omega
theorem leP_uniq {xs ys : List (Int × Int)} (h1 : xs.Pairwise leP) (h2 : ys.Pairwise leP) (p : xs.Perm ys) : xs = ys := p.eq_of_pairwise (fun a b _ _ h h' => by
  unfold leP at h h'
  exact Prod.ext (by omega) (by omega)) h1 h2
theorem dpAll_prs {zs : Prs} (f : ∀ q ∈ zs, H q.1 = some (.tup [.int q.2.1, .int q.2.2])) : DpAll K H (prR zs) ((zs.map (·.2)).map fun q => PyData.tuple [.int q.1, .int q.2]) := by
  induction zs with
  | nil => exact .nil
  | cons z r ih => exact .cons (.tup (SqT.of (f z (List.mem_cons.mpr (.inl rfl)))) (.cons (.int _) (.cons (.int _) .nil))) (ih fun q hq => f q (List.mem_cons_of_mem _ hq))
def pd (q : Int × Int) : PyData := .tuple [.int q.1, .int q.2]
theorem eqv_prs (ns : List (Int × Int)) : ∀ ms : List (Int × Int), PyData.eqv (.list (ns.map pd)) (.list (ms.map pd)) = decide (ns = ms) := by
  induction ns with
  | nil =>
    intro ms
    cases ms with
    | nil => rfl
    | cons m r => rfl
  | cons n r ih =>
    intro ms
    cases ms with
    | nil => rfl
    | cons m s =>
      have h := ih s
      simp [PyData.eqv, PyData.eqvAll, pd] at h ⊢
      rw [h]
      by_cases e1 : n = m
      · subst e1; by_cases e2 : r = s <;> simp [e2]
      · have e3 : ¬ (n.1 = m.1 ∧ n.2 = m.2) := fun z => e1 (Prod.ext z.1 z.2)
        simp [e1]
        intro z1 z2
        exact absurd ⟨z1, z2⟩ e3
theorem lay_prs (ns : List (Int × Int)) : PyData.canLayAll0 (ns.map pd) = true := by
  induction ns with
  | nil => simp [PyData.canLayAll0]
  | cons n r ih => simp [PyData.canLayAll0, PyData.canLay0, pd] ; exact ih
theorem deep_prs (ns : List (Int × Int)) : PyData.depthAll (ns.map pd) ≤ 2 := by
  induction ns with
  | nil => simp [PyData.depthAll]
  | cons n r ih => simp [PyData.depthAll, PyData.depth, pd]; omega
theorem shaped_prs (ns : List (Int × Int)) : SeqAt.shaped (.list (ns.map pd)) = true := by
  have h := deep_prs ns
  simp [SeqAt.shaped, PyData.canLay0, lay_prs, PyData.depth]
  omega
theorem k_eqLP {zs ws : Prs} (hp : H a = some (.lst (prR zs))) (hq : H b = some (.lst (prR ws))) (fz : ∀ q ∈ zs, H q.1 = some (.tup [.int q.2.1, .int q.2.2])) (fw : ∀ q ∈ ws, H q.1 = some (.tup [.int q.2.1, .int q.2.2])) (q : Q (.bl (decide (zs.map (·.2) = ws.map (·.2)))) H) : rEqD K (.ref a) (.ref b) H Q :=
  ⟨_, _, .lst (SqL.of hp) (dpAll_prs fz), .lst (SqL.of hq) (dpAll_prs fw), shaped_prs _, shaped_prs _, by rw [show (fun q : Int × Int => PyData.tuple [.int q.1, .int q.2]) = pd from rfl, eqv_prs]; exact q⟩
theorem k_neLP {zs ws : Prs} (hp : H a = some (.lst (prR zs))) (hq : H b = some (.lst (prR ws))) (fz : ∀ q ∈ zs, H q.1 = some (.tup [.int q.2.1, .int q.2.2])) (fw : ∀ q ∈ ws, H q.1 = some (.tup [.int q.2.1, .int q.2.2])) (q : Q (.bl (!decide (zs.map (·.2) = ws.map (·.2)))) H) : rNeD K (.ref a) (.ref b) H Q :=
  ⟨_, _, .lst (SqL.of hp) (dpAll_prs fz), .lst (SqL.of hq) (dpAll_prs fw), shaped_prs _, shaped_prs _, by rw [show (fun q : Int × Int => PyData.tuple [.int q.1, .int q.2]) = pd from rfl, eqv_prs]; exact q⟩
/-- one more of the new objects -/
theorem fm_add {β : Type} {ob : β → HO} {D t : Addr} {m : List (Addr × β)} {b : β} (h : Has H ([(t, ob b)] :: [(D, .lst (fmR m))] :: fmU ob m :: L)) : Has (upd H D (.lst (fmR m ++ [.ref t]))) ([(D, .lst (fmR (m ++ [(t, b)])))] :: fmU ob (m ++ [(t, b)]) :: L) := by
  have h1 : Has (upd H D (.lst (fmR m ++ [.ref t]))) ([(t, ob b)] :: [(D, .lst (fmR m ++ [.ref t]))] :: fmU ob m :: L) := h.s1
  rw [fmR_snoc, fmU_snoc]
  exact (Has.op.mpr (h1.sub (show Sub (fmU ob m :: [(t, ob b)] :: _) _ from Sub.p2 (Sub.p0 Sub.rf)))).sub (Sub.p1 (Sub.p0 Sub.rf))
/-- [new object for .. in zs if c z] -/
theorem k_lcN {α β : Type} {g : TG} {tt : TT} {te : TE} {vs : List Nat} (zs : List α) (e : α → V) (ob : β → HO) (h : α → β) (c : α → Bool) (t : α → St) (hh : Has H L) (ha : ∀ H', Has H' L → H' a = some (.lst (zs.map e))) (hz : zs.length ≤ 100000) (hw : ∀ z ∈ zs, wipe (t z) vs = wipe σ vs)
    (hg : ∀ z ∈ zs, ∀ D m H' (Q' : St → Hp → Prop), Has H' ([(D, .lst (fmR m))] :: fmU ob m :: L) → Q' (t z) H' → g (e z) (wipe σ vs) H' Q')
    (ht : ∀ z ∈ zs, ∀ D m H' (Q' : Bool → Hp → Prop), Has H' ([(D, .lst (fmR m))] :: fmU ob m :: L) → (∀ H'', Has H'' ([(D, .lst (fmR m))] :: fmU ob m :: L) → Q' (c z) H'') → tt (t z) H' Q')
    (hs : ∀ z ∈ zs, c z = true → ∀ D m H' (Q' : VK), Has H' ([(D, .lst (fmR m))] :: fmU ob m :: L) → (∀ u H'', Has H'' ([(u, ob (h z))] :: [(D, .lst (fmR m))] :: fmU ob m :: L) → Q' (.ref u) H'') → te (t z) H' Q')
    (q : ∀ D m H', m.map (·.2) = (zs.filter c).map h → Has H' ([(D, .lst (fmR m))] :: fmU ob m :: L) → Q (.ref D) H') : kLcL K g tt te vs σ (.ref a) H Q := by
  refine k_lcL (L := L) hh (fun D i H' => ∃ m : List (Addr × β), m.map (·.2) = ((zs.take i).filter c).map h ∧ Has H' ([(D, .lst (fmR m))] :: fmU ob m :: L)) (ha H hh) (fun D H' h' => ⟨[], rfl, (Has.nilU.mpr h').sub (Sub.p1 (Sub.p0 Sub.rf))⟩) (fun D i H' h' => ha H' (h'.choose_spec.2.sub (Sub.skip (Sub.skip Sub.rf)))) (fun D i x H' hi h' => ?_) (fun D H' h' => ?_)
  · obtain ⟨m, em, h'⟩ := h'
    rw [List.getElem?_map] at hi
    obtain ⟨z, hz1, rfl⟩ := Option.map_eq_some_iff.mp hi
    have hm : z ∈ zs := List.mem_of_getElem? hz1
    have et : zs.take (i + 1) = zs.take i ++ [z] := by rw [List.take_add_one, hz1]; rfl
    refine hg z hm D m H' _ h' ⟨hw z hm, ht z hm D m H' _ h' fun H2 h2 => ?_⟩
    refine ifB (fun e => ?_) (fun e => ?_)
    · refine hs z hm e D m H2 _ h2 fun u H3 h3 => ?_
      refine ⟨_, h3.g1, ?_, m ++ [(u, h z)], ?_, fm_add h3⟩
      · rw [sizeLine_eq]
        unfold fmR
        rw [List.length_map]
        have l0 := congrArg List.length em
        rw [List.length_map, List.length_map] at l0
        have l1 := List.length_filter_le c (zs.take i)
        have l3 := List.length_take_le' i zs
        omega
      · rw [et, List.filter_append, List.map_append, List.map_append, em, List.filter_cons, if_pos e]
        rfl
    · refine ⟨m, ?_, h2⟩
      rw [et, List.filter_append, List.filter_cons, if_neg (by rw [e]; decide), em]
      simp
  · obtain ⟨m, em, h'⟩ := h'
    rw [List.length_map, List.take_length] at em
    exact q D m H' em h'
/-- the keys of a locked dict, pairs, with a test; the elements are new objects -/
theorem lc_keysTN {β : Type} {g : TG} {tt : TT} {te : TE} {o : Obj} {vs : List Nat} {mm : List ((Int × Int) × V)} (ob : β → HO) (h : Int × Int → β) (c : Int × Int → Bool) (t : Addr → Int × Int → St) (hh : Has H L) (hd : ∀ H', Has H' L → H' d = some (.frz o (dP mm))) (hz : mm.length ≤ 100000)
    (hw : ∀ q, ∀ z ∈ mm.map (·.1), wipe (t q z) vs = wipe σ vs)
    (hg : ∀ q, ∀ z ∈ mm.map (·.1), ∀ D m H' (Q' : St → Hp → Prop), H' q = some (.tup [.int z.1, .int z.2]) → Has H' ([(D, .lst (fmR m))] :: fmU ob m :: L) → Q' (t q z) H' → g (.ref q) (wipe σ vs) H' Q')
    (ht : ∀ q, ∀ z ∈ mm.map (·.1), ∀ D m H' (Q' : Bool → Hp → Prop), H' q = some (.tup [.int z.1, .int z.2]) → Has H' ([(D, .lst (fmR m))] :: fmU ob m :: L) → (∀ H'', H'' q = some (.tup [.int z.1, .int z.2]) → Has H'' ([(D, .lst (fmR m))] :: fmU ob m :: L) → Q' (c z) H'') → tt (t q z) H' Q')
    (hs : ∀ q, ∀ z ∈ mm.map (·.1), c z = true → ∀ D m H' (Q' : VK), H' q = some (.tup [.int z.1, .int z.2]) → Has H' ([(D, .lst (fmR m))] :: fmU ob m :: L) → (∀ u H'', Has H'' ([(u, ob (h z))] :: [(D, .lst (fmR m))] :: fmU ob m :: L) → Q' (.ref u) H'') → te (t q z) H' Q')
    (q : ∀ D m H', m.map (·.2) = ((mm.map (·.1)).filter c).map h → Has H' ([(D, .lst (fmR m))] :: fmU ob m :: L) → Q (.ref D) H') : kLc g tt te vs σ (Itkt d o (mk g2 mm)) H Q := by
  intro D hD
  have hl : (mk g2 mm).length = mm.length := mk_len _ _
  refine ⟨fun i m H' => m = mm.length - i ∧ i ≤ mm.length ∧ ∃ ms : List (Addr × β), ms.map (·.2) = (((mm.map (·.1)).take i).filter c).map h ∧ Has H' ([(D, .lst (fmR ms))] :: fmU ob ms :: L), ⟨mm.length, by simp, Nat.zero_le _, [], rfl, (Has.nilU.mpr (hh.nw hD)).sub (Sub.p1 (Sub.p0 Sub.rf))⟩, ?_⟩
  rintro i m H' ⟨rfl, hi, ms, em, p⟩
  have pl := hd H' (p.sub (Sub.skip (Sub.skip Sub.rf)))
  by_cases hlt : i < mm.length
  · refine .inr ⟨⟨pl, by rw [hl]; exact hlt⟩, fun H2 => ∃ ms : List (Addr × β), ms.map (·.2) = (((mm.map (·.1)).take (i + 1)).filter c).map h ∧ Has H2 ([(D, .lst (fmR ms))] :: fmU ob ms :: L), fun H2 p2 => ⟨mm.length - (i + 1), by omega, rfl, hlt, p2⟩, fun x H2 y => ?_⟩
    obtain ⟨e, kk, vv, r, hk, ex, hr⟩ := y
    subst e
    have hz1 : (mm.map (·.1))[i]? = some (mm[i]).1 := by rw [List.getElem?_map, List.getElem?_eq_getElem hlt]; rfl
    have hkk : kk = g2 (mm[i]).1 := by
      unfold mk at hk
      rw [List.getElem?_map, List.getElem?_eq_getElem hlt] at hk
      exact (congrArg Prod.fst (Option.some.inj hk)).symm
    subst hkk ex
    have hr : H2 r = some (.tup [.int (mm[i]).1.1, .int (mm[i]).1.2]) := hr
    have hm : (mm[i]).1 ∈ mm.map (·.1) := List.mem_of_getElem? hz1
    have et : (mm.map (·.1)).take (i + 1) = (mm.map (·.1)).take i ++ [(mm[i]).1] := by rw [List.take_add_one, hz1]; rfl
    refine hg r _ hm D ms H2 _ hr p ⟨hw r _ hm, ht r _ hm D ms H2 _ hr p fun H3 hr3 h3 => ?_⟩
    refine ifB (fun e => ?_) (fun e => ?_)
    · refine hs r _ hm e D ms H3 _ hr3 h3 fun u H4 h4 => ?_
      refine ⟨_, h4.g1, ?_, ms ++ [(u, h (mm[i]).1)], ?_, fm_add h4⟩
      · rw [sizeLine_eq]
        unfold fmR
        rw [List.length_map]
        have l0 := congrArg List.length em
        rw [List.length_map, List.length_map] at l0
        have l1 := List.length_filter_le c ((mm.map (·.1)).take i)
        have l3 := List.length_take_le' i (mm.map (·.1))
        rw [List.length_map] at l3
        omega
      · rw [et, List.filter_append, List.map_append, List.map_append, em, List.filter_cons, if_pos e]
        rfl
    · refine ⟨ms, ?_, h3⟩
      rw [et, List.filter_append, List.filter_cons, if_neg (by rw [e]; decide), em]
      simp
  · have e : i = mm.length := by omega
    subst e
    have e2 : (mm.map (·.1)).take mm.length = mm.map (·.1) := List.take_of_length_le (by rw [List.length_map]; exact Nat.le_refl _)
    rw [e2] at em
    exact .inl ⟨⟨pl, by rw [hl]; exact Nat.le_refl _⟩, q D ms H' em p⟩
theorem x_lcTN {β : Type} {td te : TE} {g : TG} {tt : TT} {vs : List Nat} {mm : List ((Int × Int) × V)} (ob : β → HO) (h : Int × Int → β) (c : Int × Int → Bool) (t : Addr → Int × Int → St) (hh : Has H ([(d, dP mm)] :: L)) (hz : mm.length ≤ 100000)
    (hw : ∀ q, ∀ z ∈ mm.map (·.1), wipe (t q z) vs = wipe σ vs)
    (htd : ∀ o H' (Q' : VK), Has H' ([(d, .frz o (dP mm))] :: L) → Q' (.ref d) H' → td σ H' Q')
    (hg : ∀ o q, ∀ z ∈ mm.map (·.1), ∀ D m H' (Q' : St → Hp → Prop), H' q = some (.tup [.int z.1, .int z.2]) → Has H' ([(D, .lst (fmR m))] :: fmU ob m :: [(d, .frz o (dP mm))] :: L) → Q' (t q z) H' → g (.ref q) (wipe σ vs) H' Q')
    (ht : ∀ o q, ∀ z ∈ mm.map (·.1), ∀ D m H' (Q' : Bool → Hp → Prop), H' q = some (.tup [.int z.1, .int z.2]) → Has H' ([(D, .lst (fmR m))] :: fmU ob m :: [(d, .frz o (dP mm))] :: L) → (∀ H'', H'' q = some (.tup [.int z.1, .int z.2]) → Has H'' ([(D, .lst (fmR m))] :: fmU ob m :: [(d, .frz o (dP mm))] :: L) → Q' (c z) H'') → tt (t q z) H' Q')
    (hs : ∀ o q, ∀ z ∈ mm.map (·.1), c z = true → ∀ D m H' (Q' : VK), H' q = some (.tup [.int z.1, .int z.2]) → Has H' ([(D, .lst (fmR m))] :: fmU ob m :: [(d, .frz o (dP mm))] :: L) → (∀ u H'', Has H'' ([(u, ob (h z))] :: [(D, .lst (fmR m))] :: fmU ob m :: [(d, .frz o (dP mm))] :: L) → Q' (.ref u) H'') → te (t q z) H' Q')
    (q : ∀ D m H', m.map (·.2) = ((mm.map (·.1)).filter c).map h → Has H' ([(D, .lst (fmR m))] :: fmU ob m :: [(d, dP mm)] :: L) → Q (.ref D) H') : tLockE (tLc (iKeys td) g tt te vs) σ H Q := by
  refine ⟨d, dP mm, hh.g0, trivial, fun o => ?_⟩
  have h1 : Has (upd H d (.frz o (dP mm))) ([(d, .frz o (dP mm))] :: L) := hh.s0
  have z : kLc g tt te vs σ (Itkt d o (mk g2 mm)) (upd H d (.frz o (dP mm))) (fun v H' => H' d = some (.frz o (dP mm)) ∧ Q v (upd H' d (dP mm))) :=
    lc_keysTN ob h c t h1 (fun H' h' => h'.g0) hz hw (hg o) (ht o) (hs o) fun D m H' em h' => ⟨h'.g2, q D m _ em h'.s2⟩
  exact htd o _ _ h1 ⟨d, o, rfl, .inr ⟨mk g2 mm, h1.g0, z⟩⟩
/-- xs.remove(k), xs.count(k) -/
theorem k_rem {ns : List Int} {k : Int} {M : List U} (hp : H a = some (.lst (ns.map V.int))) (hk : k ∈ ns) (hh : Has (upd H a (.lst ((ns.erase k).map V.int))) M) (q : ∀ H', Has H' M → Q .non H') : rRemI (.ref a) [.int k] H Q := by
  obtain ⟨j, h1, h2, h3, h4⟩ : ∃ j, j < ns.length ∧ ns[j]? = some k ∧ (∀ i, i < j → ns[i]? ≠ some k) ∧ ns.eraseIdx j = ns.erase k := by
    clear hp hh q
    induction ns with
    | nil => cases hk
    | cons z r ih =>
      by_cases e : z = k
      · exact ⟨0, Nat.succ_pos _, by rw [e]; rfl, fun i hi => absurd hi (Nat.not_lt_zero _), by rw [e, List.erase_cons_head]; rfl⟩
      · obtain ⟨j, h1, h2, h3, h4⟩ := ih ((List.mem_cons.mp hk).resolve_left fun z => e z.symm)
        refine ⟨j + 1, Nat.succ_lt_succ h1, h2, fun i hi => ?_, ?_⟩
        · cases i with
          | zero => exact fun z => e (Option.some.inj z)
          | succ i => exact h3 i (Nat.lt_of_succ_lt_succ hi)
        · rw [List.erase_cons_tail (by simpa using e), ← h4]
          rfl
  refine ⟨a, ns, k, j, rfl, rfl, hp, h2, h3, ?_⟩
  rw [h4]
  exact q _ hh
theorem k_cnt {ns : List Int} {k : Int} (hp : H a = some (.lst (ns.map V.int))) (q : Q (.int (ns.count k : Nat)) H) : rCntI K (.ref a) [.int k] H Q := ⟨a, ns, k, rfl, rfl, SqL.of hp, q⟩
/-! ### rows: a list of lists, each by itself -/
abbrev Rows := List (Addr × List Int)
def obL (l : List Int) : HO := .lst (l.map V.int)
theorem fm_out {β : Type} {ob : β → HO} {A B : List (Addr × β)} {b : β} (h : Has H (fmU ob (A ++ (a, b) :: B) :: L)) : Has H ([(a, ob b)] :: fmU ob A :: fmU ob B :: L) := by
  have e : fmU ob (A ++ (a, b) :: B) = fmU ob A ++ ([(a, ob b)] ++ fmU ob B) := by unfold fmU; rw [List.map_append]; rfl
  rw [e] at h
  exact (Has.op.mp ((Has.op.mp h).sub (show Sub ((_ ++ _) :: fmU ob A :: L) _ from Sub.p1 (Sub.p0 Sub.rf)))).sub (Sub.p0 (Sub.p1 (Sub.p0 Sub.rf)))
theorem fm_in {β : Type} {ob : β → HO} {A B : List (Addr × β)} {b : β} (h : Has H ([(a, ob b)] :: fmU ob A :: fmU ob B :: L)) : Has H (fmU ob (A ++ (a, b) :: B) :: L) := by
  have e : fmU ob (A ++ (a, b) :: B) = fmU ob A ++ ([(a, ob b)] ++ fmU ob B) := by unfold fmU; rw [List.map_append]; rfl
  rw [e]
  refine Has.op.mpr ?_
  exact (Has.op.mpr (h.sub (show Sub ([(a, ob b)] :: fmU ob B :: fmU ob A :: L) _ from Sub.p0 (Sub.p1 (Sub.p0 Sub.rf))))).sub (Sub.p1 (Sub.p0 Sub.rf))
theorem split_at {α : Type} : ∀ {l : List α} {k : Nat} {q : α}, l[k]? = some q → ∃ A B, l = A ++ q :: B ∧ A.length = k
  | [], k, q, h => by simp at h
  | x :: r, 0, q, h => ⟨[], r, by rw [show x = q from Option.some.inj h]; rfl, rfl⟩
  | x :: r, k + 1, q, h => by
    obtain ⟨A, B, e, el⟩ := split_at (l := r) (k := k) (q := q) h
    exact ⟨x :: A, B, by rw [e]; rfl, by rw [← el]; rfl⟩
theorem fmR_mid {β : Type} {A B : List (Addr × β)} {b c : β} : fmR (A ++ (a, b) :: B) = fmR (A ++ (a, c) :: B) := by unfold fmR; rw [List.map_append, List.map_append]; rfl
theorem fmR_at {β : Type} {A B : List (Addr × β)} {b : β} {k : Int} (k0 : 0 ≤ k) (h : A.length = k.toNat) : atI (fmR (A ++ (a, b) :: B)) k = some (.ref a) := by
  refine at_n k0 ?_
  unfold fmR
  rw [List.map_append, List.getElem?_append_right (by rw [List.length_map]; omega), List.length_map, h, Nat.sub_self]
  rfl
theorem k_lcRN {β : Type} {te : TE} {k : Nat} {n : Int} (ob : β → HO) (h : Int → β) (hh : Has H L) (hn : 0 ≤ n ∧ n ≤ 100000)
    (hs : ∀ z : Int, 0 ≤ z → z < n → ∀ D m H' (Q' : VK), Has H' ([(D, .lst (fmR m))] :: fmU ob m :: L) → (∀ u H'', Has H'' ([(u, ob (h z))] :: [(D, .lst (fmR m))] :: fmU ob m :: L) → Q' (.ref u) H'') → te ((wipe σ [k]).set k (some (.int z))) H' Q')
    (q : ∀ D m H', m.map (·.2) = (rgI n).map h → Has H' ([(D, .lst (fmR m))] :: fmU ob m :: L) → Q (.ref D) H') : kLcR (gName k) tYes te [k] σ [.int n] H Q := by
  have hw : ∀ x, wipe ((wipe σ [k]).set k (some x)) [k] = wipe σ [k] := fun x => by
    show ((σ.set k none).set k (some x)).set k none = σ.set k none
    rw [List.set_set, List.set_set]
  refine k_lcR (L := L) hh (fun D i H' => ∃ m : List (Addr × β), m.map (·.2) = (rgI i).map h ∧ Has H' ([(D, .lst (fmR m))] :: fmU ob m :: L)) hn (fun D H' h' => ⟨[], rfl, (Has.nilU.mpr h').sub (Sub.p1 (Sub.p0 Sub.rf))⟩) (fun D i H' hi h' => ?_) (fun D H' h' => ?_)
  · obtain ⟨m, em, h'⟩ := h'
    have et : rgI ((i + 1 : Nat) : Int) = rgI i ++ [(i : Int)] := by
      unfold rgI
      rw [Int.toNat_natCast, Int.toNat_natCast, List.range_succ, List.map_append]
      rfl
    have lr : (rgI (i : Int)).length = i := by rw [rgI_len, Int.toNat_natCast]
    refine ⟨hw _, ?_⟩
    refine x_yes (ifT (hs i (by omega) hi D m H' _ h' fun u H3 h3 => ?_))
    refine ⟨_, h3.g1, ?_, m ++ [(u, h i)], ?_, fm_add h3⟩
    · rw [sizeLine_eq]
      unfold fmR
      rw [List.length_map]
      have l0 := congrArg List.length em
      rw [List.length_map, List.length_map] at l0
      omega
    · rw [et, List.map_append, List.map_append, em]
      rfl
  · obtain ⟨m, em, h'⟩ := h'
    rw [Int.toNat_of_nonneg hn.1] at em
    exact q D m H' em h'
/-- b in bs, truths -/
theorem k_inB {neg : Bool} {bs : List Bool} {b : Bool} (hp : H p = some (.lst (bs.map V.bl))) (q : Q (.bl (if neg then !decide (b ∈ bs) else decide (b ∈ bs))) H) : rIn K neg (.bl b) (.ref p) H Q := by
  refine ⟨p, _, rfl, .inl (SqL.of hp), rfl, ?_, ?_⟩
  · rw [List.all_eq_true]
    intro y hy
    obtain ⟨z, _, rfl⟩ := List.mem_map.mp hy
    rfl
  · have e : inV (.bl b) (bs.map V.bl) = decide (b ∈ bs) := by
      unfold inV
      rw [List.any_map]
      by_cases h : b ∈ bs
      · rw [decide_eq_true h, List.any_eq_true]
        exact ⟨b, h, by simp [eqV]⟩
      · rw [decide_eq_false h, List.any_eq_false]
        intro z hz
        have : z ≠ b := fun e => h (e ▸ hz)
        cases b <;> cases z <;> simp_all [eqV]
    rw [e]
    exact q
theorem perm_mem {α : Type} [DecidableEq α] : ∀ {l m : List α}, l.Nodup → m.Nodup → (∀ z, z ∈ l ↔ z ∈ m) → l.Perm m
  | [], m, _, _, h => by
    cases m with
    | nil => exact .refl _
    | cons a r => exact absurd ((h a).mpr (List.mem_cons.mpr (.inl rfl))) List.not_mem_nil
  | a :: r, m, nl, nm, h => by
    have ha : a ∈ m := (h a).mp (List.mem_cons.mpr (.inl rfl))
    have nl2 := List.nodup_cons.mp nl
    have ih := perm_mem (l := r) (m := m.erase a) nl2.2 (nm.erase _) fun z => by
      rw [nm.mem_erase_iff]
      constructor
      · intro hz
        exact ⟨fun e => nl2.1 (e ▸ hz), (h z).mp (List.mem_cons_of_mem _ hz)⟩
      · intro hz
        rcases List.mem_cons.mp ((h z).mpr hz.2) with e | e
        · exact absurd e hz.1
        · exact e
    exact (ih.cons a).trans (List.perm_cons_erase ha).symm
theorem rise_nodup {l : List Int} (h : l.Pairwise (· < ·)) : l.Nodup := h.imp fun h => Int.ne_of_lt h
theorem rise_eq {l m : List Int} (h1 : l.Pairwise (· < ·)) (h2 : m.Pairwise (· < ·)) (h : ∀ z, z ∈ l ↔ z ∈ m) : l = m :=
  (perm_mem (rise_nodup h1) (rise_nodup h2) h).eq_of_pairwise (fun a b _ _ h h' => Int.le_antisymm h h') (h1.imp fun h => Int.le_of_lt h) (h2.imp fun h => Int.le_of_lt h)
end
end Sy
/-! More rules: C(e, k = v), a list taken apart, while. -/
namespace Sy
open PySem L2
abbrev gKw : List V → List V → List V := fun vs zs => vs ++ zs
/-- one of two readings of the same expression -/
def tOrE (t u : TE) : TE := fun σ H Q => t σ H Q ∨ u σ H Q
theorem pe_orE {X : Cx} {e : Expr} {t u : TE} (h1 : PE X e t) (h2 : PE X e u) : PE X e (tOrE t u) := ⟨fun pins s σ H Q I h => h.elim (h1.run pins s σ H Q I) (h2.run pins s σ H Q I)⟩
section
variable {K : PySem.W.Frag} {σ : St} {H H1 : Hp} {L : List U} {Q : VK} {QS : St → Hp → Prop} {a b d p C : Addr} {nx bk ct : St → Hp → Prop} {rt : VK} {xs : List V} {tr tk : TA}
def kMakeN (C : Addr) (n m : Nat) (sp : Sp) (gV : List V → List V → List V) (E : XK) (vs zs : List V) (H2 : Hp) (Q : VK) : Prop := vs.length = n ∧ zs.length = m ∧
  ∀ x dx, H2 x = none → H2 dx = none → dx ≠ x → sp (gV (.ref x :: vs) zs) (upd (upd H2 dx (.own x)) x (.ins C dx [])) (fun v H3 => v = .non ∧ Q (.ref x) H3) E
theorem x_makeN {n m : Nat} {sp : Sp} {gV : List V → List V → List V} {E : XK} (q : tr σ H fun vs H1 => tk σ H1 fun zs H2 => kMakeN C n m sp gV E vs zs H2 Q) : tMakeN C n m sp gV E tr tk σ H Q := q
theorem k_makeN {n m : Nat} {sp : Sp} {gV : List V → List V → List V} {E : XK} {vs zs : List V} (hh : Has H L) (hn : vs.length = n) (hm : zs.length = m) (q : ∀ x dx H', Has H' ([(x, .ins C dx [])] :: L) → sp (gV (.ref x :: vs) zs) H' (fun v H2 => v = .non ∧ Q (.ref x) H2) E) : kMakeN C n m sp gV E vs zs H Q :=
  ⟨hn, hm, fun x dx hx hd ne => q x dx _ ((hh.nw hd (o := .own x)).nw (p := x) (o := .ins C dx []) (by rw [upd_ne (Ne.symm ne)]; exact hx) |>.sub (Sub.p0 (Sub.skip Sub.rf)))⟩
theorem x_or1 {t u : TE} (q : t σ H Q) : tOrE t u σ H Q := .inl q
theorem x_or2 {t u : TE} (q : u σ H Q) : tOrE t u σ H Q := .inr q
theorem k_isB {b c : Bool} (q : Q (.bl (decide (b = c))) H) : rIsB (.bl b) (.bl c) H Q := ⟨b, c, rfl, rfl, q⟩
theorem k_notB {b c : Bool} (q : Q (.bl (!decide (b = c))) H) : rNotB (.bl b) (.bl c) H Q := ⟨b, c, rfl, rfl, q⟩
/-- None in xs, whole numbers -/
theorem k_inNon {ns : List Int} (hp : H p = some (.lst (ns.map V.int))) (q : Q (.bl false) H) : rIn K false .non (.ref p) H Q := by
  refine ⟨p, _, rfl, .inl (SqL.of hp), rfl, ?_, ?_⟩
  · rw [List.all_eq_true]
    intro y hy
    obtain ⟨z, _, rfl⟩ := List.mem_map.mp hy
    rfl
  · have e : inV .non (ns.map V.int) = false := by
      unfold inV
      rw [List.any_map, List.any_eq_false]
      intro z hz
      simp [eqV]
    rw [e]
    exact q
theorem x_glst {k : Nat} {g : TGs} (hp : H a = some (.lst xs)) (hl : xs.length = k) (q : g xs σ H QS) : gLst K k g (.ref a) σ H QS := ⟨a, xs, rfl, SqL.of hp, hl, q⟩
def kPar3 (i j l : Nat) (nx : St → Hp → Prop) (σ : St) (vs : List V) (H1 : Hp) : Prop := ∃ u v w, vs = [u, v, w] ∧ nx (((σ.set i (some u)).set j (some v)).set l (some w)) H1
theorem x_par3 {i j l : Nat} (q : tr σ H fun vs H1 => kPar3 i j l nx σ vs H1) : tPar3 i j l tr ⟨nx, rt, bk, ct⟩ σ H := q
theorem k_par3 {i j l : Nat} {u v w : V} (q : nx (((σ.set i (some u)).set j (some v)).set l (some w)) H) : kPar3 i j l nx σ [u, v, w] H := ⟨u, v, w, rfl, q⟩
/-- while: W m with the measure m -/
def kWb (W : Nat → St → Hp → Prop) (m : Nat) (tb : TS) (nx : St → Hp → Prop) (rt : VK) (σ : St) (H1 : Hp) : Prop := ∃ N : St → Hp → Prop, (∀ σ' H', N σ' H' → ∃ m', m' < m ∧ W m' σ' H') ∧ tb ⟨N, rt, nx, N⟩ σ H1
theorem k_while {c : TT} {tb : TS} (W : Nat → St → Hp → Prop) (m : Nat) (h0 : W m σ H)
    (hs : ∀ m σ H, W m σ H → c σ H fun b H1 => if b = true then kWb W m tb nx rt σ H1 else nx σ H1) : tWhile c tb ⟨nx, rt, bk, ct⟩ σ H := ⟨W, ⟨m, h0⟩, hs⟩
theorem k_wb {tb : TS} {W : Nat → St → Hp → Prop} {m : Nat} (q : tb ⟨fun σ' H' => ∃ m', m' < m ∧ W m' σ' H', rt, nx, fun σ' H' => ∃ m', m' < m ∧ W m' σ' H'⟩ σ H) : kWb W m tb nx rt σ H := ⟨_, fun _ _ h => h, q⟩
end
end Sy
/-! list(d.values()). -/
namespace Sy
open PySem PySem.W PySem.Calls PySem.Spec PyProof.Rows L2
def tListVals (te : TE) : TE := fun σ H Q => te σ H fun x H1 => ∃ (d : Addr) (kvs : List (Key × V)), x = .ref d ∧ H1 d = some (.dK kvs) ∧ ∀ p, H1 p = none → Q (.ref p) (upd H1 p (.lst (kvs.map (·.2))))
section
variable {X : Cx} {e : Expr} {te : TE} {p apos cpos pos : Pos}
theorem vals_snd : ∀ {kvs : List (Key × V)} {vs : List (Key × Value)}, KV kvs vs → Vals (kvs.map (·.2)) (vs.map (·.2))
  | _, _, .nil => .nil
  | _, _, .cons h t => .cons h.2 (vals_snd t)
theorem pe_listVals (hc : X.calm = true) (he : PE X e te) (hg : Gl X "list") (hm : X.mg "list" = none) (hv : bootBuiltins "list" = some (.type "list")) (hbase : attributeBase e "values" X.env (eval e X.env) = eval e X.env := by rfl) (hline : (apos.endLine == cpos.line) = true := by rfl)
    (hs : starEach [.Call (.Attribute e "values" apos) [] [] cpos] X.env = (false, eval (.Call (.Attribute e "values" apos) [] [] cpos) X.env) :: starEach [] X.env := by rfl) :
    PE X (.Call (.Name "list" p) [.Call (.Attribute e "values" apos) [] [] cpos] [] pos) (tListVals te) := by
  refine ⟨fun pins s σ H Q I hq => ?_⟩
  refine wpAny_Call_Name_kw (ld_blt I hg hm hv ?_)
  refine PyProof.Rows.callWith_type1 ?_ hs rfl
  rw [hs]
  show wpAny _ _ (spliced ((false, eval (.Call (.Attribute e "values" apos) [] [] cpos) X.env) :: backTo pos (starEach [] X.env))) _ _ s
  refine Calls.spliced_cons ?_
  refine wpAny_Call_method (T := "dict") (id := "dict.values") hbase rfl hline F.plainAttrs_dict F.slot_dict_values F.type_dict_values (thn (he.run pins s σ H _ I hq) fun u s1 ⟨x, H1, I1, rx, d, kvs, ex, hd, q⟩ => ?_)
  subst ex
  obtain rfl : u = Value.ref d := rx
  obtain ⟨hz, hs0, vs, kv, hdo⟩ := I1.hok d _ hd
  obtain ⟨ep, hat⟩ := hdo.dictAt
  have lk : kvs.length = vs.length := Paired.length kv
  have I2 : Inv X pins σ H1 { s1 with heap := s1.heap.push { cls := .type "dict_values", data := .fields #[.ref d] } } := I1.kept (t' := s1.toks) fun b ob q => Heap.get?_push_of_some _ q
  refine ⟨hdo.typeIs, hdo.mapOf.noDict, ?_⟩
  show wpAny _ _ (callWith cpos (.builtin "dict.values") [.ref d] [] []) _ X.xe s1
  refine method_meetsIn F.slot_dict_values F.entry_dict_values rfl (PySem.evalArgs_none ⟨rfl, hdo.typeIs, F.args_dict_values_1 _, _, meets_dict_values (mixKind X.prog X.w) d hs0, ⟨vs, hdo⟩, ?_⟩)
  refine Calls.spliced_nil ?_
  refine PySem.W.kdl_call (PySem.W.kdl_values (knd := mixKind X.prog X.w) (d := d) (r := s1.heap.objs.size) (kvs := vs) (ep := ep)) (I1.ok.hd hc) ⟨⟨_, Heap.get?_push_size _ rfl, rfl, rfl⟩, hat.push _⟩ (by omega) fun h' tk acc c hk hD hacc => ?_
  have ea : acc.toList = vs.map (·.2) := PySem.W.kdl_vals_eq acc.toList (by rw [Array.length_toList]; exact hacc.1) fun j v e => hacc.2 j v (by rw [← Array.getElem?_toList]; exact e)
  refine ⟨.ref _, _, I2.laid (t' := tk) (o := .lst (kvs.map (·.2))) hk (Nat.le_refl _) ⟨by rw [List.length_map]; omega, acc.toList, c, by rw [ea]; exact vals_snd kv, by rw [Array.toArray_toList]; exact hD⟩, rfl, q _ (I2.hok.fresh (Nat.le_refl _))⟩
end
end Sy
namespace Sy
open PySem L2
section
variable {K : PySem.W.Frag} {σ : St} {H H1 : Hp} {L : List U} {Q : VK} {a b d p C : Addr} {te : TE}
def kListVals (x : V) (H1 : Hp) (Q : VK) : Prop := ∃ (d : Addr) (kvs : List (Key × V)), x = .ref d ∧ H1 d = some (.dK kvs) ∧ ∀ p, H1 p = none → Q (.ref p) (upd H1 p (.lst (kvs.map (·.2))))
theorem x_listVals (q : te σ H fun x H1 => kListVals x H1 Q) : tListVals te σ H Q := q
theorem k_listVals {mm : List (Int × V)} (hh : Has H L) (hp : H d = some (dI mm)) (q : ∀ p H', Has H' ([(p, .lst (mm.map (·.2)))] :: L) → Q (.ref p) H') : kListVals (.ref d) H Q := by
  refine ⟨d, _, rfl, hp, fun p hp => ?_⟩
  have e : (mk g1 mm).map (·.2) = mm.map (·.2) := by unfold mk; rw [List.map_map]; rfl
  rw [e]
  exact q p _ (hh.nw hp)
end
end Sy
/-! More rules: xs[::-1], == of alike data, a place of a dict set. -/
namespace Sy
open PySem L2
theorem Has.permU {H : Hp} {u u' : U} {L : List U} (h : Has H (u :: L)) (p : u.Perm u') : Has H (u' :: L) := by
  obtain ⟨n, a⟩ := h
  have e : (u :: L).flatten.Perm (u' :: L).flatten := p.append_right L.flatten
  exact ⟨(e.map (·.1)).nodup_iff.mp n, fun q hq => a q (e.mem_iff.mpr hq)⟩
theorem fmU_perm {β : Type} {ob : β → HO} {m m' : List (Addr × β)} (p : m.Perm m') : (fmU ob m).Perm (fmU ob m') := p.map _
section
variable {K : PySem.W.Frag} {σ : St} {H H1 : Hp} {L : List U} {Q : VK} {a b d p C : Addr} {te : TE} {x y v : V} {i : Int}
def kRevL (K : PySem.W.Frag) (x : V) (H1 : Hp) (Q : VK) : Prop := ∃ a xs, x = .ref a ∧ SqL K H1 a xs ∧ ∀ p, H1 p = none → Q (.ref p) (upd H1 p (.lst xs.reverse))
theorem x_revL (q : te σ H fun x H1 => kRevL K x H1 Q) : tRevL K te σ H Q := q
theorem k_revL {xs : List V} (hh : Has H L) (hp : H a = some (.lst xs)) (q : ∀ p H', Has H' ([(p, .lst xs.reverse)] :: L) → Q (.ref p) H') : kRevL K (.ref a) H Q := ⟨a, xs, rfl, SqL.of hp, fun p hp => q p _ (hh.nw hp)⟩
theorem shaped_lay {d : PyData} (h : SeqAt.shaped d = true) : d.canLay0 = true := by
  unfold SeqAt.shaped at h
  exact (Bool.and_eq_true_iff.mp h).1
theorem k_neSame {dd : PyData} (hx : Dp K H x dd) (hy : Dp K H y dd) (hs : SeqAt.shaped dd = true) (q : Q (.bl false) H) : rNeD K x y H Q :=
  ⟨dd, dd, hx, hy, hs, hs, by rw [SeqAt.eqv_refl dd (shaped_lay hs)]; exact q⟩
theorem k_eqSame {dd : PyData} (hx : Dp K H x dd) (hy : Dp K H y dd) (hs : SeqAt.shaped dd = true) (q : Q (.bl true) H) : rEqD K x y H Q :=
  ⟨dd, dd, hx, hy, hs, hs, by rw [SeqAt.eqv_refl dd (shaped_lay hs)]; exact q⟩
theorem k_setD {mm : List (Int × V)} {M : List U} {Q : Hp → Prop} (hp : H a = some (dI mm)) (hl : mm.length < sizeLine) (hh : Has (upd H a (dI (putK mm i v))) M) (q : ∀ H', Has H' M → Q H') : rSetD (.ref a) (.int i) v H Q := by
  refine ⟨a, _, rfl, DPut.k (k := g1 i) hp (by rw [mk_len]; exact hl), ?_⟩
  rw [mk_put g1_inj]
  exact q _ hh
theorem x_ifAnd {t u : TT} {s1 s2 : TS} {nx bk ct : St → Hp → Prop} {rt : VK} {b1 b2 : Bool} (ht : ∀ Q' : Bool → Hp → Prop, Q' b1 H → t σ H Q') (hu : ∀ Q' : Bool → Hp → Prop, Q' b2 H → u σ H Q') (q1 : b1 = true → b2 = true → s1 ⟨nx, rt, bk, ct⟩ σ H) (q2 : ¬ (b1 = true ∧ b2 = true) → s2 ⟨nx, rt, bk, ct⟩ σ H) : tIfS (tAnd t u) s1 s2 ⟨nx, rt, bk, ct⟩ σ H := by
  refine x_if (x_and (ht _ ?_))
  cases b1 with
  | false => exact ifF (ifF (q2 (by simp)))
  | true =>
    refine ifT (hu _ ?_)
    cases b2 with
    | false => exact ifF (q2 (by simp))
    | true => exact ifT (q1 rfl rfl)
def srtI (l : List Int) : List Int := l.mergeSort (fun a b => decide (a ≤ b))
theorem srtI_eq {l ys : List Int} (p : ys.Perm l) (s : ys.Pairwise (· ≤ ·)) : ys = srtI l := by
  have p2 : (srtI l).Perm l := List.mergeSort_perm _ _
  have s2 : (srtI l).Pairwise (fun a b => decide (a ≤ b) = true) := List.pairwise_mergeSort (fun a b c h1 h2 => by simp at h1 h2 ⊢; omega) (fun a b => by simp; omega) l
  exact (p.trans p2.symm).eq_of_pairwise (fun a b _ _ h h' => Int.le_antisymm h h') s (s2.imp of_decide_eq_true)
end
end Sy
/-! len(x) of an own class with its own __len__; {k: v}. -/
namespace Sy
open PySem PySem.Spec PyProof.Rows L2
def rLenO (C : Addr) (sp : Sp) (E : XK) : List V → Hp → VK → Prop := fun xs H Q => ∃ (a dx : Addr) (fs : List (Str × V)), xs = [.ref a] ∧ H a = some (.ins C dx fs) ∧ sp [.ref a] H (fun v H' => ∃ n : Int, v = .int n ∧ 0 ≤ n ∧ n < 2 ^ 63 ∧ Q (.int n) H') E
theorem call_lenO {X : Cx} {CX : CXT} {C f : Addr} {fd : FuncData} {ps : List Str} {sp : Sp} {E : XK} {n : Nat} (F : FnOk X.prog X.w X.K X.mg X.base CX n f fd ps sp) (hr : Room (n + 1) X.A) (M : Meth X.K C "__len__" f) (hb : Binds X.K fd ps []) (hx : Passes CX X E) : CallR X (.builtin "len") (rLenO C sp E) := by
  intro pins s σ H xs us Q I r h
  obtain ⟨a, dx, fs, rfl, ha, hsp⟩ := h
  obtain ⟨u, rfl, ru⟩ := vals1 r
  obtain rfl : u = Value.ref a := ru
  obtain ⟨mA, J, _⟩ := ins_get I.hok ha
  obtain ⟨od, J, _⟩ := J.look
  obtain ⟨m, hF⟩ := I.fr
  refine PySem.W.len_K hF I.ok.mod.kin J M.at_ M.fn ?_
  have e0 : Env0 X.prog X.w X.K X.mg X.base X.A.in1 X.stack s H := by
    have e := I.env0
    exact ⟨e.frames, e.mod, e.bs, e.bsz, e.funs, e.frf, e.hok, e.bare⟩
  have hl := F.len _ _ _ _ hsp
  have r2 : Vals [V.ref a] [Value.ref a] := .cons rfl .nil
  refine wpAny_call (codeAny_mono (F.run X.A.in1 X.stack s H ⟨[.ref a], []⟩ [.ref a] [.ref a] _ E hr.in1 e0 (by
    have := hb s [.ref a] I.kIn (by simpa using hl)
    simpa using this) r2 hsp) fun r s' hq => ?_)
  cases r with
  | error e => exact hx pins σ H s e s' I hq
  | ok fl =>
    cases fl with
    | ret w =>
      obtain ⟨z, H', I', rz, k, ez, h0, h1, q⟩ := I.after hq
      subst ez
      obtain ⟨tk, rfl⟩ := rz
      exact ⟨⟨h0, h1⟩, .int k, H', I'.tok _, ⟨_, rfl⟩, q⟩
    | next => exact False.elim hq
    | brk => exact False.elim hq
    | cont => exact False.elim hq
end Sy
namespace Sy
open PySem L2
section
variable {σ : St} {H : Hp} {L : List U} {Q : VK} {a C dx p : Addr} {fs : List (Str × V)} {sp : Sp} {E : XK} {tk tv : TE} {i : Int} {v : V}
theorem k_lenO (hp : H a = some (.ins C dx fs)) (q : sp [.ref a] H (fun v H' => ∃ n : Int, v = .int n ∧ 0 ≤ n ∧ n < 2 ^ 63 ∧ Q (.int n) H') E) : rLenO C sp E [.ref a] H Q := ⟨a, dx, fs, rfl, hp, q⟩
def kDisp (p : Addr) (x v : V) (H2 : Hp) (Q : VK) : Prop := H2 p = some (.dK []) ∧ ∃ kvs : List (Key × V), [(x, v)] = kvs.map (fun kv => (kV kv.1, kv.2)) ∧ kvs.length ≤ 15 ∧ Q (.ref p) (upd H2 p (.dK (mergeK [] kvs)))
theorem x_disp1 (hh : Has H L) (q : ∀ p H', Has H' ([(p, dI [])] :: L) → tk σ H' fun x H1 => tv σ H1 fun v H2 => kDisp p x v H2 Q) : tDisp [(tk, tv)] σ H Q := fun p hp => q p _ (hh.nw hp)
theorem k_disp {M : List U} (hp : H p = some (dI [])) (hh : Has (upd H p (dI [(i, v)])) M) (q : ∀ H', Has H' M → Q (.ref p) H') : kDisp p (.int i) v H Q := by
  refine ⟨hp, [(g1 i, v)], rfl, (show 1 ≤ 15 by decide), ?_⟩
  have e : (HO.dK (mergeK [] [(g1 i, v)])) = dI [(i, v)] := by
    unfold mergeK
    rw [List.foldl_cons, List.foldl_nil]
    unfold putK
    simp [mk]
  rw [e]
  exact q _ hh
end
end Sy
/-! for k in d, d locked. -/
namespace Sy
open PySem L2
theorem x_forD {σ : St} {H : Hp} {L : List U} {k : Nat} {d : Addr} {mm : List (Int × V)} {tb : TS} {td : TE} {nx bk ct : St → Hp → Prop} {rt : VK} (Pv : Obj → Nat → St → Hp → Prop) (hh : Has H ([(d, dI mm)] :: L))
    (htd : ∀ o H' (Q' : VK), Has H' ([(d, .frz o (dI mm))] :: L) → Q' (.ref d) H' → td σ H' Q')
    (h0 : ∀ o H', Has H' ([(d, .frz o (dI mm))] :: L) → Pv o 0 σ H')
    (hl : ∀ o i σ' H', Pv o i σ' H' → H' d = some (.frz o (dI mm)))
    (hs : ∀ o (i : Nat) (z : Int) σ' H', (mm.map (·.1))[i]? = some z → Pv o i σ' H' → tb ⟨Pv o (i + 1), fun v H' => H' d = some (.frz o (dI mm)) ∧ rt v (upd H' d (dI mm)), fun σ' H' => H' d = some (.frz o (dI mm)) ∧ nx σ' (upd H' d (dI mm)), Pv o (i + 1)⟩ (σ'.set k (some (.int z))) H')
    (hd : ∀ o σ' H', Pv o mm.length σ' H' → nx σ' (upd H' d (dI mm))) : tLock (tFor (iKeys td) (gName k) tb) ⟨nx, rt, bk, ct⟩ σ H := by
  refine ⟨d, dI mm, hh.g0, trivial, fun o => ?_⟩
  have h1 : Has (upd H d (.frz o (dI mm))) ([(d, .frz o (dI mm))] :: L) := hh.s0
  have hlen : (mk g1 mm).length = mm.length := mk_len _ _
  refine htd o _ _ h1 ⟨d, o, rfl, .inl ⟨mk g1 mm, h1.g0, fun i m σ' H' => m = mm.length - i ∧ i ≤ mm.length ∧ Pv o i σ' H', ⟨mm.length, by simp, Nat.zero_le _, h0 o _ h1⟩, ?_⟩⟩
  rintro i m σ' H' ⟨rfl, hi, p⟩
  have pl := hl o i σ' H' p
  by_cases hlt : i < mm.length
  · refine .inr ⟨⟨pl, by rw [hlen]; exact hlt⟩, Pv o (i + 1), fun σ2 H2 p2 => ⟨mm.length - (i + 1), by omega, rfl, hlt, p2⟩, fun x H2 y => ?_⟩
    obtain ⟨e, kk, vv, hk, ex⟩ := y
    subst e
    have hz1 : (mm.map (·.1))[i]? = some (mm[i]).1 := by rw [List.getElem?_map, List.getElem?_eq_getElem hlt]; rfl
    have hkk : kk = g1 (mm[i]).1 := by
      unfold mk at hk
      rw [List.getElem?_map, List.getElem?_eq_getElem hlt] at hk
      exact (congrArg Prod.fst (Option.some.inj hk)).symm
    subst hkk
    have ex : x = .int (mm[i]).1 := ex
    subst ex
    exact hs o i _ σ' H2 hz1 p
  · have e : i = mm.length := by omega
    subst e
    exact .inl ⟨⟨pl, by rw [hlen]; exact Nat.le_refl _⟩, pl, hd o σ' H' p⟩
end Sy
/-! Exceptions that are kept: try .. except X as e: caught = e; isinstance of what was caught; defs with two promises. -/
namespace Sy
open PySem PySem.Spec PyProof.Rows L2
/-- a caught exception, at a -/
def ExK (cls : Value) (d : Option Addr) (a : Addr) : HO := .ext fun h => ∃ (oe : Obj) (vs : Array Value), h.get? a = some oe ∧ Zc cls d oe ∧ oe.data = .fields vs
theorem exK_ok {P : Program} {w : World} {H : Hp} {h : Heap} {a : Addr} {cls : Value} {d : Option Addr} {oe : Obj} {vs : Array Value} (e : h.get? a = some oe) (z : Zc cls d oe) (hd : oe.data = .fields vs) : ObjOk P w H h a (ExK cls d a) :=
  ⟨⟨oe, vs, e, z, hd⟩, ⟨oe, e⟩, fun _ _ ⟨o, v, q, r⟩ k => ⟨o, v, k o q, r⟩⟩
section
variable {X : Cx} {pins : List (Addr × Obj)} {σ : L2.St} {H : Hp} {s : Shared}
theorem Inv_track {a : Addr} {φ : Heap → Prop} (I : Inv X pins σ H s) (na : H a = none) (n0 : X.s_0.heap.get? a = none) (nL : a ≠ X.env.locals) (nC : ∀ x c, X.env.cells.lookup x = some c → c ≠ a) (nP : ∀ p ∈ X.pn ++ pins, p.1 ≠ a)
    (new : ObjOk X.prog X.w (upd H a (.ext φ)) s.heap a (.ext φ)) : Inv X pins σ (upd H a (.ext φ)) s := by
  refine ⟨I.ok, I.os, I.bare, ⟨I.base.keep, I.base.slot, fun b o e n hq => ?_, I.base.there, fun b xs e => ?_, fun b o u e => ?_, fun b ps e => ?_⟩, I.loc, I.cell, ?_, fun x c e => ?_, fun p hp => ?_, I.hok.laidN (fun _ _ q => q) na new, I.len⟩
  · rw [upd_ne (fun z => by rw [z, n0] at e; cases e)]
    exact I.base.free b o e n hq
  · have q := I.base.tups b xs e
    rw [upd_ne (ne_of_none q na)]
    exact q
  · have q := I.base.frzs b o u e
    rw [upd_ne (ne_of_none q na)]
    exact q
  · obtain ⟨m, q⟩ := I.base.tbls b ps e
    exact ⟨m, by rw [upd_ne (ne_of_none q na)]; exact q⟩
  · rw [upd_ne (Ne.symm nL)]
    exact I.free
  · rw [upd_ne (nC x c e)]
    exact I.freeC x c e
  · obtain ⟨e, n, ne, nf, d⟩ := I.pin p hp
    exact ⟨e, by rw [upd_ne (nP p hp)]; exact n, ne, nf, d⟩
end
/-- what the clause 'except x as n' wishes of an exception of the body, the exception kept behind it -/
def wKeep (K : PySem.W.Frag) (c : Value) (i : Nat) (ts : Addr → Value → Option Addr → TS) (Wout : WX) (D : Ends) : WX := fun cls d σ H =>
  ∃ b, PySem.W.exmOne K cls c = some b ∧ (b = true → ∀ a, H a = none → ts a cls d { nx := fun σ' H' => D.nx (σ'.set i none) (upd H' a (ExK cls d a)), rt := fun _ _ => False, bk := fun _ _ => False, ct := fun _ _ => False } (σ.set i (some (.ref a))) H) ∧
    (b = false → Wout cls d σ H)
section
variable {X : Cx} {x n : Str} {c : Value} {i : Nat} {body suite : List Stmt} {b₀ : Stmt} {np pos pos' : Pos} {tb : WX → TS} {ts : Addr → Value → Option Addr → TS} {Wout : WX}
theorem ps_try_keep (hs : X.stack = X.env :: X.outer) (hf : X.env.frame = some X.env.locals) (hex : X.ex = []) (hN : X.N.Nodup) (hi : X.N[i]? = some n) (hln : X.env.kindOf n = some .local) (hc : Names X x c) (tk : Takes X Wout)
    (hb : ∀ (W : WX) (pn : List (Addr × Obj)) (xe : Value → Shared → Prop), Takes (X.tr pn xe) W → PassesOwn (model X.prog X.w) X.A X.env xe → PSs (X.tr pn xe) body (tb W))
    (hsu : ∀ (a : Addr) (oe : Obj) (cls : Value) (d : Option Addr) (pn : List (Addr × Obj)), Zc cls d oe → (∃ vs, oe.data = .fields vs) → PSs (X.suite a ((a, oe) :: pn)) (b₀ :: suite) (ts a cls d)) :
    PS X (.Try body [.ExceptHandler (some (.Name x np)) (some n) (b₀ :: suite) pos'] [] [] pos) (fun D σ H => tb (wKeep X.K c i ts Wout D) D σ H) := by
  refine ⟨fun pins s σ H D I h => ?_⟩
  have ok := I.ok
  have hfr : X.A.frames = some (X.env :: X.outer) := by rw [ok.frames, hs]
  have hloc : Loc X.env.scope n := .inl hln
  refine wpAny_Try_except ?_
  refine wpAny_mono ((hb (wKeep X.K c i ts Wout D) (X.pn ++ pins) (fun e s₁ => wpAny (model X.prog X.w) X.A (noteFrame e X.env) (fun _ s₂ => wpAny (model X.prog X.w) X.A (setFlight e none) (fun _ s₃ =>
    wpAny (model X.prog X.w) X.A (handleBy e X.env [.ExceptHandler (some (.Name x np)) (some n) (b₀ :: suite) pos']) (SP X pins D) X.xe s₃) X.xe s₂) X.xe s₁) (fun u s' xx => ?_) PassesOwn.looking).run [] s σ H D (I.toTry _) h) (fun f s1 hsp => ?_) (fun e s1 he => he)
  · -- the catch
    obtain ⟨a, B, sI, pins', σ', H', cls, d, rfl, J', nb, up, sky, na, os, ag, b, hb1, hyes, hno⟩ := xx
    have J : Inv X pins σ' H' sI := J'.ofTry ok
    have sky' : Sky B (X.env :: X.outer) a (Zc cls d) X.env.locals s'.heap := by rw [← hs]; exact sky
    show wpAny (model X.prog X.w) X.A (noteFrame (.ref a) X.env) _ _ _
    refine Sky.land Zc.steady hfr hf sky' fun h3 fl3 up3 => ?_
    have J3 : Inv X pins σ' H' { s' with heap := h3 } := J.landed nb fl3.1 (up.trans up3) os ag
    obtain ⟨oe3, vs3, he3, hz3, hd3⟩ := fl3.there
    have notFr : ∀ {h : Heap} {o : Obj} {vs : Array Value}, h.FunFrames B (X.env :: X.outer) → h.get? a = some o → o.data = .fields vs → a ∉ frs (X.env :: X.outer) := fun {h o vs} ff e dd hm => by
      obtain ⟨_, o', e', hnf⟩ := ff.mem hm
      rw [e] at e'; cases e'
      exact hnf _ dd
    have nfr := notFr fl3.2.2.1 he3 hd3
    have nL : a ≠ X.env.locals := fun z => nfr (List.mem_filterMap.mpr ⟨X.env, List.mem_cons_self, by rw [hf, z]⟩)
    have nF : a ∉ X.fs := fun hm => by
      obtain ⟨e, he, q⟩ := List.mem_filterMap.mp hm
      exact nfr (List.mem_filterMap.mpr ⟨e, List.mem_cons_of_mem _ he, q⟩)
    have nI : sI.heap.get? a = none := by
      cases e : sI.heap.get? a with
      | none => rfl
      | some o =>
        have z := nb a o e (by rw [hs]; exact nfr)
        rw [fl3.2.1] at z
        cases z
    have n0 : X.s_0.heap.get? a = none := by
      cases e : X.s_0.heap.get? a with
      | none => rfl
      | some o =>
        obtain ⟨o', z⟩ := J.base.there a o e (by rw [hex]; exact fun z => nomatch z)
        rw [nI] at z
        cases z
    have nP : ∀ p ∈ X.pn ++ pins, p.1 ≠ a := fun p hp z => by
      obtain ⟨e, _⟩ := J.pin p hp
      rw [z, nI] at e
      cases e
    have S3 := J3.suite he3 hd3 na nL nF
    refine wpAny_handleBy_cons (codeAny_handlers_test ?_) (by intro q; cases q)
    have LT : PySem.W.Looks (model X.prog X.w) h3 (typeOf (.ref a)) cls := fun A Q E s k q => wpAny_typeOf_ref (k _ _ he3) (by rw [hz3.1]; exact q)
    have LM := PySem.W.exm_one (M := model X.prog X.w) (J3.kIn) LT hb1
    have test : ∀ {Q : Value → Shared → Prop} {E : Value → Shared → Prop}, Q c { s' with heap := h3 } → wpAny (model X.prog X.w) (X.A.mark (some (.ref a))) (eval (.Name x np) X.env) Q E { s' with heap := h3 } := fun {Q E} q => by
      obtain ⟨hg, hdbg, hm | ⟨hm, hv, hnn⟩⟩ := hc
      · exact ld_glob (X := X.suite a ((a, oe3) :: (X.pn ++ pins))) S3 hg hm q hdbg
      · exact ld_blt (X := X.suite a ((a, oe3) :: (X.pn ++ pins))) S3 hg hm hv q hnn hdbg
    refine test (LM.here ?_)
    cases b with
    | true =>
      refine codeAny_handlers_suite_as ?_
      refine HandSPX.lands_againZ fl3 fun h4 fl4 up4 => ?_
      have J4 : Inv X pins σ' H' { s' with heap := h4 } := J.landed nb fl4.1 ((up.trans up3).trans up4) os ag
      obtain ⟨oe4, vs4, he4, hz4, hd4⟩ := fl4.there
      have S4 := J4.suite he4 hd4 na nL nF
      refine store_ok (X := X.suite a ((a, oe4) :: (X.pn ++ pins))) (v := .ref a) S4 hN hi hloc rfl (fun s5 S5 => ?_) (.inr hln)
      refine wpAny_mono ((hsu a oe4 cls d (X.pn ++ pins) hz4 ⟨_, hd4⟩).run [] s5 _ H' _ S5 (hyes rfl a na)) (fun f s6 hsp => ?_) (fun _ _ z => False.elim z)
      cases f with
      | next =>
        obtain ⟨σ6, H6, S6, q6⟩ := hsp
        refine gone_ok (X := X.suite a ((a, oe4) :: (X.pn ++ pins))) S6 hN hi hln fun s7 S7 => ?_
        obtain ⟨e7, n7, _, _, d7⟩ := S7.pin (a, oe4) (List.mem_append.mpr (.inl List.mem_cons_self))
        have J7 := S7.unsuite ok
        refine ⟨_, _, Inv_track J7 n7 n0 nL (fun y c e z => ?_) nP (exK_ok e7 hz4 hd4), q6⟩
        obtain ⟨v, o, ho, hd⟩ := J7.cell y c e
        rw [z] at ho
        have ho : s7.heap.get? a = some o := ho
        rw [e7] at ho
        have := Option.some.inj ho
        subst this
        exact d7 _ hd
      | brk =>
        obtain ⟨_, _, _, q6⟩ := hsp
        exact q6.elim
      | cont =>
        obtain ⟨_, _, _, q6⟩ := hsp
        exact q6.elim
      | ret u =>
        obtain ⟨_, _, _, _, _, q6⟩ := hsp
        exact q6.elim
    | false =>
      show wpAny _ X.A (handleBy (.ref a) X.env []) _ _ _
      refine wpAny_handleBy_nil ?_
      obtain ⟨k1, k2, k3, oe, vs, T, oT, ts', he, hz, hd, h1, hr⟩ := id fl3
      unfold PySem.passOn
      refine wpAny_bind (wpAny_field he hd h1 ?_)
      rw [if_neg (show ¬ ((Value.ref T == Value.none) = true) from by simp)]
      have fin : wpAny (model X.prog X.w) X.A (setFlight (.ref a) X.env.frame) (fun _ s4 => wpAny (model X.prog X.w) X.A (throw (.ref a) : Sem Flow) (SP X pins D) X.xe s4) X.xe { s' with heap := h3 } := by
        rw [hf]
        refine HandSPX.setFlight_upZ fl3 fun h4 hh4 up4 => wpAny_throw (tk _ _ ?_)
        exact ⟨a, B, sI, pins, σ', H', cls, d, rfl, J, nb, (up.trans up3).trans up4, .inr (.inr (by rw [hs]; exact hh4)), na, os, ag, hno rfl⟩
      first
        | exact wpAny_bind (wpAny_pure (wpAny_bind fin))
        | exact wpAny_bind fin
  · cases f with
    | next => obtain ⟨σ6, H6, S6, q6⟩ := hsp; exact wpAny_execs_nil ⟨σ6, H6, S6.ofTry ok, q6⟩
    | brk => obtain ⟨σ6, H6, S6, q6⟩ := hsp; exact ⟨σ6, H6, S6.ofTry ok, q6⟩
    | cont => obtain ⟨σ6, H6, S6, q6⟩ := hsp; exact ⟨σ6, H6, S6.ofTry ok, q6⟩
    | ret u => obtain ⟨v6, σ6, H6, S6, r6, q6⟩ := hsp; exact ⟨v6, σ6, H6, S6.ofTry ok, r6, q6⟩
end
/-- isinstance(x, c), x an exception that was caught -/
def rIsK (K : PySem.W.Frag) : List V → Hp → VK → Prop := fun xs H Q => ∃ (a D : Addr) (c : V) (cv : Value) (b : Bool), xs = [.ref a, c] ∧ H a = some (ExK (.ref D) none a) ∧ ExcC K D ∧ (∀ u, RelV c u → u = cv) ∧ PySem.W.kitOne K (.ref D) cv = some b ∧ Q (.bl b) H
theorem call_isK {X : Cx} : CallR X (.builtin "isinstance") (rIsK X.K) := by
  intro pins s σ H xs us Q I r h
  obtain ⟨a, D, c, cv, b, rfl, ha, C, hcv, e, q⟩ := h
  cases r with
  | cons rx rr =>
    cases rr with
    | cons rt rr =>
      cases rr
      cases rx
      have ec := hcv _ rt
      subst ec
      obtain ⟨⟨oe, vs, hget, hz, hv⟩, _, _⟩ := I.hok a _ ha
      have J : PySem.W.InstAt s.heap a oe D none := by
        obtain ⟨oc, od, oda, osl⟩ := oe
        obtain ⟨h1, h2⟩ := hz
        dsimp only at h1 h2 hv
        subst h1 h2 hv
        exact ⟨hget, rfl, rfl, trivial⟩
      exact PySem.W.kia_one (PySem.W.handS_kitx_exc C.hg C.hk C.hs C.hd C.ha C.hn C.ht C.hm) I.kIn J e (fun z => nomatch z) fun tk => ⟨.bl b, H, I.kept (t' := tk) fun _ _ z => z, rfl, q⟩
/-! ### a def with two promises; a def that lets nothing out -/
section
variable {P : Program} {w : World} {K : PySem.W.Frag} {mg : Str → Option Value} {base : Heap} {CX CX' : CXT} {n m : Nat} {f : Addr} {fd : FuncData} {ps : List Str} {sp sp' : Sp}
theorem fn_mono (F : FnOk P w K mg base CX n f fd ps sp) (h : n ≤ m) : FnOk P w K mg base CX m f fd ps sp := ⟨F.len, fun A outer s H args us vs Q E hr e0 b r hsp => F.run A outer s H args us vs Q E (hr.mono h) e0 b r hsp⟩
theorem fn_or (F : FnOk P w K mg base CX n f fd ps sp) (G : FnOk P w K mg base CX m f fd ps sp') : FnOk P w K mg base CX (max n m) f fd ps (fun vs H Q E => sp vs H Q E ∨ sp' vs H Q E) :=
  ⟨fun vs H Q E h => h.elim (F.len vs H Q E) (G.len vs H Q E), fun A outer s H args us vs Q E hr e0 b r hsp => hsp.elim (fun h => F.run A outer s H args us vs Q E (hr.mono (Nat.le_max_left _ _)) e0 b r h) fun h => G.run A outer s H args us vs Q E (hr.mono (Nat.le_max_right _ _)) e0 b r h⟩
end
/-- both promises -/
def spOr (a b : Sp) : Sp := fun vs H Q E => a vs H Q E ∨ b vs H Q E
theorem fn_up {P : Program} {w : World} {K : PySem.W.Frag} {mg : Str → Option Value} {base : Heap} {CX : CXT} {n : Nat} {f : Addr} {fd : FuncData} {ps : List Str} {sp : Sp} (F : FnOk P w K mg base CX0 n f fd ps sp) : FnOk P w K mg base CX n f fd ps sp :=
  ⟨F.len, fun A outer s H args us vs Q E hr e0 b r hsp => codeAny_mono (F.run A outer s H args us vs Q E hr e0 b r hsp) fun r s' hq => by
    cases r with
    | error e => exact hq.elim
    | ok fl => cases fl <;> exact hq⟩
/-! ### xs.count(v), flat items -/
def rCntV (K : PySem.W.Frag) : V → List V → Hp → VK → Prop := fun x xs H Q => ∃ (a : Addr) (ys : List V) (y : V), x = V.ref a ∧ xs = [y] ∧ SqL K H a ys ∧ flatV y = true ∧ ys.all flatV = true ∧ Q (.int ((ys.countP fun z => eqV z y) : Nat)) H
theorem cnt_vals {y : V} : ∀ {ys : List V} {its : List Value}, Vals ys its → ys.all flatV = true → its.countP (eqU y) = ys.countP fun z => eqV z y
  | _, _, .nil, _ => rfl
  | _, _, .cons (a := z) (b := u) h t, f => by
    rw [List.all_cons, Bool.and_eq_true] at f
    rw [List.countP_cons, List.countP_cons, cnt_vals t f.2, eqU_of h f.1]
theorem mt_countV {X : Cx} : MtR X "list.count" (rCntV X.K) := by
  intro pins s σ H x xs v us Q I rx rxs h
  obtain ⟨a, ys, y, rfl, rfl, hs, fy, fys, q⟩ := h
  cases rx
  cases rxs with
  | cons ry rt =>
    rename_i uy ut
    cases rt
    obtain ⟨its, rv, ⟨⟨cls, dd, data, sl⟩, n, ho, hc, hdn, hd⟩, hlen⟩ := I.list hs
    simp only at hc hd
    subst hc hd
    refine call_meets PySem.F.slot_list_count ⟨_, ho, rfl⟩ PySem.F.entry_list_count (PySem.F.args_list_count_2 _ _)
      (SeqAt.list_countAt a its.toArray n dd sl uy (eqU y)) ⟨ho, fun u' hu' => mem_eqAt ry fy rv fys u' (by simpa using hu'), ?_⟩
    have ec : its.toArray.toList.countP (eqU y) = ys.countP fun z => eqV z y := cnt_vals rv fys
    refine ⟨.int ((ys.countP fun z => eqV z y) : Nat), H, I.tok _, ⟨s.toks, ?_⟩, q⟩
    show Value.int ((its.toArray.toList.countP (eqU y) : Nat) : Int) s.toks = _
    rw [ec]
/-! ### calls that may raise, within a try -/
section
variable {X : Cx} {CX : CXT} {k : Nat} {f C : Addr} {fd : FuncData} {ps : List Str} {sp : Sp} {E : L2.St → XK} {x m : Str} {p pos apos : Pos} {e o : Expr} {es : List Expr} {ta : TE} {t : TA}
def tMethS' (C : Addr) (m : Str) (sp : Sp) (E : L2.St → XK) (ta : TE) (t : TA) : TE := fun σ H Q => ta σ H fun x H1 => ∃ a dx fs, x = .ref a ∧ H1 a = some (.ins C dx fs) ∧ fs.lookup m = none ∧ t σ H1 fun vs H2 => sp (x :: vs) H2 Q (E σ)
theorem pe_methS' {pl : Sem Bool} (he : PE X o ta) (c : Cls X.K C) (hm : Meth X.K C m f) (F : FnOk X.prog X.w X.K X.mg X.base CX k f fd ps sp) (hr : Room k X.A) (hb : Binds X.K fd ps []) (hx : ∀ σ, PassesAt CX X σ (E σ)) (ha : PA X (e :: es) t)
    (hst : starEach (e :: es) X.env = (false, eval e X.env) :: starEach es X.env := by rfl) (hpl : (backTo pos (starEach es X.env)).any (·.1) = false := by rfl)
    (ht : eval (.Call (.Attribute o m apos) (e :: es) [] pos) X.env = (do
      let ov ← eval o X.env
      standAt apos.atName
      let (f, first) ← holding [ov] (getMethod ov m pl)
      callWith pos f first (backTo pos (starEach (e :: es) X.env)) (backToKw pos (keywordEach [] X.env))) := by rfl) :
    PE X (.Call (.Attribute o m apos) (e :: es) [] pos) (tMethS' C m sp E ta t) := by
  refine ⟨fun pins s σ H Q I h => ?_⟩
  refine PySem.W.methodCall_KW (pl := pl) (thn (he.run pins s σ H _ I h) fun u s1 ⟨x, H1, I1, rx, a, dx, fs, ex, ea, l, q⟩ => ?_) ht
  subst ex
  obtain rfl : u = Value.ref a := rx
  refine getmeth_ok I1 ea c hm l ?_
  refine PySem.W.callWith_K (first := [.ref a]) (h₀ := X.base) I.ok.mod.kin hm.kp (thn (ha.run pos pins s1 σ H1 _ I1 q) fun us s2 ⟨vs, H2, I2, r, q2⟩ => ⟨I2.kIn, ?_⟩) hst hpl
  exact run_fnS (us := .ref a :: us) (vs := .ref a :: vs) F hr hb (hx σ) I2 (.cons rfl r) q2
end
end Sy
namespace Sy
open PySem L2
/-- raise C('..') in a def whose way out is E -/
def tRaise (E : XK) (C : Addr) : TS := fun _ _ H => E (.ref C) none H
/-- try: .. except c as e: x = e (e in slot i, x in slot j) -/
def tTryK (K : PySem.W.Frag) (c : Value) (i j : Nat) (tb : WX → TS) : TS := fun D σ H => tb (wKeep K c i (fun _ _ _ => tAsg (tVar i) (gName j)) (fun _ _ _ _ => False) D) D σ H
section
variable {K : PySem.W.Frag} {σ : St} {H : Hp} {L : List U} {Q : VK} {nx bk ct : St → Hp → Prop} {rt : VK} {E : XK} {C : Addr} {cls c : Value} {d : Option Addr} {i j : Nat} {tb : WX → TS} {tr : TA} {ta : TE} {sp : Sp} {Es : St → XK} {a dx : Addr} {fs : List (Str × V)} {m : Str} {D : Ends} {Wout : WX}
theorem x_raise (q : E (.ref C) none H) : tRaise E C D σ H := q
theorem x_tryK (q : tb (wKeep K c i (fun _ _ _ => tAsg (tVar i) (gName j)) (fun _ _ _ _ => False) ⟨nx, rt, bk, ct⟩) ⟨nx, rt, bk, ct⟩ σ H) : tTryK K c i j tb ⟨nx, rt, bk, ct⟩ σ H := q
theorem k_keep (he : PySem.W.exmOne K cls c = some true) (hi : i < σ.length) (hh : Has H L) (q : ∀ a H', Has H' ([(a, ExK cls d a)] :: L) → nx (((σ.set i (some (.ref a))).set j (some (.ref a))).set i none) H') : wKeep K c i (fun _ _ _ => tAsg (tVar i) (gName j)) Wout ⟨nx, rt, bk, ct⟩ cls d σ H := by
  refine ⟨true, he, fun _ a ha => ⟨.ref a, ?_, ?_⟩, fun h => by cases h⟩
  · rw [List.getElem?_set_self hi]
  · exact q a _ (hh.nw ha)
theorem x_callS (q : tr σ H fun vs H1 => sp vs H1 Q (Es σ)) : tCallS sp Es tr σ H Q := q
def kMethS (C : Addr) (m : Str) (sp : Sp) (Es : St → XK) (t : TA) (σ : St) (x : V) (H1 : Hp) (Q : VK) : Prop := ∃ a dx fs, x = .ref a ∧ H1 a = some (.ins C dx fs) ∧ fs.lookup m = none ∧ t σ H1 fun vs H2 => sp (x :: vs) H2 Q (Es σ)
theorem x_methS (q : ta σ H fun x H1 => kMethS C m sp Es tr σ x H1 Q) : tMethS' C m sp Es ta tr σ H Q := q
theorem k_methS (hp : H a = some (.ins C dx fs)) (hl : fs.lookup m = none) (q : tr σ H fun vs H2 => sp (.ref a :: vs) H2 Q (Es σ)) : kMethS C m sp Es tr σ (.ref a) H Q := ⟨a, dx, fs, rfl, hp, hl, q⟩
theorem k_isK {D : Addr} {c : V} {cv : Value} {b : Bool} (hp : H a = some (ExK (.ref D) none a)) (hC : ExcC K D) (hc : ∀ u, RelV c u → u = cv) (hk : PySem.W.kitOne K (.ref D) cv = some b) (q : Q (.bl b) H) : rIsK K [.ref a, c] H Q := ⟨a, D, c, cv, b, rfl, hp, hC, hc, hk, q⟩
theorem k_isKR {D C : Addr} {b : Bool} (hp : H a = some (ExK (.ref D) none a)) (hC : ExcC K D) (hk : PySem.W.kitOne K (.ref D) (.ref C) = some b) (q : Q (.bl b) H) : rIsK K [.ref a, .ref C] H Q := k_isK hp hC (fun u r => r) hk q
theorem k_isKT {D : Addr} {t : String} {b : Bool} (hp : H a = some (ExK (.ref D) none a)) (hC : ExcC K D) (hk : PySem.W.kitOne K (.ref D) (.type t) = some b) (q : Q (.bl b) H) : rIsK K [.ref a, .ty t] H Q := k_isK hp hC (fun u r => r) hk q
theorem k_cntV {y : V} {ys : List V} (hp : H a = some (.lst ys)) (f1 : flatV y = true) (f2 : ys.all flatV = true) (q : Q (.int ((ys.countP fun z => eqV z y) : Nat)) H) : rCntV K (.ref a) [y] H Q := ⟨a, ys, y, rfl, rfl, SqL.of hp, f1, f2, q⟩
end
end Sy
local macro_rules | `(tactic| walk_at "hp") => `(tactic| first | assumption | exact Sy.Has.g0 (by assumption) | exact Sy.Has.g1 (by assumption) | exact Sy.Has.g2 (by assumption) | exact Sy.Has.g3 (by assumption) | exact Sy.Has.g4 (by assumption) | exact Sy.Has.g5 (by assumption) | exact Sy.Has.g6 (by assumption) | exact Sy.Has.g7 (by assumption) | exact Sy.Has.g8 (by assumption) | exact Sy.Has.g9 (by assumption) | exact Sy.Has.g10 (by assumption) | exact Sy.Has.g11 (by assumption) | exact Sy.Has.g12 (by assumption) | exact Sy.Has.g13 (by assumption) | exact Sy.Has.g14 (by assumption) | exact Sy.Has.g15 (by assumption))
local macro_rules | `(tactic| walk_at "hs") => `(tactic| first | exact Sy.Has.s0 (by assumption) | exact Sy.Has.s1 (by assumption) | exact Sy.Has.s2 (by assumption) | exact Sy.Has.s3 (by assumption) | exact Sy.Has.s4 (by assumption) | exact Sy.Has.s5 (by assumption) | exact Sy.Has.s6 (by assumption) | exact Sy.Has.s7 (by assumption) | exact Sy.Has.s8 (by assumption) | exact Sy.Has.s9 (by assumption) | exact Sy.Has.s10 (by assumption) | exact Sy.Has.s11 (by assumption) | exact Sy.Has.s12 (by assumption) | exact Sy.Has.s13 (by assumption) | exact Sy.Has.s14 (by assumption) | exact Sy.Has.s15 (by assumption))
local macro_rules | `(tactic| walk_at "sub1") => `(tactic| first | exact Sy.Sub.rf | apply Sy.Sub.p0 | apply Sy.Sub.p1 | apply Sy.Sub.p2 | apply Sy.Sub.p3 | apply Sy.Sub.p4 | apply Sy.Sub.p5 | apply Sy.Sub.p6 | apply Sy.Sub.p7 | apply Sy.Sub.p8 | apply Sy.Sub.p9 | apply Sy.Sub.p10 | apply Sy.Sub.p11 | apply Sy.Sub.p12 | apply Sy.Sub.p13 | apply Sy.Sub.p14 | apply Sy.Sub.p15 | apply Sy.Sub.skip)
local macro_rules | `(tactic| walk_at "sub") => `(tactic| repeat walk_at "sub1")
local macro_rules | `(tactic| walk_at "has") => `(tactic| (refine Sy.Has.sub (by assumption) ?_; repeat walk_at "sub1"))
local macro_rules | `(tactic| walk_at "sz") => `(tactic| first | (rw [PySem.sizeLine_eq]; first | decide | (simp; done) | (simp; omega) | omega) | omega)
local macro_rules | `(tactic| walk_at "cn") => `(tactic| first | assumption | omega | (unfold L2.CMul; omega) | (unfold L2.CDiv; omega) | (unfold L2.CPow; omega) | decide)
local macro_rules | `(tactic| walk_at "fl") => `(tactic| first | rfl | assumption)
local macro_rules | `(tactic| walk_at "ix") => `(tactic| first | assumption | rfl)
local macro_rules | `(tactic| walk_at "fsl") => `(tactic| first | assumption | decide | (simp; done))
local macro_rules | `(tactic| walk_at "put") => `(tactic| rfl)
local macro_rules | `(tactic| walk_at "st1") => `(tactic| first | with_reducible refine Sy.x_seq ?_ | with_reducible refine Sy.x_asg ?_ | with_reducible refine Sy.x_gname ?_ | with_reducible refine Sy.x_c ?_ | with_reducible refine Sy.x_op ?_ | with_reducible refine Sy.x_un ?_ | with_reducible refine Sy.x_test ?_ | with_reducible refine Sy.x_tB ?_ | with_reducible refine Sy.k_b ?_ | with_reducible refine Sy.x_if ?_ | with_reducible refine Sy.x_and ?_ | with_reducible refine Sy.x_or ?_ | with_reducible refine Sy.x_not ?_ | with_reducible refine Sy.x_andV ?_ | with_reducible refine Sy.x_orV ?_ | with_reducible refine Sy.x_notV ?_ | with_reducible refine Sy.k_andV ?_ | with_reducible refine Sy.k_orV ?_ | with_reducible refine Sy.k_notVt ?_ | with_reducible refine Sy.k_notVf ?_ | with_reducible refine Sy.k_notV ?_ | with_reducible refine Sy.ifNT ?_ | with_reducible refine Sy.ifNF ?_ | with_reducible refine Sy.x_ifE ?_ | with_reducible refine Sy.x_chain ?_ | with_reducible refine Sy.k_chain ?_ | with_reducible refine Sy.x_ret ?_ | with_reducible refine Sy.x_retN ?_ | with_reducible refine Sy.x_drop ?_ | with_reducible refine Sy.x_next ?_ | with_reducible refine Sy.x_brk ?_ | with_reducible refine Sy.x_ct ?_ | with_reducible refine Sy.x_cons ?_ | with_reducible refine Sy.x_nil ?_ | with_reducible refine Sy.x_call0 ?_ | with_reducible refine Sy.x_call ?_ | with_reducible refine Sy.x_meth ?_ | with_reducible refine Sy.x_cb ?_ | with_reducible refine Sy.x_fld ?_ | with_reducible refine Sy.x_sfld ?_ | with_reducible refine Sy.x_lst ?_ | with_reducible refine Sy.x_tup ?_ | with_reducible refine Sy.x_bm ?_ | with_reducible refine Sy.x_bm0 ?_ | with_reducible refine Sy.k_addI ?_ | with_reducible refine Sy.k_subI ?_ | with_reducible refine Sy.k_ltI ?_ | with_reducible refine Sy.k_leI ?_ | with_reducible refine Sy.k_gtI ?_ | with_reducible refine Sy.k_geI ?_ | with_reducible refine Sy.k_eqI ?_ | with_reducible refine Sy.k_neI ?_ | with_reducible refine Sy.k_eqB ?_ | with_reducible refine Sy.k_neB ?_ | with_reducible refine Sy.k_eqS ?_ | with_reducible refine Sy.k_neS ?_ | with_reducible refine Sy.k_isNo0 ?_ | with_reducible refine Sy.k_isNoI ?_ | with_reducible refine Sy.k_isNoR ?_ | with_reducible refine Sy.k_notNo0 ?_ | with_reducible refine Sy.k_notNoI ?_ | with_reducible refine Sy.k_notNoR ?_ | with_reducible refine Sy.k_eqIN ?_ | with_reducible refine Sy.k_eqNI ?_ | with_reducible refine Sy.k_eqNN ?_ | with_reducible refine Sy.k_neIN ?_ | with_reducible refine Sy.k_neNI ?_ | with_reducible refine Sy.k_neNN ?_ | with_reducible refine Sy.ifT ?_ | with_reducible refine Sy.ifF ?_ | with_reducible refine Sy.x_gcons ?_ | with_reducible refine Sy.x_gnil ?_ | with_reducible refine Sy.x_gsub ?_ | with_reducible refine Sy.x_rg1 ?_ | with_reducible refine Sy.k_rg1 ?_ | with_reducible refine Sy.x_lstRg ?_ | with_reducible refine Sy.x_make ?_ | with_reducible refine Sy.x_dget ?_ | with_reducible refine Sy.x_din ?_ | with_reducible refine Sy.x_dnot ?_ | with_reducible refine Sy.x_dput ?_ | with_reducible refine Sy.x_dpop1 ?_ | with_reducible refine Sy.x_dget2 ?_ | with_reducible refine Sy.x_dget1 ?_ | with_reducible refine Sy.x_forR ?_ | with_reducible refine Sy.x_forL ?_ | with_reducible refine Sy.x_lcL ?_ | with_reducible refine Sy.x_lcR ?_ | with_reducible refine Sy.x_yes ?_ | with_reducible refine Sy.k_isiII ?_ | with_reducible refine Sy.k_isiIB ?_ | with_reducible refine Sy.k_isiBI ?_ | with_reducible refine Sy.k_isiBB ?_ | with_reducible refine Sy.x_par ?_ | with_reducible refine Sy.k_par ?_ | with_reducible refine Sy.k_neDNN ?_ | with_reducible refine Sy.k_eqDNN ?_ | with_reducible refine Sy.x_cfn ?_ | with_reducible refine Sy.k_cfn0 ?_ | with_reducible refine Sy.x_dpopT ?_ | with_reducible refine Sy.x_makeN ?_ | with_reducible refine Sy.x_par3 ?_ | with_reducible refine Sy.k_par3 ?_ | with_reducible refine Sy.k_isB ?_ | with_reducible refine Sy.k_notB ?_ | with_reducible refine Sy.x_listVals ?_ | with_reducible refine Sy.x_revL ?_ | with_reducible refine Sy.x_raise ?_ | with_reducible refine Sy.x_tryK ?_ | with_reducible refine Sy.x_callS ?_ | with_reducible refine Sy.x_methS ?_ | with_reducible refine Sy.x_sset (fun _ => ?_))
local macro_rules | `(tactic| walk_at "st2") => `(tactic| first | ((with_reducible refine' Sy.x_var ?h ?q); (case h => rfl)) | ((with_reducible refine' Sy.k_fld ?hp ?hc ?hn ?hl ?q); (case hp => walk_at "hp"); (case hc => assumption); (case hn => assumption); (case hl => walk_at "fl")) | ((with_reducible refine' Sy.k_meth0 ?hp ?hl ?q); (case hp => walk_at "hp"); (case hl => walk_at "fl")) | ((with_reducible refine' Sy.k_meth ?hp ?hl ?q); (case hp => walk_at "hp"); (case hl => walk_at "fl")) | ((with_reducible refine' Sy.k_ixL ?hp ?hi ?q); (case hp => walk_at "hp"); (case hi => walk_at "ix")) | ((with_reducible refine' Sy.k_ixT ?hp ?hi ?q); (case hp => walk_at "hp"); (case hi => walk_at "ix")) | ((with_reducible refine' Sy.k_tyL ?hp ?q); (case hp => walk_at "hp")) | ((with_reducible refine' Sy.k_lenL ?hp ?q); (case hp => walk_at "hp")) | ((with_reducible refine' Sy.k_lenT ?hp ?q); (case hp => walk_at "hp")) | ((with_reducible refine' Sy.k_lenK ?hp ?q); (case hp => walk_at "hp")) | ((with_reducible refine' Sy.k_isiLL ?hp ?q); (case hp => walk_at "hp")) | ((with_reducible refine' Sy.k_isiTT ?hp ?q); (case hp => walk_at "hp")) | ((with_reducible refine' Sy.k_all ?hp ?q); (case hp => walk_at "hp")) | ((with_reducible refine' Sy.k_sum ?hp ?q); (case hp => walk_at "hp")) | ((with_reducible refine' Sy.k_isD ?hp ?q); (case hp => walk_at "hp")) | ((with_reducible refine' Sy.k_isDT ?hp ?q); (case hp => walk_at "hp")) | ((with_reducible refine' Sy.k_din ?hp ?q); (case hp => walk_at "hp")) | ((with_reducible refine' Sy.k_dnot ?hp ?q); (case hp => walk_at "hp")) | ((with_reducible refine' Sy.k_dget2 ?hp ?q); (case hp => walk_at "hp")) | ((with_reducible refine' Sy.k_dget1 ?hp ?q); (case hp => walk_at "hp")) | ((with_reducible refine' Sy.k_dinP ?hp ?hb ?q); (case hp => walk_at "hp"); (case hb => walk_at "hp")) | ((with_reducible refine' Sy.k_dnotP ?hp ?hb ?q); (case hp => walk_at "hp"); (case hb => walk_at "hp")) | ((with_reducible refine' Sy.k_dget2P ?hp ?hb ?q); (case hp => walk_at "hp"); (case hb => walk_at "hp")) | ((with_reducible refine' Sy.k_dget ?hp ?hv ?q); (case hp => walk_at "hp"); (case hv => walk_at "ix")) | ((with_reducible refine' Sy.k_dgetF ?hp ?hv ?q); (case hp => walk_at "hp"); (case hv => walk_at "ix")) | ((with_reducible refine' Sy.k_dgetP ?hp ?hb ?hv ?q); (case hp => walk_at "hp"); (case hb => walk_at "hp"); (case hv => walk_at "ix")) | ((with_reducible refine' Sy.k_mulI ?h ?q); (case h => walk_at "cn")) | ((with_reducible refine' Sy.k_divI ?h ?q); (case h => walk_at "cn")) | ((with_reducible refine' Sy.k_modI ?h ?q); (case h => walk_at "cn")) | ((with_reducible refine' Sy.k_powI ?h ?q); (case h => walk_at "cn")) | ((with_reducible refine' Sy.x_gtup ?hp ?hl ?q); (case hp => walk_at "hp"); (case hl => rfl)) | ((with_reducible refine' Sy.k_inIt ?hp ?q); (case hp => walk_at "hp")) | ((with_reducible refine' Sy.k_inIf ?hp ?q); (case hp => walk_at "hp")) | ((with_reducible refine' Sy.k_eqLN ?hp ?hq ?q); (case hp => walk_at "hp"); (case hq => walk_at "hp")) | ((with_reducible refine' Sy.k_neLN ?hp ?hq ?q); (case hp => walk_at "hp"); (case hq => walk_at "hp")) | ((with_reducible refine' Sy.k_eqLI ?hp ?hq ?q); (case hp => walk_at "hp"); (case hq => walk_at "hp")) | ((with_reducible refine' Sy.k_neLI ?hp ?hq ?q); (case hp => walk_at "hp"); (case hq => walk_at "hp")) | ((with_reducible refine' Sy.k_cnt ?hp ?q); (case hp => walk_at "hp")) | ((with_reducible refine' Sy.k_lenO ?hp ?q); (case hp => walk_at "hp")) | ((with_reducible refine' Sy.k_methS ?hp ?hl ?q); (case hp => walk_at "hp"); (case hl => walk_at "fl")) | ((with_reducible refine' Sy.k_isKR ?hp ?hC ?hk ?q); (case hp => walk_at "hp"); (case hC => assumption); (case hk => assumption)) | ((with_reducible refine' Sy.k_isKT ?hp ?hC ?hk ?q); (case hp => walk_at "hp"); (case hC => assumption); (case hk => assumption)) | ((with_reducible refine' Sy.x_glst ?hp ?hl ?q); (case hp => walk_at "hp"); (case hl => rfl)) | ((with_reducible refine' Sy.k_dgetFP ?hp ?hb ?hv ?q); (case hp => walk_at "hp"); (case hb => walk_at "hp"); (case hv => walk_at "ix")))
local macro_rules | `(tactic| walk_at "st3") => `(tactic| first | ((with_reducible refine' Sy.k_rem ?hp ?hk ?hh ?q); (case hp => walk_at "hp"); (case hk => assumption); (case hh => walk_at "hs"); intro _ _) | ((with_reducible refine' Sy.k_dpopT ?hp ?hb ?hv ?hh ?q); (case hp => walk_at "hp"); (case hb => walk_at "hp"); (case hv => walk_at "ix"); (case hh => walk_at "hs"); intro _ _) | ((with_reducible refine' Sy.k_sset ?hh ?hp ?hl ?q); (case hh => assumption); (case hp => walk_at "hp"); (case hl => first | assumption | omega | walk_at "sz"); intro _ _ _ _ _ _) | ((with_reducible refine' Sy.k_lst ?hh ?hl ?q); (case hh => assumption); (case hl => walk_at "sz"); intro _ _ _) | ((with_reducible refine' Sy.k_make0 ?hh ?q); (case hh => assumption); intro _ _ _ _) | ((with_reducible refine' Sy.k_listVals ?hh ?hp ?q); (case hh => assumption); (case hp => walk_at "hp"); intro _ _ _) | ((with_reducible refine' Sy.x_disp1 ?hh ?q); (case hh => assumption); intro _ _ _) | ((with_reducible refine' Sy.k_disp ?hp ?hh ?q); (case hp => walk_at "hp"); (case hh => walk_at "hs"); intro _ _) | ((with_reducible refine' Sy.k_revL ?hh ?hp ?q); (case hh => assumption); (case hp => walk_at "hp"); intro _ _ _) | ((with_reducible refine' Sy.k_setD ?hp ?hl ?hh ?q); (case hp => walk_at "hp"); (case hl => walk_at "sz"); (case hh => walk_at "hs"); intro _ _) | ((with_reducible refine' Sy.k_make ?hh ?q); (case hh => assumption); intro _ _ _ _) | ((with_reducible refine' Sy.k_makeN ?hh ?hn ?hm ?q); (case hh => assumption); (case hn => rfl); (case hm => rfl); intro _ _ _ _) | ((with_reducible refine' Sy.k_tupN ?hh ?hl ?q); (case hh => assumption); (case hl => walk_at "sz"); intro _ _ _) | ((with_reducible refine' Sy.k_setL ?hp ?hk ?hh ?q); (case hp => walk_at "hp"); (case hk => walk_at "ix"); (case hh => walk_at "hs"); intro _ _) | ((with_reducible refine' Sy.k_app ?hp ?hl ?hh ?q); (case hp => walk_at "hp"); (case hl => walk_at "sz"); (case hh => walk_at "hs"); intro _ _) | ((with_reducible refine' Sy.k_add ?hp ?hl ?hh ?q); (case hp => walk_at "hp"); (case hl => walk_at "sz"); (case hh => walk_at "hs"); intro _ _) | ((with_reducible refine' Sy.k_pop ?hp ?hl ?hh ?q); (case hp => walk_at "hp"); (case hl => walk_at "ix"); (case hh => walk_at "hs"); intro _ _) | ((with_reducible refine' Sy.k_sfld ?hp ?hc ?hn ?hl ?he ?hh ?q); (case hp => walk_at "hp"); (case hc => assumption); (case hn => assumption); (case hl => walk_at "fsl"); (case he => walk_at "put"); (case hh => walk_at "hs"); intro _ _) | ((with_reducible refine' Sy.k_cat ?hh ?hp ?hq ?hl ?q); (case hh => assumption); (case hp => walk_at "hp"); (case hq => walk_at "hp"); (case hl => walk_at "sz"); intro _ _ _) | ((with_reducible refine' Sy.k_rep ?hh ?hp ?h0 ?h1 ?q); (case hh => assumption); (case hp => walk_at "hp"); (case h0 => omega); (case h1 => omega); intro _ _ _) | ((with_reducible refine' Sy.k_lstRg ?hh ?h0 ?h1 ?q); (case hh => assumption); (case h0 => omega); (case h1 => omega); intro _ _ _) | ((with_reducible refine' Sy.x_dnewK ?hh ?q); (case hh => assumption); intro _ _ _) | ((with_reducible refine' Sy.x_dnewT ?hh ?q); (case hh => assumption); intro _ _ _) | ((with_reducible refine' Sy.k_dput ?hp ?hl ?hh ?q); (case hp => walk_at "hp"); (case hl => walk_at "sz"); (case hh => walk_at "hs"); intro _ _) | ((with_reducible refine' Sy.k_dputP ?hp ?hb ?hl ?hh ?q); (case hp => walk_at "hp"); (case hb => walk_at "hp"); (case hl => walk_at "sz"); (case hh => walk_at "hs"); intro _ _) | ((with_reducible refine' Sy.k_dpop1 ?hp ?hv ?hh ?q); (case hp => walk_at "hp"); (case hv => walk_at "ix"); (case hh => walk_at "hs"); intro _ _) | ((with_reducible refine' Sy.k_listOf ?hh ?hp ?q); (case hh => assumption); (case hp => walk_at "hp"); intro _ _ _) | ((with_reducible refine' Sy.k_sortI ?hh ?hp ?q); (case hh => assumption); (case hp => walk_at "hp"); intro _ _ _ _ _ _) | ((with_reducible refine' Sy.k_sortD ?hh ?hp ?hl ?q); (case hh => assumption); (case hp => walk_at "hp"); (case hl => first | assumption | omega | walk_at "sz"); intro _ _ _ _ _ _))
local macro_rules | `(tactic| walk_at "go1") => `(tactic| first | walk_at "st1" | walk_at "st2" | walk_at "st3")
local macro_rules | `(tactic| walk_at "go") => `(tactic| repeat walk_at "go1")
namespace La
open PySem L2 Sy
def t_is_whole (K : PySem.W.Frag) : TS :=
  tRet (tAndV (tCB (rIsi K) (tCons (tVar 0) (tCons (tC (.ty "int")) (tNil)))) (tAndV (tNotV (tCB (rIsi K) (tCons (tVar 0) (tCons (tC (.ty "bool")) (tNil))))) (tChain rLeI rLeI (tVar 1) (tVar 0) (tVar 2))))
def t_look_number (K : PySem.W.Frag) (sp_is_whole : Sp) : TS :=
  tIfS (tNot (tB (tCall sp_is_whole [] E0 (tCons (tVar 0) (tCons (tVar 1) (tCons (tVar 2) (tNil))))))) (tNever) (tNext)
def t_Store_init (K : PySem.W.Frag) (sp_look_number : Sp) : TS :=
  tSeq (tDrop (tCall sp_look_number [] E0 (tCons (tVar 1) (tCons (tC (.int 1)) (tCons (tC (.int 6)) (tNil))))))
    (tSeq (tDrop (tCall sp_look_number [] E0 (tCons (tVar 2) (tCons (tC (.int 1)) (tCons (tC (.int 5)) (tNil))))))
    (tSeq (sFld K (tVar 0) (tVar 1) "hands")
    (tSeq (sFld K (tVar 0) (tCB (rDictP K) (tCons (tLc (iRng1 (tCons (tVar 2) (tNil))) (gName 3) tYes (tTup (tCons (tVar 3) (tCons (tC (.int 0)) (tNil)))) [3]) (tNil))) "worth")
    (tSeq (sFld K (tVar 0) (tLstRg (tRg1 (tVar 2))) "cells")
    (sFld K (tVar 0) (tVar 2) "made")))))
def t_Store_look_cell (K : PySem.W.Frag) (sp_is_whole : Sp) : TS :=
  tIfS (tNot (tB (tCall sp_is_whole [] E0 (tCons (tVar 1) (tCons (tC (.int 0)) (tCons (tOp rSubI (tCB (rLenQ K) (tCons (tFld K (tVar 0) "cells") (tNil))) (tC (.int 1))) (tNil))))))) (tNever) (tNext)
def t_Store_after_swap (K : PySem.W.Frag) : TS :=
  tRet (tC .non)
def t_Store_swap (K : PySem.W.Frag) (C_Store : Addr) (sp_Store__Store_look_cell sp_look_number sp_Store__Store_after_swap : Sp) : TS :=
  tSeq (tDrop (tMeth C_Store "look_cell" sp_Store__Store_look_cell [] E0 (tVar 0) (tCons (tVar 1) (tNil))))
    (tSeq (tDrop (tCall sp_look_number [] E0 (tCons (tVar 2) (tCons (tC (.int 0)) (tCons (tC (.int 999)) (tNil))))))
    (tSeq (tAsg (tOp (rIxL K) (tFld K (tVar 0) "cells") (tVar 1)) (gName 3))
    (tSeq (sDPut (tFld K (tVar 0) "worth") (tFld K (tVar 0) "made") (tVar 2))
    (tSeq (tAsg (tFld K (tVar 0) "made") (gSub (tFld K (tVar 0) "cells") (tVar 1) rSetL))
    (tSeq (sFld K (tVar 0) (tOp rAddI (tFld K (tVar 0) "made") (tC (.int 1))) "made")
    (tSeq (tDrop (tMeth C_Store "after_swap" sp_Store__Store_after_swap [] E0 (tVar 0) (tCons (tVar 3) (tNil))))
    (tRet (tVar 3))))))))
def t_Store_now (K : PySem.W.Frag) : TS :=
  tRet (tLc (iList K (tFld K (tVar 0) "cells")) (gName 1) tYes (tDGet (tFld K (tVar 0) "worth") (tVar 1)) [1])
def t_Store_kept (K : PySem.W.Frag) : TS :=
  tRet (tCB rSortD (tCons (tFld K (tVar 0) "worth") (tNil)))
def t__law_town (K : PySem.W.Frag) : TS :=
  tRet (tLst (tCons (tIf (tTest (tOp (rNeD K) (tVar 0) (tLst (tNil)))) (tCB (rListOf K) (tCons (tVar 0) (tNil))) (tLst (tCons (tC (.int 0)) (tNil)))) (tCons (tC (.int 0)) (tNil))))
def t__law_draw (K : PySem.W.Frag) : TS :=
  tSeq (tAsg (tOp (rIxL K) (tVar 0) (tC (.int 0))) (gName 2))
    (tSeq (tAsg (tOp rAddI (tOp (rIxL K) (tVar 0) (tC (.int 1))) (tC (.int 1))) (gSub (tVar 0) (tC (.int 1)) rSetL))
    (tSeq (tAsg (tOp rModI (tOp (rIxL K) (tVar 0) (tC (.int 1))) (tCB (rLenQ K) (tCons (tVar 2) (tNil)))) (gName 3))
    (tSeq (tAsg (tOp (rIxL K) (tVar 2) (tVar 3)) (gName 4))
    (tSeq (tIfS (tTest (tOp rGeI (tVar 4) (tC (.int 1000000000000000000)))) (tSeq (tAsg (tOp rDivI (tVar 4) (tVar 1)) (gSub (tVar 2) (tVar 3) rSetL))
    (tRet (tOp rModI (tVar 4) (tVar 1)))) (tNext))
    (tSeq (tAsg (tOp rModI (tOp rAddI (tVar 4) (tOp rMulI (tC (.int 104729)) (tOp (rIxL K) (tVar 0) (tC (.int 1))))) (tC (.int 4294967291))) (gName 5))
    (tSeq (tAsg (tOp rModI (tOp rPowI (tVar 5) (tC (.int 5))) (tC (.int 4294967279))) (gName 5))
    (tRet (tOp rModI (tOp rDivI (tOp rModI (tOp rAddI (tOp rMulI (tOp rDivI (tVar 5) (tC (.int 64))) (tC (.int 69621))) (tVar 5)) (tC (.int 4294967231))) (tC (.int 8))) (tVar 1)))))))))
def t__law_pick (K : PySem.W.Frag) (sp__law_draw : Sp) : TS :=
  tRet (tOp (rIxL K) (tVar 1) (tCall sp__law_draw [] E0 (tCons (tVar 0) (tCons (tCB (rLenQ K) (tCons (tVar 1) (tNil))) (tNil)))))
def t__law_whole (K : PySem.W.Frag) : TS :=
  tRet (tAndV (tCB (rIsi K) (tCons (tVar 0) (tCons (tC (.ty "int")) (tNil)))) (tNotV (tCB (rIsi K) (tCons (tVar 0) (tCons (tC (.ty "bool")) (tNil))))))
def t__law_whole_list (K : PySem.W.Frag) (sp__law_whole : Sp) : TS :=
  tRet (tAndV (tCB (rIsi K) (tCons (tVar 0) (tCons (tC (.ty "list")) (tNil)))) (tCB (rAll K) (tCons (tLc (iList K (tVar 0)) (gName 1) tYes (tCall sp__law_whole [] E0 (tCons (tVar 1) (tNil))) [1]) (tNil))))
def t__law_value (K : PySem.W.Frag) (sp__law_pick sp__law_draw : Sp) : TS :=
  tRet (tCall sp__law_pick [] E0 (tCons (tVar 0) (tCons (tLst (tCons (tC (.int 0)) (tCons (tC (.int 999)) (tCons (tCall sp__law_draw [] E0 (tCons (tVar 0) (tCons (tC (.int 1000)) (tNil)))) (tCons (tCall sp__law_draw [] E0 (tCons (tVar 0) (tCons (tC (.int 5)) (tNil)))) (tNil)))))) (tNil))))
def t__law_things (K : PySem.W.Frag) : TS :=
  tRet (tLst (tCons (tLstRg (tRg1 (tVar 0))) (tCons (tOp rRep (tLst (tCons (tC (.int 0)) (tNil))) (tVar 0)) (tCons (tLstRg (tRg1 (tVar 0))) (tNil)))))
def t__law_swap (K : PySem.W.Frag) (C_Store : Addr) (sp__law_draw sp__law_value sp_Store__Store_swap : Sp) : TS :=
  tSeq (tAsg (tCall sp__law_draw [] E0 (tCons (tVar 0) (tCons (tCB (rLenQ K) (tCons (tOp (rIxL K) (tVar 2) (tC (.int 0))) (tNil))) (tNil)))) (gName 3))
    (tSeq (tAsg (tCall sp__law_value [] E0 (tCons (tVar 0) (tNil))) (gName 4))
    (tSeq (tAsg (tOp (rIxL K) (tOp (rIxL K) (tVar 2) (tC (.int 0))) (tVar 3)) (gName 5))
    (tSeq (tAsg (tCB (rLenQ K) (tCons (tOp (rIxL K) (tVar 2) (tC (.int 1))) (tNil))) (gSub (tOp (rIxL K) (tVar 2) (tC (.int 0))) (tVar 3) rSetL))
    (tSeq (tDrop (tBM K "list" rAppend (tOp (rIxL K) (tVar 2) (tC (.int 2))) (tCons (tCB (rLenQ K) (tCons (tOp (rIxL K) (tVar 2) (tC (.int 1))) (tNil))) (tNil))))
    (tSeq (tDrop (tBM K "list" rAppend (tOp (rIxL K) (tVar 2) (tC (.int 1))) (tCons (tVar 4) (tNil))))
    (tRet (tIf (tTest (tOp rEq (tMeth C_Store "swap" sp_Store__Store_swap [] E0 (tVar 1) (tCons (tVar 3) (tCons (tVar 4) (tNil)))) (tVar 5))) (tVar 5) (tC .non))))))))
def t__law_fits (K : PySem.W.Frag) (C_Store : Addr) (sp_Store__Store_now sp_Store__Store_kept sp__law_whole_list : Sp) : TS :=
  tSeq (tIfS (tTest (tOp (rNeD K) (tMeth C_Store "now" sp_Store__Store_now [] E0 (tVar 0) tNil) (tLc (iList K (tOp (rIxL K) (tVar 1) (tC (.int 0)))) (gName 2) tYes (tOp (rIxL K) (tOp (rIxL K) (tVar 1) (tC (.int 1))) (tVar 2)) [2]))) (tRet (tC (.bl false))) (tNext))
    (tRet (tAndV (tOp (rEqD K) (tMeth C_Store "kept" sp_Store__Store_kept [] E0 (tVar 0) tNil) (tCB (rSortedI K) (tCons (tOp (rIxL K) (tVar 1) (tC (.int 2))) (tNil)))) (tCall sp__law_whole_list [] E0 (tCons (tMeth C_Store "kept" sp_Store__Store_kept [] E0 (tVar 0) tNil) (tNil)))))
def t_Store_look_hand (K : PySem.W.Frag) (sp_is_whole : Sp) : TS :=
  tIfS (tNot (tB (tCall sp_is_whole [] E0 (tCons (tVar 1) (tCons (tC (.int 0)) (tCons (tOp rSubI (tFld K (tVar 0) "hands") (tC (.int 1))) (tNil))))))) (tNever) (tNext)
def t_Store_is_out (K : PySem.W.Frag) : TS :=
  tRet (tOp (rIn K true) (tVar 1) (tFld K (tVar 0) "cells"))
def t_Store_let_go (K : PySem.W.Frag) : TS :=
  tSeq (tFor (iList K (tVar 1)) (gName 2) (tDrop (tDPop1 (tFld K (tVar 0) "worth") (tVar 2))))
    (tRet (tCB (rSortedI K) (tCons (tVar 1) (tNil))))
def t_Store_value_of (K : PySem.W.Frag) : TS :=
  tSeq (tIfS (tB (tDNotIn (tVar 1) (tFld K (tVar 0) "worth"))) (tNever) (tNext))
    (tRet (tDGet (tFld K (tVar 0) "worth") (tVar 1)))
def t_Rounds_init (K : PySem.W.Frag) (C_Store : Addr) (sp_Rounds__Store_init : Sp) : TS :=
  tSeq (tDrop (tCFn C_Store sp_Rounds__Store_init [] E0 (tC (.ref C_Store)) (tCons (tVar 0) (tCons (tVar 1) (tCons (tVar 2) (tNil))))))
    (tSeq (sFld K (tVar 0) (tC (.int 0)) "era")
    (tSeq (sFld K (tVar 0) (tDNewK) "inside")
    (tSeq (sFld K (tVar 0) (tDNewK) "saw")
    (sFld K (tVar 0) (tDNewK) "waits"))))
def t_Rounds_look_in (K : PySem.W.Frag) (C_Rounds : Addr) (sp_Rounds__Store_look_hand : Sp) : TS :=
  tSeq (tDrop (tMeth C_Rounds "look_hand" sp_Rounds__Store_look_hand [] E0 (tVar 0) (tCons (tVar 1) (tNil))))
    (tIfS (tB (tDNotIn (tVar 1) (tFld K (tVar 0) "inside"))) (tNever) (tNext))
def t_Rounds_read (K : PySem.W.Frag) (C_Rounds : Addr) (sp_Rounds__Rounds_look_in sp_Rounds__Store_value_of : Sp) : TS :=
  tSeq (tDrop (tMeth C_Rounds "look_in" sp_Rounds__Rounds_look_in [] E0 (tVar 0) (tCons (tVar 1) (tNil))))
    (tSeq (tIfS (tOr (tB (tCB (rIsi K) (tCons (tVar 2) (tCons (tC (.ty "bool")) (tNil))))) (tTest (tOp (rIn K true) (tVar 2) (tDGet (tFld K (tVar 0) "saw") (tVar 1))))) (tNever) (tNext))
    (tRet (tMeth C_Rounds "value_of" sp_Rounds__Store_value_of [] E0 (tVar 0) (tCons (tVar 2) (tNil)))))
def t_Rounds_after_swap (K : PySem.W.Frag) : TS :=
  sDPut (tFld K (tVar 0) "waits") (tVar 1) (tFld K (tVar 0) "era")
def t_Rounds_enter (K : PySem.W.Frag) (C_Rounds : Addr) (sp_Rounds__Store_look_hand : Sp) : TS :=
  tSeq (tDrop (tMeth C_Rounds "look_hand" sp_Rounds__Store_look_hand [] E0 (tVar 0) (tCons (tVar 1) (tNil))))
    (tSeq (tIfS (tB (tDIn (tVar 1) (tFld K (tVar 0) "inside"))) (tNever) (tNext))
    (tSeq (sDPut (tFld K (tVar 0) "inside") (tVar 1) (tFld K (tVar 0) "era"))
    (tSeq (sDPut (tFld K (tVar 0) "saw") (tVar 1) (tLst (tNil)))
    (tRet (tFld K (tVar 0) "era")))))
def t_Rounds_leave (K : PySem.W.Frag) (C_Rounds : Addr) (sp_Rounds__Rounds_look_in : Sp) : TS :=
  tSeq (tDrop (tMeth C_Rounds "look_in" sp_Rounds__Rounds_look_in [] E0 (tVar 0) (tCons (tVar 1) (tNil))))
    (tSeq (tDrop (tDPop1 (tFld K (tVar 0) "inside") (tVar 1)))
    (tDrop (tDPop1 (tFld K (tVar 0) "saw") (tVar 1))))
def t_Rounds_look (K : PySem.W.Frag) (C_Rounds : Addr) (sp_Rounds__Rounds_look_in sp_Rounds__Store_look_cell : Sp) : TS :=
  tSeq (tDrop (tMeth C_Rounds "look_in" sp_Rounds__Rounds_look_in [] E0 (tVar 0) (tCons (tVar 1) (tNil))))
    (tSeq (tDrop (tMeth C_Rounds "look_cell" sp_Rounds__Store_look_cell [] E0 (tVar 0) (tCons (tVar 2) (tNil))))
    (tSeq (tDrop (tBM K "list" rAppend (tDGet (tFld K (tVar 0) "saw") (tVar 1)) (tCons (tOp (rIxL K) (tFld K (tVar 0) "cells") (tVar 2)) (tNil))))
    (tRet (tOp (rIxL K) (tFld K (tVar 0) "cells") (tVar 2)))))
def t_Rounds_go_on (K : PySem.W.Frag) (C_Rounds : Addr) (sp_Rounds__Store_let_go : Sp) : TS :=
  tSeq (tIfS (tNot (tB (tCB (rAll K) (tCons (tLockE (tLc (iKeys (tFld K (tVar 0) "inside")) (gName 1) tYes (tOp rEq (tDGet (tFld K (tVar 0) "inside") (tVar 1)) (tFld K (tVar 0) "era")) [1])) (tNil))))) (tRet (tC .non)) (tNext))
    (tSeq (sFld K (tVar 0) (tOp rAddI (tFld K (tVar 0) "era") (tC (.int 1))) "era")
    (tSeq (tLock (tAsg (tLc (iKeys (tFld K (tVar 0) "waits")) (gName 3) (tTest (tOp rLeI (tDGet (tFld K (tVar 0) "waits") (tVar 3)) (tOp rSubI (tFld K (tVar 0) "era") (tC (.int 2))))) (tVar 3) [3]) (gName 2)))
    (tSeq (tFor (iList K (tVar 2)) (gName 3) (tDrop (tDPop1 (tFld K (tVar 0) "waits") (tVar 3))))
    (tRet (tMeth C_Rounds "let_go" sp_Rounds__Store_let_go [] E0 (tVar 0) (tCons (tVar 2) (tNil)))))))
def t__law_read (K : PySem.W.Frag) (C_Rounds : Addr) (sp_Rounds__Rounds_read : Sp) : TS :=
  tSeq (tAsg (tC .non) (gName 3))
    (tSeq (tAsg (tC .non) (gName 4))
    (tSeq (tAsg (tMeth C_Rounds "read" sp_Rounds__Rounds_read [] E0 (tVar 0) (tCons (tVar 1) (tCons (tVar 2) (tNil)))) (gName 3))
    (tRet (tIf (tTest (tOp rIsNo (tVar 4) (tC .non))) (tVar 3) (tC .non)))))
def t_Rounds_round_now (K : PySem.W.Frag) : TS :=
  tRet (tFld K (tVar 0) "era")
def t_Rounds_hands_in (K : PySem.W.Frag) : TS :=
  tRet (tCB rSortD (tCons (tFld K (tVar 0) "inside") (tNil)))
def t__law_gone (K : PySem.W.Frag) : TS :=
  tAsg (tLc (iList K (tOp (rIxL K) (tVar 0) (tC (.int 2)))) (gName 2) (tTest (tOp (rIn K true) (tVar 2) (tVar 1))) (tVar 2) [2]) (gSub (tVar 0) (tC (.int 2)) rSetL)
def t__law_is (K : PySem.W.Frag) : TS :=
  tRet (tAndV (tCB (rIsi K) (tCons (tVar 0) (tCons (tC (.ty "bool")) (tNil)))) (tOp rEq (tVar 0) (tVar 1)))
end La
namespace La
open PySem L2 Sy
/-! ### numbers -/
def sp_is_whole : Sp := fun vs H Q _ => ∃ x lo hi : Int, vs = [.int x, .int lo, .int hi] ∧ Q (.bl (decide (lo ≤ x ∧ x ≤ hi))) H
theorem pure_is_whole {K : PySem.W.Frag} {vs : List V} {H : Hp} {Q : VK} {E : XK} (h : sp_is_whole vs H Q E) : t_is_whole K ⟨fun _ H' => Q .non H', Q, fun _ _ => False, fun _ _ => False⟩ (start ["thing", "low", "high"] vs) H := by
  obtain ⟨x, lo, hi, rfl, q⟩ := h
  unfold t_is_whole
  walk_at "go"
  refine ifD (fun h1 => ?_) (fun h1 => ?_)
  · walk_at "go"
    have e : decide (lo ≤ x ∧ x ≤ hi) = decide (x ≤ hi) := by simp [h1]
    rw [e] at q
    exact q
  · have e : decide (lo ≤ x ∧ x ≤ hi) = false := by simp [h1]
    rw [e] at q
    exact q
def sp_look_number : Sp := fun vs H Q _ => ∃ x lo hi : Int, vs = [.int x, .int lo, .int hi] ∧ lo ≤ x ∧ x ≤ hi ∧ Q .non H
theorem pure_look_number {K : PySem.W.Frag} {vs : List V} {H : Hp} {Q : VK} {E : XK} (h : sp_look_number vs H Q E) : t_look_number K sp_is_whole ⟨fun _ H' => Q .non H', Q, fun _ _ => False, fun _ _ => False⟩ (start ["thing", "low", "high"] vs) H := by
  obtain ⟨x, lo, hi, rfl, h1, h2, q⟩ := h
  unfold t_look_number
  walk_at "go"
  refine ⟨x, lo, hi, rfl, ?_⟩
  rw [decide_eq_true ⟨h1, h2⟩]
  walk_at "go"
  exact q
/-! ### the town: the script's numbers, and how many draws were made -/
structure Town where
  r : Addr
  ns : List Int
  n : Int
@[reducible] def townU (t : Addr) (s : Town) : U := [(t, .lst [.ref s.r, .int s.n]), (s.r, .lst (s.ns.map V.int))]
def Town.ok (s : Town) : Prop := 0 < s.ns.length ∧ s.ns.length ≤ 63
theorem at_ints {ns : List Int} {k : Int} (h0 : 0 ≤ k) (h1 : k < ns.length) : atI (ns.map V.int) k = some (.int (ns.getD k.toNat 0)) := by
  obtain ⟨j, rfl⟩ := Int.eq_ofNat_of_zero_le h0
  have hj : j < ns.length := by omega
  refine atI_nat ?_
  rw [List.getElem?_map]
  simp [hj]
theorem ix_ok {n : Nat} {k : Int} (h0 : 0 ≤ k) (h1 : k < n) : ixN n k = some k.toNat := by
  unfold ixN
  rw [if_pos h0, if_pos h1]
theorem map_set_int (ns : List Int) (k : Nat) (z : Int) : (ns.map V.int).set k (.int z) = (ns.set k z).map V.int := by rw [List.map_set]
def sp__law_draw : Sp := fun vs H Q _ => ∃ (t : Addr) (s : Town) (m : Int) (R : List U), vs = [.ref t, .int m] ∧ 0 < m ∧ m ≤ 100000 ∧ s.ok ∧ Has H (townU t s :: R) ∧
  ∀ (d : Int) (s' : Town) (H' : Hp), 0 ≤ d → d < m → s'.ok → Has H' (townU t s' :: R) → Q (.int d) H'
theorem pure__law_draw {K : PySem.W.Frag} {vs : List V} {H : Hp} {Q : VK} {E : XK} (h : sp__law_draw vs H Q E) : t__law_draw K ⟨fun _ H' => Q .non H', Q, fun _ _ => False, fun _ _ => False⟩ (start ["town", "many", "row", "at", "cell", "mixed"] vs) H := by
  obtain ⟨t, ⟨r, ns, n⟩, m, R, rfl, m0, m1, ⟨l0, l1⟩, hh, q⟩ := h
  replace hh := hh.cut
  have l0' : 0 < ns.length := l0
  have hl : ((ns.map V.int).length : Int) = ns.length := by rw [List.length_map]
  have k0 : 0 ≤ (n + 1) % ((ns.map V.int).length : Int) := Int.emod_nonneg _ (by omega)
  have k1 : (n + 1) % ((ns.map V.int).length : Int) < ns.length := by rw [hl]; exact Int.emod_lt_of_pos _ (by omega)
  have ea := at_ints k0 k1
  have ex : ixN (ns.map V.int).length ((n + 1) % ((ns.map V.int).length : Int)) = some ((n + 1) % ((ns.map V.int).length : Int)).toNat := ix_ok k0 (by omega)
  have lz : (0 : Int) < ((ns.map V.int).length : Int) := by omega
  unfold t__law_draw
  walk_at "go"
  refine ifD (fun hb => ?_) (fun hb => ?_)
  · walk_at "go"
    rename_i H1 h1 H2 h2
    rw [map_set_int] at h2
    exact q _ ⟨r, ns.set _ _, n + 1⟩ _ (Int.emod_nonneg _ (by omega)) (Int.emod_lt_of_pos _ m0) ⟨by show 0 < (ns.set _ _).length; rw [List.length_set]; exact l0, by show (ns.set _ _).length ≤ 63; rw [List.length_set]; exact l1⟩ h2.glue
  · walk_at "go"
    rename_i H1 h1
    exact q _ ⟨r, ns, n + 1⟩ _ (Int.emod_nonneg _ (by omega)) (Int.emod_lt_of_pos _ m0) ⟨l0, l1⟩ h1.glue
/-- a draw, as the caller uses it -/
theorem use_draw {H : Hp} {Q : VK} {E : XK} {L R : List U} {t : Addr} {s : Town} {m : Int} (hh : Has H L) (hs : Sub (townU t s :: R) L) (ok : s.ok) (m0 : 0 < m) (m1 : m ≤ 100000)
    (q : ∀ (d : Int) (s' : Town) (H' : Hp), 0 ≤ d → d < m → s'.ok → Has H' (townU t s' :: R) → Q (.int d) H') : sp__law_draw [.ref t, .int m] H Q E := ⟨t, s, m, R, rfl, m0, m1, ok, hh.sub hs, q⟩
/-! ### the script -/
/-- the script's list, as it stands in any heap that has the unit u -/
def Scr (K : PySem.W.Frag) (a : Addr) (xs : List V) (u : U) : Prop := ∀ H L, Has H (u :: L) → SqL K H a xs
theorem scr_of {K : PySem.W.Frag} {H : Hp} {a : Addr} {xs : List V} (h : SqL K H a xs) : ∃ u, Has H [u] ∧ Scr K a xs u := by
  rcases h with (h | ⟨o, h⟩) | h
  · exact ⟨[(a, .lst xs)], ⟨by simp, fun p hp => by simp at hp; subst hp; exact h⟩, fun H' L hh => .inl (.inl hh.g0)⟩
  · exact ⟨[(a, .frz o (.lst xs))], ⟨by simp, fun p hp => by simp at hp; subst hp; exact h⟩, fun H' L hh => .inl (.inr ⟨o, hh.g0⟩)⟩
  · exact ⟨[], Has.nilU.mpr Has.nil, fun H' L hh => .inr h⟩
def sp__law_town (K : PySem.W.Frag) : Sp := fun vs H Q _ => ∃ (a : Addr) (ns : List Int), vs = [.ref a] ∧ SqL K H a (ns.map V.int) ∧ ns.length ≤ 63 ∧
  ∀ (t : Addr) (s : Town) (H' : Hp), s.ok → Has H' [townU t s] → Q (.ref t) H'
theorem pure__law_town {K : PySem.W.Frag} {vs : List V} {H : Hp} {Q : VK} {E : XK} (h : sp__law_town K vs H Q E) : t__law_town K ⟨fun _ H' => Q .non H', Q, fun _ _ => False, fun _ _ => False⟩ (start ["script"] vs) H := by
  obtain ⟨a, ns, rfl, hs, hl, q⟩ := h
  obtain ⟨u, h0, hu⟩ := scr_of hs
  unfold t__law_town
  walk_at "go"
  rename_i p H1 h1
  have e := eqv_ints ns []
  refine ⟨_, _, .lst (hu H1 _ (by walk_at "has")) (dpAll_ints ns), .lst (SqL.of h1.g0) .nil, shaped_ints ns, by decide +kernel, ?_⟩
  have e : PyData.eqv (.list (ns.map PyData.int)) (.list []) = decide (ns = []) := e
  rw [e]
  walk_at "go"
  refine ifE (fun hn => ?_) (fun hn => ?_)
  · walk_at "go"
    refine k_listOfS h1 (hu H1 _ (by walk_at "has")) fun r H2 h2 => ?_
    walk_at "go"
    rename_i t H3 h3
    refine q t ⟨r, ns, 0⟩ H3 ⟨List.length_pos_iff.mpr hn, hl⟩ (Has.glue ?_)
    walk_at "has"
  · walk_at "go"
    rename_i r H2 h2 t H3 h3
    refine q t ⟨r, [0], 0⟩ H3 ⟨Nat.zero_lt_one, (by show 1 ≤ 63; decide)⟩ (Has.glue ?_)
    walk_at "has"
def sp__law_whole : Sp := fun vs H Q _ => ∃ x : Int, vs = [.int x] ∧ Q (.bl true) H
theorem pure__law_whole {K : PySem.W.Frag} {vs : List V} {H : Hp} {Q : VK} {E : XK} (h : sp__law_whole vs H Q E) : t__law_whole K ⟨fun _ H' => Q .non H', Q, fun _ _ => False, fun _ _ => False⟩ (start ["thing"] vs) H := by
  obtain ⟨x, rfl, q⟩ := h
  unfold t__law_whole
  walk_at "go"
  exact q
def sp__law_pick : Sp := fun vs H Q _ => ∃ (t p : Addr) (s : Town) (xs : List V) (R : List U), vs = [.ref t, .ref p] ∧ Has H (townU t s :: [(p, .lst xs)] :: R) ∧ 0 < xs.length ∧ xs.length ≤ 1000 ∧ s.ok ∧
  ∀ (d : Nat) (v : V) (s' : Town) (H' : Hp), xs[d]? = some v → s'.ok → Has H' (townU t s' :: [(p, .lst xs)] :: R) → Q v H'
theorem pure__law_pick {K : PySem.W.Frag} {vs : List V} {H : Hp} {Q : VK} {E : XK} (h : sp__law_pick vs H Q E) : t__law_pick K sp__law_draw ⟨fun _ H' => Q .non H', Q, fun _ _ => False, fun _ _ => False⟩ (start ["town", "some"] vs) H := by
  obtain ⟨t, p, s, xs, R, rfl, hh, h1, h2, ok, q⟩ := h
  unfold t__law_pick
  walk_at "go"
  refine use_draw hh Sub.rf ok (by omega) (by omega) fun d s' H' d0 d1 ok' hh' => ?_
  have ht : d.toNat < xs.length := by omega
  have e : atI xs d = some xs[d.toNat] := at_n d0 (by simp [ht])
  walk_at "go"
  exact q d.toNat _ s' H' (by simp [ht]) ok' hh'
def sp__law_value : Sp := fun vs H Q _ => ∃ (t : Addr) (s : Town) (R : List U), vs = [.ref t] ∧ s.ok ∧ Has H (townU t s :: R) ∧
  ∀ (d : Int) (s' : Town) (H' : Hp), 0 ≤ d → d ≤ 999 → s'.ok → Has H' (townU t s' :: R) → Q (.int d) H'
theorem pure__law_value {K : PySem.W.Frag} {vs : List V} {H : Hp} {Q : VK} {E : XK} (h : sp__law_value vs H Q E) : t__law_value K sp__law_pick sp__law_draw ⟨fun _ H' => Q .non H', Q, fun _ _ => False, fun _ _ => False⟩ (start ["town"] vs) H := by
  obtain ⟨t, s, R, rfl, ok, hh, q⟩ := h
  unfold t__law_value
  walk_at "go"
  refine use_draw hh Sub.rf ok (by decide) (by decide) fun d s1 H1 d0 d1 ok1 hh1 => ?_
  walk_at "go"
  refine use_draw hh1 Sub.rf ok1 (by decide) (by decide) fun e s2 H2 e0 e1 ok2 hh2 => ?_
  walk_at "go"
  rename_i p H3 hh3
  refine ⟨t, p, s2, _, R, rfl, by walk_at "has", by show 0 < 4; decide, by show 4 ≤ 1000; decide, ok2, fun k v s4 H4 hk ok4 hh4 => ?_⟩
  have hv : ∃ z : Int, v = .int z ∧ 0 ≤ z ∧ z ≤ 999 := by
    match k, hk with
    | 0, hk => exact ⟨0, (Option.some.inj hk).symm, by omega, by omega⟩
    | 1, hk => exact ⟨999, (Option.some.inj hk).symm, by omega, by omega⟩
    | 2, hk => exact ⟨d, (Option.some.inj hk).symm, by omega, by omega⟩
    | 3, hk => exact ⟨e, (Option.some.inj hk).symm, by omega, by omega⟩
  obtain ⟨z, rfl, z0, z1⟩ := hv
  exact q z s4 H4 z0 z1 ok4 (by walk_at "has")
end La
namespace La
open PySem L2 Sy
def stF (v0 : V) (v1 : V) (v2 : V) (v3 : V) (x : List (Str × V)) : List (Str × V) := ("hands", v0) :: ("worth", v1) :: ("cells", v2) :: ("made", v3) :: x
theorem stF_hands {v0 v1 v2 v3 : V} {x : List (Str × V)} : (stF v0 v1 v2 v3 x).lookup ("hands" : Str) = some v0 := by kernel_rfl
theorem stF_put_hands {v0 v1 v2 v3 w : V} {x : List (Str × V)} : putF "hands" w (stF v0 v1 v2 v3 x) = stF w v1 v2 v3 x := by kernel_rfl
theorem stF_worth {v0 v1 v2 v3 : V} {x : List (Str × V)} : (stF v0 v1 v2 v3 x).lookup ("worth" : Str) = some v1 := by kernel_rfl
theorem stF_put_worth {v0 v1 v2 v3 w : V} {x : List (Str × V)} : putF "worth" w (stF v0 v1 v2 v3 x) = stF v0 w v2 v3 x := by kernel_rfl
theorem stF_cells {v0 v1 v2 v3 : V} {x : List (Str × V)} : (stF v0 v1 v2 v3 x).lookup ("cells" : Str) = some v2 := by kernel_rfl
theorem stF_put_cells {v0 v1 v2 v3 w : V} {x : List (Str × V)} : putF "cells" w (stF v0 v1 v2 v3 x) = stF v0 v1 w v3 x := by kernel_rfl
theorem stF_made {v0 v1 v2 v3 : V} {x : List (Str × V)} : (stF v0 v1 v2 v3 x).lookup ("made" : Str) = some v3 := by kernel_rfl
theorem stF_put_made {v0 v1 v2 v3 w : V} {x : List (Str × V)} : putF "made" w (stF v0 v1 v2 v3 x) = stF v0 v1 v2 w x := by kernel_rfl
/-! ### the store -/
theorem look_no {f g : Str} {v : V} {r : List (Str × V)} (h : (f == g) = false) (k : r.lookup f = none) : List.lookup f ((g, v) :: r) = none := by rw [List.lookup_cons, h]; exact k
/-- what holds of a class whose instances are stores -/
structure StoreC (K : PySem.W.Frag) (C : Addr) : Prop where
  cl : Cls K C
  n1 : NoAttr K C "hands"
  n2 : NoAttr K C "worth"
  n3 : NoAttr K C "cells"
  n4 : NoAttr K C "made"
structure StX (x : List (Str × V)) : Prop where
  len : x.length < 900
  m1 : x.lookup ("look_cell" : Str) = none
  m2 : x.lookup ("after_swap" : Str) = none
  m3 : x.lookup ("look_hand" : Str) = none
  m4 : x.lookup ("swap" : Str) = none
  m5 : x.lookup ("now" : Str) = none
  m6 : x.lookup ("kept" : Str) = none
  m7 : x.lookup ("let_go" : Str) = none
  m8 : x.lookup ("value_of" : Str) = none
  m9 : x.lookup ("is_out" : Str) = none
theorem stX_nil : StX [] := ⟨by decide, rfl, rfl, rfl, rfl, rfl, rfl, rfl, rfl, rfl⟩
theorem stF_no {m : Str} {v0 v1 v2 v3 : V} {x : List (Str × V)} (h : x.lookup m = none) (h0 : (m == ("hands" : Str)) = false) (h1 : (m == ("worth" : Str)) = false) (h2 : (m == ("cells" : Str)) = false) (h3 : (m == ("made" : Str)) = false) : (stF v0 v1 v2 v3 x).lookup m = none :=
  look_no h0 (look_no h1 (look_no h2 (look_no h3 h)))
section
variable {v0 v1 v2 v3 : V} {x : List (Str × V)}
theorem StX.f1 (h : StX x) : (stF v0 v1 v2 v3 x).lookup ("look_cell" : Str) = none := stF_no h.m1 (by decide +kernel) (by decide +kernel) (by decide +kernel) (by decide +kernel)
theorem StX.f2 (h : StX x) : (stF v0 v1 v2 v3 x).lookup ("after_swap" : Str) = none := stF_no h.m2 (by decide +kernel) (by decide +kernel) (by decide +kernel) (by decide +kernel)
theorem StX.f3 (h : StX x) : (stF v0 v1 v2 v3 x).lookup ("look_hand" : Str) = none := stF_no h.m3 (by decide +kernel) (by decide +kernel) (by decide +kernel) (by decide +kernel)
theorem StX.f4 (h : StX x) : (stF v0 v1 v2 v3 x).lookup ("swap" : Str) = none := stF_no h.m4 (by decide +kernel) (by decide +kernel) (by decide +kernel) (by decide +kernel)
theorem StX.f5 (h : StX x) : (stF v0 v1 v2 v3 x).lookup ("now" : Str) = none := stF_no h.m5 (by decide +kernel) (by decide +kernel) (by decide +kernel) (by decide +kernel)
theorem StX.f6 (h : StX x) : (stF v0 v1 v2 v3 x).lookup ("kept" : Str) = none := stF_no h.m6 (by decide +kernel) (by decide +kernel) (by decide +kernel) (by decide +kernel)
theorem StX.f7 (h : StX x) : (stF v0 v1 v2 v3 x).lookup ("let_go" : Str) = none := stF_no h.m7 (by decide +kernel) (by decide +kernel) (by decide +kernel) (by decide +kernel)
theorem StX.f8 (h : StX x) : (stF v0 v1 v2 v3 x).lookup ("value_of" : Str) = none := stF_no h.m8 (by decide +kernel) (by decide +kernel) (by decide +kernel) (by decide +kernel)
theorem StX.f9 (h : StX x) : (stF v0 v1 v2 v3 x).lookup ("is_out" : Str) = none := stF_no h.m9 (by decide +kernel) (by decide +kernel) (by decide +kernel) (by decide +kernel)
theorem StX.fl (h : StX x) : (stF v0 v1 v2 v3 x).length < 1000 := by
  have := h.len
  show x.length + 1 + 1 + 1 + 1 < 1000
  omega
end
local macro_rules | `(tactic| walk_at "fl") => `(tactic| first | assumption | exact stF_hands | exact stF_worth | exact stF_cells | exact stF_made | exact StX.f1 (by assumption) | exact StX.f2 (by assumption) | exact StX.f3 (by assumption) | exact StX.f4 (by assumption) | exact StX.f5 (by assumption) | exact StX.f6 (by assumption) | exact StX.f7 (by assumption) | exact StX.f8 (by assumption) | exact StX.f9 (by assumption))
local macro_rules | `(tactic| walk_at "fsl") => `(tactic| first | assumption | exact StX.fl (by assumption))
local macro_rules | `(tactic| walk_at "put") => `(tactic| first | exact stF_put_made | exact stF_put_cells | exact stF_put_worth | exact stF_put_hands)
/-- the store's numbers: hands, the values of all things made, all that is kept, what lies in each cell; where its parts stand -/
structure Sto where
  dx : Addr
  w : Addr
  c : Addr
  hands : Int
  vals : List Int
  kept : List Int
  cells : List Int
def worthOf (vals kept : List Int) : List (Int × V) := kept.map fun k => (k, V.int (vals.getD k.toNat 0))
@[reducible] def stoU (C p : Addr) (x : List (Str × V)) (s : Sto) : U :=
  [(p, .ins C s.dx (stF (.int s.hands) (.ref s.w) (.ref s.c) (.int s.vals.length) x)), (s.w, dI (worthOf s.vals s.kept)), (s.c, .lst (s.cells.map V.int))]
structure Sto.ok (s : Sto) : Prop where
  c0 : 0 < s.cells.length
  c5 : s.cells.length ≤ 5
  v9 : s.vals.length ≤ 1000
  rise : s.kept.Pairwise (· < ·)
  made : ∀ k ∈ s.kept, 0 ≤ k ∧ k < s.vals.length
  here : ∀ k ∈ s.cells, k ∈ s.kept
  cnd : s.cells.Nodup
theorem val_self {f : Int → V} {ks : List Int} {k : Int} (h : k ∈ ks) : valV (ks.map fun k => (k, f k)) k = some (f k) := by
  induction ks with
  | nil => cases h
  | cons a r ih =>
    by_cases e : a = k
    · rw [List.map_cons, valV_pos (p := (a, f a)) e, e]
    · rw [List.map_cons, valV_neg (p := (a, f a)) e]
      exact ih ((List.mem_cons.mp h).resolve_left fun z => e z.symm)
theorem val_none {f : Int → V} {ks : List Int} {k : Int} (h : k ∉ ks) : valV (ks.map fun k => (k, f k)) k = none := by
  induction ks with
  | nil => rfl
  | cons a r ih =>
    obtain ⟨h1, h2⟩ := not_or.mp (fun z => h (List.mem_cons.mpr z))
    rw [List.map_cons, valV_neg (p := (a, f a)) (fun z => h1 z.symm)]
    exact ih h2
theorem worth_val {vals kept : List Int} {k : Int} (h : k ∈ kept) : valV (worthOf vals kept) k = some (.int (vals.getD k.toNat 0)) := val_self (f := fun k => V.int (vals.getD k.toNat 0)) h
theorem worth_keys (vals kept : List Int) : (worthOf vals kept).map (fun x => x.1) = kept := by
  unfold worthOf
  rw [List.map_map]
  exact List.map_id' kept
theorem worth_len (vals kept : List Int) : (worthOf vals kept).length = kept.length := List.length_map ..
theorem rise_len {n : Int} : ∀ {l : List Int} {lo : Int}, l.Pairwise (· < ·) → (∀ k ∈ l, lo ≤ k ∧ k < n) → (l.length : Int) ≤ max (n - lo) 0
  | [], lo, _, _ => by show (0 : Int) ≤ _; omega
  | a :: r, lo, h, hb => by
    obtain ⟨h1, h2⟩ := List.pairwise_cons.mp h
    obtain ⟨b1, b2⟩ := hb a (List.mem_cons.mpr (.inl rfl))
    have ih := rise_len (n := n) (lo := a + 1) h2 fun k hk => ⟨by have := h1 k hk; omega, (hb k (List.mem_cons.mpr (.inr hk))).2⟩
    show ((r.length + 1 : Nat) : Int) ≤ _
    omega
theorem Sto.ok.klen {s : Sto} (h : s.ok) : s.kept.length ≤ s.vals.length := by
  have := rise_len (n := s.vals.length) (lo := 0) h.rise h.made
  omega
def sp_look_cell (C : Addr) : Sp := fun vs H Q _ => ∃ (p : Addr) (x : List (Str × V)) (s : Sto) (c : Int) (R : List U), vs = [.ref p, .int c] ∧ Has H (stoU C p x s :: R) ∧ StX x ∧ 0 ≤ c ∧ c < s.cells.length ∧ Q .non H
theorem pure_look_cell {K : PySem.W.Frag} {C : Addr} (hC : StoreC K C) {vs : List V} {H : Hp} {Q : VK} {E : XK} (h : sp_look_cell C vs H Q E) : t_Store_look_cell K sp_is_whole ⟨fun _ H' => Q .non H', Q, fun _ _ => False, fun _ _ => False⟩ (start ["self", "cell"] vs) H := by
  obtain ⟨p, x, s, c, R, rfl, hh, hx, c0, c1, q⟩ := h
  obtain ⟨cl, n1, n2, n3, n4⟩ := hC
  replace hh := hh.cut2
  unfold t_Store_look_cell
  walk_at "go"
  refine ⟨_, _, _, rfl, ?_⟩
  rw [decide_eq_true ⟨c0, by rw [List.length_map]; omega⟩]
  walk_at "go"
  exact q
/-- behind a swap: a new thing in cell i, the thing that lay there told; then after_swap -/
def Sto.swap (s : Sto) (i v : Int) : Sto := { s with vals := s.vals ++ [v], kept := s.kept ++ [(s.vals.length : Int)], cells := s.cells.set i.toNat (s.vals.length : Int) }
def sp_swap (C : Addr) (sp_as : Sp) : Sp := fun vs H Q E => ∃ (p : Addr) (x : List (Str × V)) (s : Sto) (i v : Int) (R : List U), vs = [.ref p, .int i, .int v] ∧ Has H (stoU C p x s :: R) ∧ StX x ∧ s.ok ∧ s.vals.length < 1000 ∧ 0 ≤ i ∧ i < s.cells.length ∧ 0 ≤ v ∧ v ≤ 999 ∧
  ∀ H' (Q' : VK), Has H' (stoU C p x (s.swap i v) :: R) → (∀ u H2, Q (.int (s.cells.getD i.toNat 0)) H2 → Q' u H2) → sp_as [.ref p, .int (s.cells.getD i.toNat 0)] H' Q' E0
theorem put_new {m : List (Int × V)} {k : Int} {v : V} (h : valV m k = none) : putK m k v = m ++ [(k, v)] := putK_new v h
theorem worth_swap {s : Sto} (ok : s.ok) (v : Int) : putK (worthOf s.vals s.kept) (s.vals.length : Int) (.int v) = worthOf (s.vals ++ [v]) (s.kept ++ [(s.vals.length : Int)]) := by
  have hn : (s.vals.length : Int) ∉ s.kept := fun hk => by
    obtain ⟨_, h1⟩ := ok.made _ hk
    omega
  unfold worthOf
  rw [put_new (val_none (f := fun k => V.int (s.vals.getD k.toNat 0)) hn)]
  rw [List.map_append]
  congr 1
  · refine List.map_congr_left fun k hk => ?_
    obtain ⟨h0, h1⟩ := ok.made k hk
    have : k.toNat < s.vals.length := by omega
    simp [List.getD_eq_getElem?_getD, List.getElem?_append_left this]
  · simp
theorem set_nodup {z : Int} : ∀ {l : List Int} {j : Nat}, l.Nodup → z ∉ l → (l.set j z).Nodup
  | [], _, _, _ => List.nodup_nil
  | a :: r, 0, h, hz => by
    show (z :: r).Nodup
    exact List.nodup_cons.mpr ⟨fun m => hz (List.mem_cons.mpr (.inr m)), (List.nodup_cons.mp h).2⟩
  | a :: r, j + 1, h, hz => by
    show (a :: r.set j z).Nodup
    obtain ⟨h1, h2⟩ := List.nodup_cons.mp h
    refine List.nodup_cons.mpr ⟨fun m => ?_, set_nodup h2 fun m => hz (List.mem_cons.mpr (.inr m))⟩
    rcases List.mem_or_eq_of_mem_set m with q | q
    · exact h1 q
    · exact hz (q ▸ List.mem_cons.mpr (.inl rfl))
/-- the old thing is in no cell any more -/
theorem set_old {z : Int} : ∀ {l : List Int} {j : Nat}, l.Nodup → z ∉ l → j < l.length → l.getD j 0 ∉ l.set j z
  | [], _, _, _, hj => by simp at hj
  | a :: r, 0, h, hz, _ => by
    show a ∉ z :: r
    intro m
    rcases List.mem_cons.mp m with q | q
    · exact hz (q ▸ List.mem_cons.mpr (.inl rfl))
    · exact (List.nodup_cons.mp h).1 q
  | a :: r, j + 1, h, hz, hj => by
    show r.getD j 0 ∉ a :: r.set j z
    obtain ⟨h1, h2⟩ := List.nodup_cons.mp h
    have hj : j < r.length := by simpa using hj
    intro m
    rcases List.mem_cons.mp m with q | q
    · refine h1 (q ▸ ?_)
      rw [List.getD_eq_getElem?_getD, List.getElem?_eq_getElem hj]
      exact List.getElem_mem hj
    · exact set_old h2 (fun m => hz (List.mem_cons.mpr (.inr m))) hj q
theorem getD_mem {l : List Int} {j : Nat} (h : j < l.length) : l.getD j 0 ∈ l := by
  rw [List.getD_eq_getElem?_getD, List.getElem?_eq_getElem h]
  exact List.getElem_mem h
theorem Sto.ok.swap {s : Sto} (ok : s.ok) {i v : Int} (h0 : 0 ≤ i) (h1 : i < s.cells.length) (hv : s.vals.length < 1000) : (s.swap i v).ok where
  c0 := by show 0 < (s.cells.set _ _).length; rw [List.length_set]; exact ok.c0
  c5 := by show (s.cells.set _ _).length ≤ 5; rw [List.length_set]; exact ok.c5
  v9 := by show (s.vals ++ [v]).length ≤ 1000; rw [List.length_append]; exact hv
  rise := by
    show (s.kept ++ [_]).Pairwise (· < ·)
    refine List.pairwise_append.mpr ⟨ok.rise, List.pairwise_singleton _ _, fun a ha b hb => ?_⟩
    rw [List.mem_singleton.mp hb]
    exact (ok.made a ha).2
  made := fun k hk => by
    show 0 ≤ k ∧ k < ((s.vals ++ [v]).length : Int)
    rw [List.length_append]
    rcases List.mem_append.mp hk with q | q
    · obtain ⟨a, b⟩ := ok.made k q
      refine ⟨a, ?_⟩
      show k < ((s.vals.length + 1 : Nat) : Int)
      omega
    · rw [List.mem_singleton.mp q]
      show (0 : Int) ≤ (s.vals.length : Int) ∧ (s.vals.length : Int) < ((s.vals.length + 1 : Nat) : Int)
      omega
  here := fun k hk => by
    have hk : k ∈ s.cells.set i.toNat (s.vals.length : Int) := hk
    show k ∈ s.kept ++ [(s.vals.length : Int)]
    rcases List.mem_or_eq_of_mem_set hk with q | q
    · exact List.mem_append.mpr (.inl (ok.here k q))
    · exact List.mem_append.mpr (.inr (List.mem_singleton.mpr q))
  cnd := by
    show (s.cells.set i.toNat (s.vals.length : Int)).Nodup
    exact set_nodup ok.cnd fun hk => by
      obtain ⟨_, h1⟩ := ok.made _ (ok.here _ hk)
      omega
theorem pure_swap {K : PySem.W.Frag} {C : Addr} {sp_as : Sp} (hC : StoreC K C) {vs : List V} {H : Hp} {Q : VK} {E : XK} (h : sp_swap C sp_as vs H Q E) : t_Store_swap K C (sp_look_cell C) sp_look_number sp_as ⟨fun _ H' => Q .non H', Q, fun _ _ => False, fun _ _ => False⟩ (start ["self", "cell", "value", "old"] vs) H := by
  obtain ⟨p, x, s, i, v, R, rfl, hh, hx, ok, hv, i0, i1, v0, v1, q⟩ := h
  have hC' := hC
  obtain ⟨cl, n1, n2, n3, n4⟩ := hC
  have hp := hh.g0
  have hpl := ok.klen
  have il : i < (s.cells.map V.int).length := by rw [List.length_map]; exact i1
  have ea := at_ints i0 i1
  have ex := ix_ok i0 il
  have sw := worth_swap ok v
  unfold t_Store_swap
  walk_at "go"
  refine ⟨p, x, s, i, R, rfl, hh, hx, i0, i1, ?_⟩
  walk_at "go"
  refine ⟨_, _, _, rfl, v0, v1, ?_⟩
  have hh1 := hh.cut2
  have hw : (worthOf s.vals s.kept).length < sizeLine := by rw [worth_len, sizeLine_eq]; omega
  have fl := hx.fl (v0 := .int s.hands) (v1 := .ref s.w) (v2 := .ref s.c) (v3 := .int s.vals.length)
  walk_at "go"
  rename_i H3 h3
  refine q H3 _ ?_ fun u H4 z => by walk_at "go"; exact z
  rw [sw, map_set_int] at h3
  have e1 : ((s.vals.length : Int) + 1) = ((s.vals ++ [v]).length : Int) := by rw [List.length_append]; rfl
  rw [e1] at h3
  exact h3.glue2
/-- a plain store: nothing more is done -/
def sp_after0 : Sp := fun vs H Q _ => ∃ (p : Addr) (k : Int), vs = [.ref p, .int k] ∧ Q .non H
theorem pure_after0 {K : PySem.W.Frag} {vs : List V} {H : Hp} {Q : VK} {E : XK} (h : sp_after0 vs H Q E) : t_Store_after_swap K ⟨fun _ H' => Q .non H', Q, fun _ _ => False, fun _ _ => False⟩ (start ["self", "thing"] vs) H := by
  obtain ⟨p, k, rfl, q⟩ := h
  unfold t_Store_after_swap
  walk_at "go"
  exact q
/-- the values in all cells -/
def Sto.now (s : Sto) : List Int := s.cells.map fun k => s.vals.getD k.toNat 0
def sp_now (C : Addr) : Sp := fun vs H Q _ => ∃ (p : Addr) (x : List (Str × V)) (s : Sto) (R : List U), vs = [.ref p] ∧ Has H (stoU C p x s :: R) ∧ StX x ∧ s.ok ∧
  ∀ d H', Has H' ([(d, .lst (s.now.map V.int))] :: stoU C p x s :: R) → Q (.ref d) H'
theorem pure_now {K : PySem.W.Frag} {C : Addr} (hC : StoreC K C) {vs : List V} {H : Hp} {Q : VK} {E : XK} (h : sp_now C vs H Q E) : t_Store_now K ⟨fun _ H' => Q .non H', Q, fun _ _ => False, fun _ _ => False⟩ (start ["self", "thing"] vs) H := by
  obtain ⟨p, x, s, R, rfl, hh, hx, ok, q⟩ := h
  obtain ⟨cl, n1, n2, n3, n4⟩ := hC
  have h5 := ok.c5
  replace hh := hh.cut2
  unfold t_Store_now
  walk_at "go"
  refine k_lcM s.cells V.int (fun k => V.int (s.vals.getD k.toNat 0)) hh (fun H' h' => by walk_at "hp") (by omega) (fun z hz D M H' Q' h' q' => ?_) fun D H' h' => ?_
  · have hv := worth_val (vals := s.vals) (ok.here z hz)
    walk_at "go"
    exact q' H' h'
  · refine q D H' ?_
    unfold Sto.now
    rw [List.map_map]
    exact (h'.sub (Sub.p1 (Sub.p1 (Sub.p1 (Sub.p0 Sub.rf))))).glue2.sub (Sub.p1 (Sub.p0 Sub.rf))
/-- all that is kept, rising -/
def sp_kept (C : Addr) : Sp := fun vs H Q _ => ∃ (p : Addr) (x : List (Str × V)) (s : Sto) (R : List U), vs = [.ref p] ∧ Has H (stoU C p x s :: R) ∧ StX x ∧ s.ok ∧ s.vals.length < 64 ∧
  ∀ d H', Has H' ([(d, .lst (s.kept.map V.int))] :: stoU C p x s :: R) → Q (.ref d) H'
theorem sorted_unique : ∀ {xs ys : List Int}, xs.Pairwise (· ≤ ·) → ys.Pairwise (· ≤ ·) → xs.Perm ys → xs = ys := fun {xs ys} h1 h2 p => p.eq_of_pairwise (fun a b _ _ h h' => Int.le_antisymm h h') h1 h2
theorem rise_le {l : List Int} (h : l.Pairwise (· < ·)) : l.Pairwise (· ≤ ·) := h.imp fun h => Int.le_of_lt h
theorem pure_kept {K : PySem.W.Frag} {C : Addr} (hC : StoreC K C) {vs : List V} {H : Hp} {Q : VK} {E : XK} (h : sp_kept C vs H Q E) : t_Store_kept K ⟨fun _ H' => Q .non H', Q, fun _ _ => False, fun _ _ => False⟩ (start ["self"] vs) H := by
  obtain ⟨p, x, s, R, rfl, hh, hx, ok, hv, q⟩ := h
  obtain ⟨cl, n1, n2, n3, n4⟩ := hC
  have hpl := ok.klen
  have hl : (worthOf s.vals s.kept).length < 64 := by rw [worth_len]; omega
  replace hh := hh.cut2
  unfold t_Store_kept
  walk_at "go"
  rename_i ys d H1 h1 h2 h3
  rw [worth_keys] at h1
  have e := sorted_unique h2 (rise_le ok.rise) h1
  subst e
  exact q d H1 ((h3.sub (Sub.p1 (Sub.p1 (Sub.p1 (Sub.p0 Sub.rf))))).glue2.sub (Sub.p1 (Sub.p0 Sub.rf)))
/-! the making of a store -/
def tupsU : Int → List Addr → U
  | _, [] => []
  | i, p :: r => (p, .tup [.int i, .int 0]) :: tupsU (i + 1) r
theorem tupsU_snoc (q : Addr) : ∀ (ps : List Addr) (i : Int), tupsU i (ps ++ [q]) = tupsU i ps ++ [(q, .tup [.int (i + ps.length), .int 0])]
  | [], i => by show [_] = [_]; rw [List.length_nil]; simp
  | p :: r, i => by
    show _ :: tupsU (i + 1) (r ++ [q]) = _ :: (tupsU (i + 1) r ++ _)
    rw [tupsU_snoc q r (i + 1), List.length_cons]
    have e : i + 1 + (r.length : Int) = i + ((r.length + 1 : Nat) : Int) := by omega
    rw [e]
theorem tups_pair {K : PySem.W.Frag} {H : Hp} : ∀ {ps : List Addr} {i : Int} (_ : ∀ c ∈ tupsU i ps, H c.1 = some c.2), Paired (fun p (kv : Key × V) => SqT K H p [kV kv.1, kv.2]) ps (mk g1 ((List.range ps.length).map fun (j : Nat) => (i + (j : Int), V.int 0)))
  | [], i, _ => .nil
  | p :: r, i, h => by
    rw [List.length_cons, List.range_succ_eq_map, List.map_cons, List.map_map]
    refine Paired.cons (show SqT K H p [.int (i + ((0 : Nat) : Int)), .int 0] from ?_) ?_
    · have e := h _ (List.mem_cons.mpr (.inl rfl))
      have e0 : i + ((0 : Nat) : Int) = i := by omega
      rw [e0]
      exact SqT.of e
    · have ih := tups_pair (K := K) (ps := r) (i := i + 1) fun c hc => h c (List.mem_cons.mpr (.inr hc))
      have e : ((fun (j : Nat) => (i + (j : Int), V.int 0)) ∘ Nat.succ) = fun (j : Nat) => (i + 1 + (j : Int), V.int 0) := by
        funext j
        show (i + ((j + 1 : Nat) : Int), V.int 0) = _
        have e2 : i + ((j + 1 : Nat) : Int) = i + 1 + (j : Int) := by omega
        rw [e2]
      rw [e]
      exact ih
theorem merge_new {κ : Type} [DecidableEq κ] : ∀ (more kvs : List (κ × V)), ((kvs ++ more).map (·.1)).Nodup → more.foldl (fun acc kv => putK acc kv.1 kv.2) kvs = kvs ++ more
  | [], kvs, _ => by simp
  | p :: r, kvs, h => by
    have hn : valV kvs p.1 = none := by
      cases e : valV kvs p.1 with
      | none => rfl
      | some v =>
        have hm := valV_in e
        rw [List.map_append, List.nodup_append] at h
        exact absurd rfl (h.2.2 _ hm p.1 (by simp))
    rw [List.foldl_cons, putK_new _ hn, merge_new r (kvs ++ [(p.1, p.2)]) (by simpa using h)]
    simp
theorem rgI_nodup (n : Int) : (rgI n).Nodup := by
  unfold rgI
  refine List.Pairwise.map _ (fun a b h => ?_) List.nodup_range
  intro e
  exact h (by omega)
theorem Has.fam {H : Hp} {u : U} {L : List U} (h : Has H (u :: L)) : ∀ c ∈ u, H c.1 = some c.2 := fun c hc => h.at' c (by simp [hc])
def Sto.new (dx w c : Addr) (hands n : Int) : Sto := ⟨dx, w, c, hands, List.replicate n.toNat 0, rgI n, rgI n⟩
def sp_init (C : Addr) : Sp := fun vs H Q _ => ∃ (p dx : Addr) (h n : Int) (R : List U), vs = [.ref p, .int h, .int n] ∧ Has H ([(p, .ins C dx [])] :: R) ∧ 1 ≤ h ∧ h ≤ 6 ∧ 1 ≤ n ∧ n ≤ 5 ∧
  ∀ w c H', Has H' (stoU C p [] (Sto.new dx w c h n) :: R) → Q .non H'
theorem put_f1 {v : V} : putF "hands" v [] = [(("hands" : Str), v)] := by kernel_rfl
theorem put_f2 {v w : V} : putF "worth" w [(("hands" : Str), v)] = [(("hands" : Str), v), ("worth", w)] := by kernel_rfl
theorem put_f3 {v w u : V} : putF "cells" u [(("hands" : Str), v), ("worth", w)] = [(("hands" : Str), v), ("worth", w), ("cells", u)] := by kernel_rfl
theorem put_f4 {v w u z : V} : putF "made" z [(("hands" : Str), v), ("worth", w), ("cells", u)] = stF v w u z [] := by kernel_rfl
local macro_rules | `(tactic| walk_at "put") => `(tactic| first | exact put_f1 | exact put_f2 | exact put_f3 | exact put_f4)
local macro_rules | `(tactic| walk_at "fsl") => `(tactic| first | assumption | (show 0 < 1000; decide) | (show 1 < 1000; decide) | (show 2 < 1000; decide) | (show 3 < 1000; decide))
theorem Sto.new_ok {dx w c : Addr} {h n : Int} (h1 : 1 ≤ n) (h5 : n ≤ 5) : (Sto.new dx w c h n).ok where
  c0 := by show 0 < (rgI n).length; rw [rgI_len]; omega
  c5 := by show (rgI n).length ≤ 5; rw [rgI_len]; omega
  v9 := by show (List.replicate n.toNat (0 : Int)).length ≤ 1000; rw [List.length_replicate]; omega
  rise := by
    show (rgI n).Pairwise (· < ·)
    unfold rgI
    exact List.Pairwise.map _ (fun a b h => by omega) List.pairwise_lt_range
  made := fun k hk => by
    have hk : k ∈ rgI n := hk
    show 0 ≤ k ∧ k < ((List.replicate n.toNat (0 : Int)).length : Int)
    unfold rgI at hk
    obtain ⟨j, hj, rfl⟩ := List.mem_map.mp hk
    have := List.mem_range.mp hj
    rw [List.length_replicate]
    omega
  here := fun k hk => hk
  cnd := rgI_nodup n
theorem worth_new (n : Int) : worthOf (List.replicate n.toNat 0) (rgI n) = (rgI n).map fun k => (k, V.int 0) := by
  unfold worthOf
  refine List.map_congr_left fun k hk => ?_
  have : (List.replicate n.toNat (0 : Int)).getD k.toNat 0 = 0 := by
    rw [List.getD_eq_getElem?_getD, List.getElem?_replicate]
    split <;> rfl
  rw [this]
theorem pure_init {K : PySem.W.Frag} {C : Addr} (hC : StoreC K C) {vs : List V} {H : Hp} {Q : VK} {E : XK} (h : sp_init C vs H Q E) : t_Store_init K sp_look_number ⟨fun _ H' => Q .non H', Q, fun _ _ => False, fun _ _ => False⟩ (start ["self", "hands", "cells", "thing"] vs) H := by
  obtain ⟨p, dx, h, n, R, rfl, hh, h1, h6, n1', n5, q⟩ := h
  obtain ⟨cl, n1, n2, n3, n4⟩ := hC
  unfold t_Store_init
  walk_at "go"
  refine ⟨_, _, _, rfl, h1, h6, ?_⟩
  walk_at "go"
  refine ⟨_, _, _, rfl, n1', n5, ?_⟩
  walk_at "go"
  rename_i H1 hh1
  refine k_lcR (L := [(p, .ins C dx [("hands", .int h)])] :: R) hh1 (fun D i H' => ∃ ps : List Addr, ps.length = i ∧ Has H' ([(D, .lst (ps.map V.ref))] :: tupsU 0 ps :: [(p, .ins C dx [("hands", .int h)])] :: R)) (by omega) (fun D H' h' => ⟨[], rfl, ?_⟩) ?_ ?_
  · exact (Has.nilU.mpr (h'.sub (Sub.p1 (Sub.p0 Sub.rf)))).sub (Sub.p2 (Sub.p0 (Sub.p0 Sub.rf)))
  · rintro D i H' hi ⟨ps, hl, h'⟩
    refine ⟨rfl, ?_⟩
    walk_at "go"
    rename_i t _ _ H3 h3
    refine ⟨ps ++ [t], by rw [List.length_append, hl]; rfl, ?_⟩
    rw [List.map_append, tupsU_snoc, hl, Int.zero_add]
    exact (Has.op.mpr (h3.sub (Sub.p2 (Sub.p0 (Sub.p0 Sub.rf))))).sub (Sub.p1 (Sub.p0 Sub.rf))
  · rintro D H' ⟨ps, hl, h'⟩
    walk_at "go"
    have hf := Has.fam (h'.sub (Sub.p1 (Sub.p0 Sub.rf)))
    refine ⟨D, ps, _, rfl, SqL.of h'.g0, tups_pair hf, fun w hw => ?_⟩
    have e1 : (List.range ps.length).map (fun (j : Nat) => ((0 : Int) + (j : Int), V.int 0)) = (rgI n).map fun k => (k, V.int 0) := by
      unfold rgI
      rw [List.map_map, hl]
      refine List.map_congr_left fun j _ => ?_
      show ((0 : Int) + (j : Int), V.int 0) = ((j : Int), V.int 0)
      rw [Int.zero_add]
    have e2 : mergeK [] (mk g1 ((rgI n).map fun k => (k, V.int 0))) = mk g1 (worthOf (List.replicate n.toNat 0) (rgI n)) := by
      unfold mergeK
      rw [merge_new _ [] (by
        rw [List.nil_append, mk_keys, List.map_map, List.map_map]
        exact List.Pairwise.map _ (fun a b (h : a ≠ b) => fun e => h (g1_inj _ _ e)) (rgI_nodup n)), worth_new]
      rfl
    rw [e1, e2]
    have h2 := h'.nw (o := dI (worthOf (List.replicate n.toNat 0) (rgI n))) hw
    generalize upd H' w (dI (worthOf (List.replicate n.toNat 0) (rgI n))) = H2 at h2
    walk_at "go"
    rename_i c _ _ _ _ H6 h6
    have el : (List.replicate n.toNat (0 : Int)).length = n.toNat := List.length_replicate
    have e3 : n = ((List.replicate n.toNat (0 : Int)).length : Int) := by rw [el]; omega
    refine q w c H6 (Has.glue2 ?_)
    show Has H6 ([(p, .ins C dx (stF (.int h) (.ref w) (.ref c) (.int ((List.replicate n.toNat (0 : Int)).length : Int)) []))] :: [(w, dI (worthOf (List.replicate n.toNat 0) (rgI n)))] :: [(c, .lst ((rgI n).map V.int))] :: R)
    rw [← e3]
    walk_at "has"
end La
namespace La
open PySem L2 Sy
local macro_rules | `(tactic| walk_at "fl") => `(tactic| first | assumption | exact stF_hands | exact stF_worth | exact stF_cells | exact stF_made | exact StX.f1 (by assumption) | exact StX.f2 (by assumption) | exact StX.f3 (by assumption) | exact StX.f4 (by assumption) | exact StX.f5 (by assumption) | exact StX.f6 (by assumption) | exact StX.f7 (by assumption) | exact StX.f8 (by assumption) | exact StX.f9 (by assumption))
local macro_rules | `(tactic| walk_at "fsl") => `(tactic| first | assumption | exact StX.fl (by assumption))
local macro_rules | `(tactic| walk_at "put") => `(tactic| first | exact stF_put_made | exact stF_put_cells | exact stF_put_worth | exact stF_put_hands)
/-! ### the law's own store -/
structure Own where
  a0 : Addr
  a1 : Addr
  a2 : Addr
  cells : List Int
  vals : List Int
  kept : List Int
@[reducible] def ownU (o : Addr) (s : Own) : U := [(o, .lst [.ref s.a0, .ref s.a1, .ref s.a2]), (s.a0, .lst (s.cells.map V.int)), (s.a1, .lst (s.vals.map V.int)), (s.a2, .lst (s.kept.map V.int))]
def Own.swap (s : Own) (i v : Int) : Own := { s with cells := s.cells.set i.toNat (s.vals.length : Int), vals := s.vals ++ [v], kept := s.kept ++ [(s.vals.length : Int)] }
def sp__law_things : Sp := fun vs H Q _ => ∃ (n : Int) (R : List U), vs = [.int n] ∧ Has H R ∧ 1 ≤ n ∧ n ≤ 5 ∧
  ∀ o a0 a1 a2 H', Has H' (ownU o ⟨a0, a1, a2, rgI n, List.replicate n.toNat 0, rgI n⟩ :: R) → Q (.ref o) H'
theorem pure__law_things {K : PySem.W.Frag} {vs : List V} {H : Hp} {Q : VK} {E : XK} (h : sp__law_things vs H Q E) : t__law_things K ⟨fun _ H' => Q .non H', Q, fun _ _ => False, fun _ _ => False⟩ (start ["size"] vs) H := by
  obtain ⟨n, R, rfl, hh, n1, n5, q⟩ := h
  unfold t__law_things
  walk_at "go"
  rename_i a0 _ _ z _ _ a1 _ _ a2 _ _ o H1 h1
  refine q o a0 a1 a2 H1 (Has.glue3 ?_)
  rw [List.map_replicate]
  walk_at "has"
def sp__law_whole_list : Sp := fun vs H Q _ => ∃ (p : Addr) (ns : List Int) (R : List U), vs = [.ref p] ∧ Has H ([(p, .lst (ns.map V.int))] :: R) ∧ ns.length ≤ 1000 ∧
  ∀ H', Has H' ([(p, .lst (ns.map V.int))] :: R) → Q (.bl true) H'
theorem pure__law_whole_list {K : PySem.W.Frag} {vs : List V} {H : Hp} {Q : VK} {E : XK} (h : sp__law_whole_list vs H Q E) : t__law_whole_list K sp__law_whole ⟨fun _ H' => Q .non H', Q, fun _ _ => False, fun _ _ => False⟩ (start ["thing", "one"] vs) H := by
  obtain ⟨p, ns, R, rfl, hh, hl, q⟩ := h
  unfold t__law_whole_list
  walk_at "go"
  refine k_lcM ns V.int (fun _ => V.bl true) hh (fun H' h' => by walk_at "hp") (by omega) (fun z hz D M H' Q' h' q' => ?_) fun D H' h' => ?_
  · walk_at "go"
    exact ⟨z, rfl, q' H' h'⟩
  · have e : ns.map (fun _ => V.bl true) = (ns.map fun _ => true).map V.bl := by rw [List.map_map]; rfl
    rw [e] at h'
    walk_at "go"
    have e2 : (ns.map fun _ => true).all id = true := by
      rw [List.all_eq_true]
      intro b hb
      obtain ⟨_, _, rfl⟩ := List.mem_map.mp hb
      rfl
    rw [e2]
    refine q H' ?_
    walk_at "has"
/-- a swap at a store of any kind and at the law's own -/
def sp__law_swap {G : Type} (u : Addr → G → U) (cells vals : G → List Int) (sw : G → Int → Int → G) (ok : G → Prop) : Sp := fun vs H Q _ => ∃ (t p o : Addr) (ts : Town) (g : G) (ow : Own) (R : List U), vs = [.ref t, .ref p, .ref o] ∧
  Has H (townU t ts :: u p g :: ownU o ow :: R) ∧ ts.ok ∧ ok g ∧ ow.cells = cells g ∧ ow.vals.length ≤ 999 ∧ ow.kept.length ≤ 999 ∧ 0 < ow.cells.length ∧ ow.cells.length ≤ 5 ∧
  ∀ (i v : Int) (ts' : Town) (H' : Hp), 0 ≤ i → i < (cells g).length → 0 ≤ v → v ≤ 999 → ts'.ok → Has H' (townU t ts' :: u p (sw g i v) :: ownU o (ow.swap i v) :: R) → Q (.int ((cells g).getD i.toNat 0)) H'
theorem pure__law_swap {K : PySem.W.Frag} {C : Addr} {spS : Sp} {G : Type} {u : Addr → G → U} {cells vals : G → List Int} {sw : G → Int → Int → G} {ok : G → Prop}
    (hob : ∀ p g R H, Has H (u p g :: R) → ∃ dx fs, H p = some (.ins C dx fs) ∧ fs.lookup ("swap" : Str) = none)
    (hsw : ∀ p g (i v : Int) R H (Q : VK), Has H (u p g :: R) → ok g → 0 ≤ i → i < (cells g).length → 0 ≤ v → v ≤ 999 → (∀ H', Has H' (u p (sw g i v) :: R) → Q (.int ((cells g).getD i.toNat 0)) H') → spS [.ref p, .int i, .int v] H Q E0)
    {vs : List V} {H : Hp} {Q : VK} {E : XK} (h : sp__law_swap u cells vals sw ok vs H Q E) : t__law_swap K C sp__law_draw sp__law_value spS ⟨fun _ H' => Q .non H', Q, fun _ _ => False, fun _ _ => False⟩ (start ["town", "store", "own", "cell", "value", "old"] vs) H := by
  obtain ⟨t, p, o, ts, g, ⟨a0, a1, a2, cs, vl, kp⟩, R, rfl, hh, tok, gok, hc, hv, hk, c0, c5, q⟩ := h
  dsimp only at hc hv hk c0 c5
  subst hc
  replace hh := (hh.sub (Sub.p2 Sub.rf)).cut3
  dsimp only at hh
  unfold t__law_swap
  walk_at "go"
  refine use_draw hh (by walk_at "sub") tok (by rw [List.length_map]; omega) (by rw [List.length_map]; omega) fun i ts1 H1 i0 i1 tok1 hh1 => ?_
  rw [List.length_map] at i1
  walk_at "go"
  refine ⟨t, ts1, _, rfl, tok1, hh1, fun v ts2 H2 v0 v9 tok2 hh2 => ?_⟩
  have ea := at_ints i0 i1
  have ex : ixN ((cells g).map V.int).length i = some i.toNat := ix_ok i0 (by rw [List.length_map]; exact i1)
  have e1 : (kp.map V.int).length < sizeLine := by rw [List.length_map, sizeLine_eq]; omega
  have e2 : (vl.map V.int).length < sizeLine := by rw [List.length_map, sizeLine_eq]; omega
  walk_at "go"
  rename_i H5 h5
  have h6 := h5.sub (show Sub (u p g :: _) _ by walk_at "sub")
  obtain ⟨dx, fs, hp, hf⟩ := hob p g _ H5 h6
  refine k_meth0 hp hf ?_
  walk_at "go"
  refine hsw p g i v _ H5 _ h6 gok i0 i1 v0 v9 fun H7 h7 => ?_
  walk_at "go"
  refine ifY (decide_eq_true rfl) ?_
  walk_at "go"
  refine q i v ts2 H7 i0 i1 v0 v9 tok2 ?_
  have e3 : (vl.map V.int).length = vl.length := List.length_map ..
  rw [map_set_int, e3] at h7
  have e4 : kp.map V.int ++ [V.int vl.length] = (kp ++ [(vl.length : Int)]).map V.int := by rw [List.map_append]; rfl
  have e5 : vl.map V.int ++ [V.int v] = (vl ++ [v]).map V.int := by rw [List.map_append]; rfl
  rw [e4, e5] at h7
  have h8 := Has.glue3 (h7.sub (Sub.p2 (Sub.p2 (Sub.p2 (Sub.p2 Sub.rf)))))
  walk_at "has"
/-- store and law's own agree -/
def sp__law_fits (C : Addr) : Sp := fun vs H Q _ => ∃ (p o : Addr) (x : List (Str × V)) (s : Sto) (ow : Own) (R : List U), vs = [.ref p, .ref o] ∧ Has H (stoU C p x s :: ownU o ow :: R) ∧ StX x ∧ s.ok ∧ s.vals.length < 64 ∧ ow.cells = s.cells ∧ ow.vals = s.vals ∧ ow.kept.Perm s.kept ∧
  ∀ H', Has H' (stoU C p x s :: ownU o ow :: R) → Q (.bl true) H'
theorem pure__law_fits {K : PySem.W.Frag} {C : Addr} {vs : List V} {H : Hp} {Q : VK} {E : XK} (h : sp__law_fits C vs H Q E) : t__law_fits K C (sp_now C) (sp_kept C) sp__law_whole_list ⟨fun _ H' => Q .non H', Q, fun _ _ => False, fun _ _ => False⟩ (start ["store", "own", "thing"] vs) H := by
  obtain ⟨p, o, x, s, ⟨a0, a1, a2, cs, vl, kp⟩, R, rfl, hh, hx, ok, hv, hc, hl, hk, q⟩ := h
  dsimp only at hc hl hk
  subst hc hl
  have h5 := ok.c5
  have hkl := ok.klen
  have hh1 := (hh.sub (Sub.p1 Sub.rf)).cut3
  dsimp only at hh1
  unfold t__law_fits
  walk_at "go"
  refine ⟨p, x, s, _, rfl, by walk_at "has", hx, ok, fun d H1 h1 => ?_⟩
  walk_at "go"
  refine k_lcM s.cells V.int (fun k => V.int (s.vals.getD k.toNat 0)) h1 (fun H' h' => by walk_at "hp") (by omega) (fun z hz D M H' Q' h' q' => ?_) fun D H2 h2 => ?_
  · obtain ⟨z0, z1⟩ := ok.made z (ok.here z hz)
    have ea := at_ints z0 z1
    walk_at "go"
    exact q' H' h'
  · have e1 : s.cells.map (fun k => V.int (s.vals.getD k.toNat 0)) = s.now.map V.int := by unfold Sto.now; rw [List.map_map]; rfl
    rw [e1] at h2
    walk_at "go"
    refine ifN (by simp) ?_
    walk_at "go"
    refine ⟨p, x, s, _, rfl, by walk_at "has", hx, ok, hv, fun d3 H3 h3 => ?_⟩
    walk_at "go"
    rename_i ys d4 H4 p1 p2 h4
    have e := sorted_unique p2 (rise_le ok.rise) (p1.trans hk)
    subst e
    walk_at "go"
    refine ifY (decide_eq_true rfl) ?_
    walk_at "go"
    refine ⟨p, x, s, _, rfl, by walk_at "has", hx, ok, hv, fun d5 H5 h5 => ?_⟩
    walk_at "go"
    refine ⟨d5, s.kept, _, rfl, h5, by omega, fun H6 h6 => q H6 ?_⟩
    have h7 := Has.glue3 (h6.sub (show Sub ([(o, .lst [.ref a0, .ref a1, .ref a2])] :: [(a0, .lst (s.cells.map V.int))] :: [(a1, .lst (s.vals.map V.int))] :: [(a2, .lst (kp.map V.int))] :: stoU C p x s :: R) _ by walk_at "sub"))
    exact h7.sub (Sub.p1 (Sub.p0 Sub.rf))
end La
namespace La
open PySem L2 Sy
local macro_rules | `(tactic| walk_at "fl") => `(tactic| first | assumption | exact stF_hands | exact stF_worth | exact stF_cells | exact stF_made | exact StX.f1 (by assumption) | exact StX.f2 (by assumption) | exact StX.f3 (by assumption) | exact StX.f4 (by assumption) | exact StX.f5 (by assumption) | exact StX.f6 (by assumption) | exact StX.f7 (by assumption) | exact StX.f8 (by assumption) | exact StX.f9 (by assumption))
local macro_rules | `(tactic| walk_at "fsl") => `(tactic| first | assumption | exact StX.fl (by assumption))
local macro_rules | `(tactic| walk_at "put") => `(tactic| first | exact stF_put_made | exact stF_put_cells | exact stF_put_worth | exact stF_put_hands)
/-! ### dicts with whole-number keys, their values typed -/
section
variable {κ β : Type} [DecidableEq κ]
def mv (f : β → V) (m : List (κ × β)) : List (κ × V) := m.map fun q => (q.1, f q.2)
def fd (m : List (κ × β)) (k : κ) : Option β := (m.find? fun q => decide (q.1 = k)).map (·.2)
def rm (m : List (κ × β)) (k : κ) : List (κ × β) := m.filter fun q => decide (q.1 ≠ k)
def pu (m : List (κ × β)) (k : κ) (b : β) : List (κ × β) := if (fd m k).isSome then m.map (fun q => if q.1 = k then (q.1, b) else q) else m ++ [(k, b)]
theorem fd_nil (k : κ) : fd ([] : List (κ × β)) k = none := rfl
theorem fd_pos {p : κ × β} {r : List (κ × β)} {k : κ} (h : p.1 = k) : fd (p :: r) k = some p.2 := by simp [fd, List.find?_cons, h]
theorem fd_neg {p : κ × β} {r : List (κ × β)} {k : κ} (h : ¬ p.1 = k) : fd (p :: r) k = fd r k := by simp [fd, List.find?_cons, h]
theorem fd_none {m : List (κ × β)} {k : κ} : fd m k = none ↔ k ∉ m.map (·.1) := by
  induction m with
  | nil => simp [fd_nil]
  | cons p r ih =>
    by_cases h : p.1 = k
    · rw [fd_pos h]; simp [h]
    · rw [fd_neg h, ih]
      simp only [List.map_cons, List.mem_cons, not_or]
      exact ⟨fun q => ⟨fun e => h e.symm, q⟩, fun q => q.2⟩
theorem fd_isSome {m : List (κ × β)} {k : κ} : (fd m k).isSome = true ↔ k ∈ m.map (·.1) := by
  cases e : fd m k with
  | none => have := fd_none.mp e; simpa using this
  | some b => simp only [Option.isSome_some, true_iff]; exact Classical.byContradiction fun h => by rw [fd_none.mpr h] at e; cases e
theorem fd_mem {m : List (κ × β)} {k : κ} {b : β} (h : fd m k = some b) : (k, b) ∈ m := by
  unfold fd at h
  obtain ⟨q, hq, e⟩ := Option.map_eq_some_iff.mp h
  have h1 := List.mem_of_find?_eq_some hq
  have h2 := List.find?_some hq
  have h3 : q.1 = k := by simpa using h2
  rw [← h3, ← e]
  exact h1
theorem fd_of {m : List (κ × β)} {k : κ} {b : β} (nd : (m.map (·.1)).Nodup) (h : (k, b) ∈ m) : fd m k = some b := by
  induction m with
  | nil => cases h
  | cons p r ih =>
    obtain ⟨n1, n2⟩ := List.nodup_cons.mp (show (p.1 :: r.map (·.1)).Nodup from nd)
    rcases List.mem_cons.mp h with e | h
    · rw [← e, fd_pos rfl]
    · have : ¬ p.1 = k := fun e => n1 (e ▸ List.mem_map.mpr ⟨(k, b), h, rfl⟩)
      rw [fd_neg this]
      exact ih n2 h
theorem fd_split {m : List (κ × β)} {k : κ} {b : β} (h : fd m k = some b) : ∃ A B, m = A ++ (k, b) :: B ∧ k ∉ A.map (·.1) := by
  induction m with
  | nil => cases h
  | cons p r ih =>
    by_cases e : p.1 = k
    · rw [fd_pos e] at h
      cases h
      exact ⟨[], r, by rw [← e]; rfl, by simp⟩
    · rw [fd_neg e] at h
      obtain ⟨A, B, rfl, hk⟩ := ih h
      refine ⟨p :: A, B, rfl, ?_⟩
      simp only [List.map_cons, List.mem_cons, not_or]
      exact ⟨fun q => e q.symm, hk⟩
theorem mv_len (f : β → V) (m : List (κ × β)) : (mv f m).length = m.length := List.length_map ..
theorem mv_keys (f : β → V) (m : List (κ × β)) : (mv f m).map (fun x => x.1) = m.map (·.1) := by unfold mv; rw [List.map_map]; rfl
theorem mv_val (f : β → V) (m : List (κ × β)) (k : κ) : valV (mv f m) k = (fd m k).map f := by
  induction m with
  | nil => rfl
  | cons p r ih =>
    show valV ((p.1, f p.2) :: mv f r) k = _
    by_cases h : p.1 = k
    · rw [valV_pos (p := (p.1, f p.2)) h, fd_pos h]; rfl
    · rw [valV_neg (p := (p.1, f p.2)) h, fd_neg h, ih]
theorem mv_some {f : β → V} {m : List (κ × β)} {k : κ} {b : β} (h : fd m k = some b) : valV (mv f m) k = some (f b) := by rw [mv_val, h]; rfl
theorem mv_isSome (f : β → V) (m : List (κ × β)) (k : κ) : (valV (mv f m) k).isSome = (fd m k).isSome := by rw [mv_val, Option.isSome_map]
theorem mv_drop (f : β → V) (m : List (κ × β)) (k : κ) : dropK (mv f m) k = mv f (rm m k) := by
  unfold dropK mv rm
  rw [List.filter_map]
  rfl
theorem mv_put (f : β → V) (m : List (κ × β)) (k : κ) (b : β) : putK (mv f m) k (f b) = mv f (pu m k b) := by
  unfold putK pu
  rw [valV_any, mv_isSome]
  by_cases h : (fd m k).isSome = true
  · rw [if_pos h, if_pos h]
    unfold mv
    rw [List.map_map, List.map_map]
    refine List.map_congr_left fun q _ => ?_
    show (if q.1 = k then (q.1, f b) else (q.1, f q.2)) = ((if q.1 = k then (q.1, b) else q).1, f (if q.1 = k then (q.1, b) else q).2)
    split <;> rfl
  · rw [if_neg h, if_neg h]
    unfold mv
    rw [List.map_append]
    rfl
theorem pu_new {m : List (κ × β)} {k : κ} (b : β) (h : fd m k = none) : pu m k b = m ++ [(k, b)] := by unfold pu; rw [h]; rfl
theorem pu_keys_old {m : List (κ × β)} {k : κ} (b : β) (h : (fd m k).isSome = true) : (pu m k b).map (·.1) = m.map (·.1) := by
  unfold pu
  rw [if_pos h, List.map_map]
  refine List.map_congr_left fun q _ => ?_
  show (if q.1 = k then (q.1, b) else q).1 = q.1
  split <;> rfl
theorem fd_append {m n : List (κ × β)} {k : κ} : fd (m ++ n) k = (fd m k).or (fd n k) := by
  induction m with
  | nil => simp [fd_nil]
  | cons p r ih =>
    by_cases h : p.1 = k
    · rw [List.cons_append, fd_pos h, fd_pos h]; rfl
    · rw [List.cons_append, fd_neg h, fd_neg h, ih]
theorem fd_pu (m : List (κ × β)) (k j : κ) (b : β) : fd (pu m k b) j = if j = k then some b else fd m j := by
  unfold pu
  by_cases h : (fd m k).isSome = true
  · rw [if_pos h]
    induction m with
    | nil => cases h
    | cons p r ih =>
      rw [List.map_cons]
      by_cases e : p.1 = k
      · rw [if_pos e]
        by_cases ej : j = k
        · rw [fd_pos (p := (p.1, b)) (e.trans ej.symm), if_pos ej]
        · rw [fd_neg (p := (p.1, b)) (fun z => ej (z.symm.trans e)), if_neg ej, fd_neg (fun z => ej (z.symm.trans e))]
          by_cases hr : (fd r k).isSome = true
          · rw [ih hr, if_neg ej]
          · have hk : k ∉ r.map (·.1) := fun z => hr (fd_isSome.mpr z)
            congr 1
            refine List.map_congr_left (g := id) (fun q hq => ?_) |>.trans (List.map_id r)
            have : ¬ q.1 = k := fun z => hk (z ▸ List.mem_map.mpr ⟨q, hq, rfl⟩)
            rw [if_neg this]; rfl
      · rw [if_neg e]
        rw [fd_neg e] at h
        by_cases ep : p.1 = j
        · rw [fd_pos ep, fd_pos ep, if_neg (fun z => e (ep.trans z))]
        · rw [fd_neg ep, fd_neg ep, ih h]
  · rw [if_neg h, fd_append]
    by_cases ej : j = k
    · subst ej
      have hn : fd m j = none := by cases e : fd m j with
        | none => rfl
        | some v => rw [e] at h; exact absurd rfl h
      rw [hn, if_pos rfl, fd_pos rfl]; rfl
    · rw [if_neg ej, fd_neg (p := (k, b)) (fun z => ej z.symm), fd_nil, Option.or_none]
theorem fd_rm (m : List (κ × β)) (k j : κ) : fd (rm m k) j = if j = k then none else fd m j := by
  induction m with
  | nil => simp [rm, fd_nil]
  | cons p r ih =>
    have ih : fd (List.filter (fun q => decide (q.1 ≠ k)) r) j = _ := ih
    unfold rm
    by_cases e : p.1 = k
    · rw [List.filter_cons, if_neg (by simp [e]), ih]
      by_cases ej : j = k
      · rw [if_pos ej, if_pos ej]
      · rw [if_neg ej, if_neg ej, fd_neg (fun z => ej (z.symm.trans e))]
    · rw [List.filter_cons, if_pos (by simp [e])]
      by_cases ep : p.1 = j
      · rw [fd_pos ep, fd_pos ep, if_neg (fun z => e (ep.trans z))]
      · rw [fd_neg ep, fd_neg ep, ih]
theorem rm_len (m : List (κ × β)) (k : κ) : (rm m k).length ≤ m.length := List.length_filter_le _ _
theorem rm_sub (m : List (κ × β)) (k : κ) : (rm m k).Sublist m := List.filter_sublist
theorem rm_nodup {m : List (κ × β)} {k : κ} (h : (m.map (·.1)).Nodup) : ((rm m k).map (·.1)).Nodup := ((rm_sub m k).map _).nodup h
theorem rm_mem {m : List (κ × β)} {k : κ} {q : κ × β} : q ∈ rm m k ↔ q ∈ m ∧ q.1 ≠ k := by unfold rm; rw [List.mem_filter]; simp
theorem nodup_snoc {l : List Int} {k : Int} (h : l.Nodup) (hk : k ∉ l) : (l ++ [k]).Nodup := nd_snoc h hk
/-- several keys taken out -/
def rms (m : List (Int × β)) (ks : List Int) : List (Int × β) := m.filter fun q => decide (q.1 ∉ ks)
theorem rms_nil (m : List (Int × β)) : rms m [] = m := List.filter_eq_self.mpr fun _ _ => by simp
theorem rms_snoc (m : List (Int × β)) (ks : List Int) (k : Int) : rm (rms m ks) k = rms m (ks ++ [k]) := by
  unfold rm rms
  rw [List.filter_filter]
  refine List.filter_congr fun q _ => ?_
  by_cases h1 : q.1 ∈ ks <;> by_cases h2 : q.1 = k <;> simp [h1, h2]
end
/-! ### families of objects by keys -/
def famU {κ β : Type} (obs : β → U) (m : List (κ × β)) : U := m.flatMap fun q => obs q.2
theorem fam_app {κ β : Type} (obs : β → U) (A B : List (κ × β)) : famU obs (A ++ B) = famU obs A ++ famU obs B := by unfold famU; rw [List.flatMap_append]
theorem fam_out {κ β : Type} {obs : β → U} {A B : List (κ × β)} {k : κ} {b : β} {H : Hp} {L : List U} (h : Has H (famU obs (A ++ (k, b) :: B) :: L)) : Has H (obs b :: famU obs A :: famU obs B :: L) := by
  rw [fam_app, show famU obs ((k, b) :: B) = obs b ++ famU obs B from rfl] at h
  exact (Has.op.mp ((Has.op.mp h).sub (show Sub ((_ ++ _) :: famU obs A :: L) _ from Sub.p1 (Sub.p0 Sub.rf)))).sub (Sub.p0 (Sub.p1 (Sub.p0 Sub.rf)))
theorem fam_in {κ β : Type} {obs : β → U} {A B : List (κ × β)} {k : κ} {b : β} {H : Hp} {L : List U} (h : Has H (obs b :: famU obs A :: famU obs B :: L)) : Has H (famU obs (A ++ (k, b) :: B) :: L) := by
  rw [fam_app, show famU obs ((k, b) :: B) = obs b ++ famU obs B from rfl]
  refine Has.op.mpr ?_
  exact (Has.op.mpr (h.sub (show Sub (obs b :: famU obs B :: famU obs A :: L) _ from Sub.p0 (Sub.p1 (Sub.p0 Sub.rf))))).sub (Sub.p1 (Sub.p0 Sub.rf))
theorem fam_two {κ β : Type} {obs : β → U} {A B : List (κ × β)} {H : Hp} {L : List U} (h : Has H (famU obs A :: famU obs B :: L)) : Has H (famU obs (A ++ B) :: L) := by
  rw [fam_app]
  exact Has.op.mpr h
theorem fam_snoc {κ β : Type} {obs : β → U} {A : List (κ × β)} {k : κ} {b : β} {H : Hp} {L : List U} (h : Has H (obs b :: famU obs A :: L)) : Has H (famU obs (A ++ [(k, b)]) :: L) := by
  rw [fam_app, show famU obs [(k, b)] = obs b from List.append_nil _]
  exact Has.op.mpr (h.sub (Sub.p1 (Sub.p0 Sub.rf)))
theorem pu_split {κ β : Type} [DecidableEq κ] {m : List (κ × β)} {k : κ} {b : β} (nd : (m.map (·.1)).Nodup) (h : fd m k = some b) : ∃ A B, m = A ++ (k, b) :: B ∧ (∀ b', pu m k b' = A ++ (k, b') :: B) ∧ rm m k = A ++ B := by
  obtain ⟨A, B, e, ha⟩ := fd_split h
  have hb : k ∉ B.map (·.1) := by
    rw [e, List.map_append, List.map_cons] at nd
    exact (List.nodup_cons.mp (List.nodup_append.mp nd).2.1).1
  have key : ∀ (l : List (κ × β)), k ∉ l.map (·.1) → (∀ q ∈ l, ¬ q.1 = k) := fun l hl q hq e => hl (e ▸ List.mem_map.mpr ⟨q, hq, rfl⟩)
  have hid : ∀ (l : List (κ × β)) (b' : β), k ∉ l.map (·.1) → l.map (fun q => if q.1 = k then (q.1, b') else q) = l := fun l b' hl => (List.map_congr_left fun q hq => if_neg (key l hl q hq)).trans (List.map_id' l)
  have hfl : ∀ (l : List (κ × β)), k ∉ l.map (·.1) → l.filter (fun q => decide (q.1 ≠ k)) = l := fun l hl => List.filter_eq_self.mpr fun q hq => decide_eq_true (key l hl q hq)
  refine ⟨A, B, e, fun b' => ?_, ?_⟩
  · unfold pu
    rw [if_pos (by rw [h]; rfl), e, List.map_append, List.map_cons, hid A b' ha, hid B b' hb, if_pos rfl]
  · unfold rm
    rw [e, List.filter_append, List.filter_cons, if_neg (by simp), hfl A ha, hfl B hb]
theorem pu_mem {κ β : Type} [DecidableEq κ] {m : List (κ × β)} {k : κ} {b : β} {q : κ × β} (h : q ∈ pu m k b) : q ∈ m ∨ q = (k, b) := by
  unfold pu at h
  split at h
  · obtain ⟨z, hz, e⟩ := List.mem_map.mp h
    by_cases hk : z.1 = k
    · rw [if_pos hk] at e
      exact .inr (by rw [← e, hk])
    · rw [if_neg hk] at e
      exact .inl (e ▸ hz)
  · rcases List.mem_append.mp h with h | h
    · exact .inl h
    · exact .inr (List.mem_singleton.mp h)
theorem pu_nd {κ β : Type} [DecidableEq κ] {m : List (κ × β)} {k : κ} (b : β) (h : (m.map (·.1)).Nodup) : ((pu m k b).map (·.1)).Nodup := by
  by_cases e : (fd m k).isSome = true
  · rw [pu_keys_old b e]
    exact h
  · have hn : fd m k = none := by cases e2 : fd m k with
      | none => rfl
      | some v => rw [e2] at e; exact absurd rfl e
    rw [pu_new b hn, List.map_append]
    refine List.nodup_append.mpr ⟨h, List.pairwise_singleton _ _, fun a ha b hb e3 => ?_⟩
    have hb : b = k := List.mem_singleton.mp hb
    rw [e3, hb] at ha
    exact fd_none.mp hn ha
theorem pu_len' {κ β : Type} [DecidableEq κ] (m : List (κ × β)) (k : κ) (b : β) : (pu m k b).length ≤ m.length + 1 := by
  unfold pu
  split
  · rw [List.length_map]; omega
  · rw [List.length_append]; exact Nat.le_refl _
theorem nodup_sub_len : ∀ {l m : List Int}, l.Nodup → (∀ z ∈ l, z ∈ m) → l.length ≤ m.length
  | [], m, _, _ => Nat.zero_le _
  | a :: r, m, nd, h => by
    have nd2 := List.nodup_cons.mp nd
    have ha : a ∈ m := h a (List.mem_cons.mpr (.inl rfl))
    have ih := nodup_sub_len (l := r) (m := m.erase a) nd2.2 fun z hz => (List.mem_erase_of_ne (show z ≠ a from fun e => nd2.1 (e ▸ hz))).mpr (h z (List.mem_cons_of_mem _ hz))
    have e := List.length_erase_of_mem ha
    have := List.length_pos_of_mem ha
    rw [List.length_cons]
    omega
/-! ### more of the store: hands, letting go, values -/
def sp_look_hand (C : Addr) : Sp := fun vs H Q _ => ∃ (p : Addr) (x : List (Str × V)) (s : Sto) (k : Int) (R : List U), vs = [.ref p, .int k] ∧ Has H (stoU C p x s :: R) ∧ StX x ∧ 0 ≤ k ∧ k < s.hands ∧ Q .non H
theorem pure_look_hand {K : PySem.W.Frag} {C : Addr} (hC : StoreC K C) {vs : List V} {H : Hp} {Q : VK} {E : XK} (h : sp_look_hand C vs H Q E) : t_Store_look_hand K sp_is_whole ⟨fun _ H' => Q .non H', Q, fun _ _ => False, fun _ _ => False⟩ (start ["self", "hand"] vs) H := by
  obtain ⟨p, x, s, k, R, rfl, hh, hx, k0, k1, q⟩ := h
  obtain ⟨cl, n1, n2, n3, n4⟩ := hC
  replace hh := hh.cut2
  unfold t_Store_look_hand
  walk_at "go"
  refine ⟨_, _, _, rfl, ?_⟩
  rw [decide_eq_true ⟨k0, by omega⟩]
  walk_at "go"
  exact q
def sp_value_of (C : Addr) : Sp := fun vs H Q _ => ∃ (p : Addr) (x : List (Str × V)) (s : Sto) (k : Int) (R : List U), vs = [.ref p, .int k] ∧ Has H (stoU C p x s :: R) ∧ StX x ∧ k ∈ s.kept ∧ Q (.int (s.vals.getD k.toNat 0)) H
theorem pure_value_of {K : PySem.W.Frag} {C : Addr} (hC : StoreC K C) {vs : List V} {H : Hp} {Q : VK} {E : XK} (h : sp_value_of C vs H Q E) : t_Store_value_of K ⟨fun _ H' => Q .non H', Q, fun _ _ => False, fun _ _ => False⟩ (start ["self", "thing"] vs) H := by
  obtain ⟨p, x, s, k, R, rfl, hh, hx, hk, q⟩ := h
  obtain ⟨cl, n1, n2, n3, n4⟩ := hC
  replace hh := hh.cut2
  have hv := worth_val (vals := s.vals) hk
  unfold t_Store_value_of
  walk_at "go"
  rw [hv]
  walk_at "go"
  refine ifN (by rfl) ?_
  walk_at "go"
  exact q
/-- things let go -/
def Sto.less (s : Sto) (ks : List Int) : Sto := { s with kept := s.kept.filter fun k => decide (k ∉ ks) }
theorem worth_less (vals kept ks : List Int) (k : Int) : dropK (worthOf vals (kept.filter fun z => decide (z ∉ ks))) k = worthOf vals (kept.filter fun z => decide (z ∉ ks ++ [k])) := by
  unfold dropK worthOf
  rw [List.filter_map, List.filter_filter]
  congr 1
  refine List.filter_congr fun z _ => ?_
  show (decide (z ≠ k) && decide (z ∉ ks)) = _
  by_cases h1 : z ∈ ks <;> by_cases h2 : z = k <;> simp [h1, h2]
theorem Sto.ok.less {s : Sto} (ok : s.ok) {ks : List Int} (h : ∀ k ∈ ks, k ∉ s.cells) : (s.less ks).ok where
  c0 := ok.c0
  c5 := ok.c5
  v9 := ok.v9
  rise := ok.rise.filter _
  made := fun k hk => ok.made k (List.mem_filter.mp hk).1
  here := fun k hk => List.mem_filter.mpr ⟨ok.here k hk, by simpa using fun z => h k z hk⟩
  cnd := ok.cnd
def sp_let_go (C : Addr) : Sp := fun vs H Q _ => ∃ (p f : Addr) (x : List (Str × V)) (s : Sto) (ks : List Int) (R : List U), vs = [.ref p, .ref f] ∧ Has H (stoU C p x s :: [(f, .lst (ks.map V.int))] :: R) ∧ StX x ∧ ks.Nodup ∧ (∀ k ∈ ks, k ∈ s.kept) ∧
  ∀ (ys : List Int) (d : Addr) H', ys.Perm ks → ys.Pairwise (· ≤ ·) → Has H' ([(d, .lst (ys.map V.int))] :: stoU C p x (s.less ks) :: [(f, .lst (ks.map V.int))] :: R) → Q (.ref d) H'
theorem pure_let_go {K : PySem.W.Frag} {C : Addr} (hC : StoreC K C) {vs : List V} {H : Hp} {Q : VK} {E : XK} (h : sp_let_go C vs H Q E) : t_Store_let_go K ⟨fun _ H' => Q .non H', Q, fun _ _ => False, fun _ _ => False⟩ (start ["self", "things", "thing"] vs) H := by
  obtain ⟨p, f, x, s, ks, R, rfl, hh, hx, nd, hk, q⟩ := h
  obtain ⟨cl, n1, n2, n3, n4⟩ := hC
  replace hh := hh.cut2
  unfold t_Store_let_go
  walk_at "go"
  refine k_forL (fun i σ H' => ∃ v : Option V, σ = [some (.ref p), some (.ref f), v] ∧ Has H' ([(p, .ins C s.dx (stF (.int s.hands) (.ref s.w) (.ref s.c) (.int s.vals.length) x))] :: [(s.w, dI (worthOf s.vals (s.kept.filter fun z => decide (z ∉ ks.take i))))] :: [(s.c, .lst (s.cells.map V.int))] :: [(f, .lst (ks.map V.int))] :: R)) (by walk_at "hp") ⟨none, rfl, ?_⟩ ?_ ?_ ?_
  · have e : s.kept.filter (fun z => decide (z ∉ ks.take 0)) = s.kept := List.filter_eq_self.mpr fun _ _ => by simp
    rw [e]
    exact hh
  · rintro i σ H' ⟨v, rfl, h'⟩
    walk_at "hp"
  · rintro i y σ H' hi ⟨v, rfl, h'⟩
    rw [List.getElem?_map] at hi
    obtain ⟨k, hk1, rfl⟩ := Option.map_eq_some_iff.mp hi
    have hm : k ∈ ks := List.mem_of_getElem? hk1
    have et : ks.take (i + 1) = ks.take i ++ [k] := by rw [List.take_add_one, hk1]; rfl
    have hnt : k ∉ ks.take i := fun z => by
      have h2 : (ks.take i ++ [k]).Nodup := et ▸ ((List.take_sublist (i + 1) ks).nodup nd)
      rw [List.nodup_append] at h2
      exact h2.2.2 k z k (List.mem_singleton.mpr rfl) rfl
    have hv : valV (worthOf s.vals (s.kept.filter fun z => decide (z ∉ ks.take i))) k = some (.int (s.vals.getD k.toNat 0)) := worth_val (List.mem_filter.mpr ⟨hk k hm, by simpa using hnt⟩)
    walk_at "go"
    rename_i H2 h2
    refine ⟨_, rfl, ?_⟩
    rw [worth_less, ← et] at h2
    exact h2
  · rintro σ H' ⟨v, rfl, h'⟩
    have e : ks.take (ks.map V.int).length = ks := List.take_of_length_le (by rw [List.length_map]; exact Nat.le_refl _)
    rw [e] at h'
    walk_at "go"
    rename_i ys d H2 p1 p2 h2
    exact q ys d H2 p1 p2 ((h2.sub (Sub.p1 (Sub.p1 (Sub.p1 (Sub.p0 Sub.rf))))).glue2.sub (Sub.p1 (Sub.p0 Sub.rf)))
end La
namespace La
open PySem L2 Sy
local macro_rules | `(tactic| walk_at "fl") => `(tactic| first | assumption | exact stF_hands | exact stF_worth | exact stF_cells | exact stF_made | exact StX.f1 (by assumption) | exact StX.f2 (by assumption) | exact StX.f3 (by assumption) | exact StX.f4 (by assumption) | exact StX.f5 (by assumption) | exact StX.f6 (by assumption) | exact StX.f7 (by assumption) | exact StX.f8 (by assumption) | exact StX.f9 (by assumption))
local macro_rules | `(tactic| walk_at "fsl") => `(tactic| first | assumption | exact StX.fl (by assumption))
local macro_rules | `(tactic| walk_at "put") => `(tactic| first | exact stF_put_made | exact stF_put_cells | exact stF_put_worth | exact stF_put_hands)
def rdX (v0 v1 v2 v3 : V) : List (Str × V) := [("era", v0), ("inside", v1), ("saw", v2), ("waits", v3)]
theorem rd_era {h w c m v0 v1 v2 v3 : V} : (stF h w c m (rdX v0 v1 v2 v3)).lookup ("era" : Str) = some v0 := by kernel_rfl
theorem rd_put_era {h w c m v0 v1 v2 v3 u : V} : putF "era" u (stF h w c m (rdX v0 v1 v2 v3)) = stF h w c m (rdX u v1 v2 v3) := by kernel_rfl
theorem rd_inside {h w c m v0 v1 v2 v3 : V} : (stF h w c m (rdX v0 v1 v2 v3)).lookup ("inside" : Str) = some v1 := by kernel_rfl
theorem rd_put_inside {h w c m v0 v1 v2 v3 u : V} : putF "inside" u (stF h w c m (rdX v0 v1 v2 v3)) = stF h w c m (rdX v0 u v2 v3) := by kernel_rfl
theorem rd_saw {h w c m v0 v1 v2 v3 : V} : (stF h w c m (rdX v0 v1 v2 v3)).lookup ("saw" : Str) = some v2 := by kernel_rfl
theorem rd_put_saw {h w c m v0 v1 v2 v3 u : V} : putF "saw" u (stF h w c m (rdX v0 v1 v2 v3)) = stF h w c m (rdX v0 v1 u v3) := by kernel_rfl
theorem rd_waits {h w c m v0 v1 v2 v3 : V} : (stF h w c m (rdX v0 v1 v2 v3)).lookup ("waits" : Str) = some v3 := by kernel_rfl
theorem rd_put_waits {h w c m v0 v1 v2 v3 u : V} : putF "waits" u (stF h w c m (rdX v0 v1 v2 v3)) = stF h w c m (rdX v0 v1 v2 u) := by kernel_rfl
theorem rd_m_enter {h w c m v0 v1 v2 v3 : V} : (stF h w c m (rdX v0 v1 v2 v3)).lookup ("enter" : Str) = none := by kernel_rfl
theorem rd_m_look_in {h w c m v0 v1 v2 v3 : V} : (stF h w c m (rdX v0 v1 v2 v3)).lookup ("look_in" : Str) = none := by kernel_rfl
theorem rd_m_leave {h w c m v0 v1 v2 v3 : V} : (stF h w c m (rdX v0 v1 v2 v3)).lookup ("leave" : Str) = none := by kernel_rfl
theorem rd_m_look {h w c m v0 v1 v2 v3 : V} : (stF h w c m (rdX v0 v1 v2 v3)).lookup ("look" : Str) = none := by kernel_rfl
theorem rd_m_read {h w c m v0 v1 v2 v3 : V} : (stF h w c m (rdX v0 v1 v2 v3)).lookup ("read" : Str) = none := by kernel_rfl
theorem rd_m_go_on {h w c m v0 v1 v2 v3 : V} : (stF h w c m (rdX v0 v1 v2 v3)).lookup ("go_on" : Str) = none := by kernel_rfl
theorem rd_m_round_now {h w c m v0 v1 v2 v3 : V} : (stF h w c m (rdX v0 v1 v2 v3)).lookup ("round_now" : Str) = none := by kernel_rfl
theorem rd_m_hands_in {h w c m v0 v1 v2 v3 : V} : (stF h w c m (rdX v0 v1 v2 v3)).lookup ("hands_in" : Str) = none := by kernel_rfl
theorem rdX_ok {v0 v1 v2 v3 : V} : StX (rdX v0 v1 v2 v3) := ⟨by show 4 < 900; decide, by kernel_rfl, by kernel_rfl, by kernel_rfl, by kernel_rfl, by kernel_rfl, by kernel_rfl, by kernel_rfl, by kernel_rfl, by kernel_rfl⟩
theorem rd_p1 {h w c m u : V} : putF "era" u (stF h w c m []) = stF h w c m [("era", u)] := by kernel_rfl
theorem rd_p2 {h w c m v0 u : V} : putF "inside" u (stF h w c m [("era", v0)]) = stF h w c m [("era", v0), ("inside", u)] := by kernel_rfl
theorem rd_p3 {h w c m v0 v1 u : V} : putF "saw" u (stF h w c m [("era", v0), ("inside", v1)]) = stF h w c m [("era", v0), ("inside", v1), ("saw", u)] := by kernel_rfl
theorem rd_p4 {h w c m v0 v1 v2 u : V} : putF "waits" u (stF h w c m [("era", v0), ("inside", v1), ("saw", v2)]) = stF h w c m (rdX v0 v1 v2 u) := by kernel_rfl
local macro_rules | `(tactic| walk_at "fl") => `(tactic| first | assumption | exact stF_hands | exact stF_worth | exact stF_cells | exact stF_made | exact rd_era | exact rd_inside | exact rd_saw | exact rd_waits | exact rd_m_enter | exact rd_m_look_in | exact rd_m_leave | exact rd_m_look | exact rd_m_read | exact rd_m_go_on | exact rd_m_round_now | exact rd_m_hands_in | exact StX.f1 rdX_ok | exact StX.f2 rdX_ok | exact StX.f3 rdX_ok | exact StX.f4 rdX_ok | exact StX.f5 rdX_ok | exact StX.f6 rdX_ok | exact StX.f7 rdX_ok | exact StX.f8 rdX_ok | exact StX.f9 rdX_ok)
local macro_rules | `(tactic| walk_at "put") => `(tactic| first | exact rd_put_era | exact rd_put_inside | exact rd_put_saw | exact rd_put_waits)
local macro_rules | `(tactic| walk_at "fsl") => `(tactic| first | assumption | exact StX.fl rdX_ok)
/-! ### rounds -/
structure RndC (K : PySem.W.Frag) (C : Addr) : Prop where
  st : StoreC K C
  n1 : NoAttr K C "era"
  n2 : NoAttr K C "inside"
  n3 : NoAttr K C "saw"
  n4 : NoAttr K C "waits"
structure Rnd where
  sto : Sto
  era : Int
  ia : Addr
  sa : Addr
  wa : Addr
  inside : List (Int × Int)
  saw : List (Int × (Addr × List Int))
  waits : List (Int × Int)
def sawU (m : List (Int × (Addr × List Int))) : U := m.map fun q => (q.2.1, HO.lst (q.2.2.map V.int))
abbrev rdx (r : Rnd) : List (Str × V) := rdX (.int r.era) (.ref r.ia) (.ref r.sa) (.ref r.wa)
def sref (q : Addr × List Int) : V := .ref q.1
def rdU (r : Rnd) : U := (r.ia, dI (mv V.int r.inside)) :: (r.sa, dI (mv sref r.saw)) :: (r.wa, dI (mv V.int r.waits)) :: sawU r.saw
def rndU (C p : Addr) (r : Rnd) : U := stoU C p (rdx r) r.sto ++ rdU r
theorem rnd_two {H : Hp} {C p : Addr} {r : Rnd} {R : List U} : Has H (rndU C p r :: R) ↔ Has H (stoU C p (rdx r) r.sto :: rdU r :: R) := Has.op
theorem rnd_cells {H : Hp} {C p : Addr} {r : Rnd} {R : List U} (h : Has H (rndU C p r :: R)) :
    Has H ([(p, .ins C r.sto.dx (stF (.int r.sto.hands) (.ref r.sto.w) (.ref r.sto.c) (.int r.sto.vals.length) (rdx r)))] :: [(r.sto.w, dI (worthOf r.sto.vals r.sto.kept))] :: [(r.sto.c, .lst (r.sto.cells.map V.int))] ::
      [(r.ia, dI (mv V.int r.inside))] :: [(r.sa, dI (mv sref r.saw))] :: [(r.wa, dI (mv V.int r.waits))] :: sawU r.saw :: R) :=
  ((rnd_two.mp h).cut2.sub (Sub.p3 Sub.rf)).cut3.sub (Sub.p4 (Sub.p4 (Sub.p4 (Sub.p0 (Sub.p0 (Sub.p0 (Sub.p0 Sub.rf)))))))
theorem rnd_of {H : Hp} {C p : Addr} {r : Rnd} {R : List U} (h :
    Has H ([(p, .ins C r.sto.dx (stF (.int r.sto.hands) (.ref r.sto.w) (.ref r.sto.c) (.int r.sto.vals.length) (rdx r)))] :: [(r.sto.w, dI (worthOf r.sto.vals r.sto.kept))] :: [(r.sto.c, .lst (r.sto.cells.map V.int))] ::
      [(r.ia, dI (mv V.int r.inside))] :: [(r.sa, dI (mv sref r.saw))] :: [(r.wa, dI (mv V.int r.waits))] :: sawU r.saw :: R)) : Has H (rndU C p r :: R) :=
  rnd_two.mpr (Has.glue2 (((Has.glue3 (h.sub (Sub.p3 (Sub.p3 (Sub.p3 (Sub.p3 Sub.rf)))))).sub (Sub.p1 (Sub.p1 (Sub.p1 (Sub.p0 Sub.rf)))))))
structure Rnd.wf (r : Rnd) : Prop where
  ok : r.sto.ok
  keys : r.saw.map (·.1) = r.inside.map (·.1)
  nd : (r.inside.map (·.1)).Nodup
  hr : ∀ k ∈ r.inside.map (·.1), 0 ≤ k ∧ k < r.sto.hands
  h6 : r.sto.hands ≤ 6
  nw : (r.waits.map (·.1)).Nodup
  lw : r.waits.length ≤ r.sto.vals.length
  wk : ∀ k ∈ r.waits.map (·.1), k ∈ r.sto.kept ∧ k ∉ r.sto.cells
theorem nodup_len : ∀ {n : Nat} {l : List Int}, l.Nodup → (∀ k ∈ l, 0 ≤ k ∧ k < n) → l.length ≤ n
  | 0, [], _, _ => Nat.le_refl _
  | 0, a :: r, _, h => by have := h a (List.mem_cons.mpr (.inl rfl)); omega
  | n + 1, l, nd, h => by
    by_cases hm : (n : Int) ∈ l
    · have e := List.length_erase_of_mem hm
      have ih := nodup_len (n := n) (l := l.erase (n : Int)) (nd.erase _) fun k hk => by
        have h2 := nd.mem_erase_iff.mp hk
        have h3 := h k h2.2
        have h4 := h2.1
        omega
      have := List.length_pos_of_mem hm
      omega
    · have ih := nodup_len (n := n) (l := l) nd fun k hk => by
        have h3 := h k hk
        have h4 : k ≠ (n : Int) := fun e => hm (e ▸ hk)
        omega
      omega
theorem Rnd.wf.l1 {r : Rnd} (w : r.wf) : r.inside.length ≤ 6 := by
  have h6 := w.h6
  have := nodup_len (n := 6) w.nd fun k hk => by have := w.hr k hk; omega
  rw [List.length_map] at this
  exact this
theorem Rnd.wf.l2 {r : Rnd} (w : r.wf) : r.waits.length ≤ 1000 := Nat.le_trans w.lw w.ok.v9
theorem Rnd.wf.room {r : Rnd} (w : r.wf) {k : Int} (k0 : 0 ≤ k) (k1 : k < r.sto.hands) (h : fd r.inside k = none) : r.inside.length < 6 := by
  have h6 := w.h6
  have := nodup_len (n := 6) (l := k :: r.inside.map (·.1)) (List.nodup_cons.mpr ⟨fd_none.mp h, w.nd⟩) fun j hj => by
    rcases List.mem_cons.mp hj with e | hj
    · subst e; omega
    · have := w.hr j hj; omega
  rw [List.length_cons, List.length_map] at this
  omega
/-- making -/
def Rnd.new (s : Sto) (ia sa wa : Addr) : Rnd := ⟨s, 0, ia, sa, wa, [], [], []⟩
def sp_rinit (C : Addr) : Sp := fun vs H Q _ => ∃ (p dx : Addr) (h n : Int) (R : List U), vs = [.ref p, .int h, .int n] ∧ Has H ([(p, .ins C dx [])] :: R) ∧ 1 ≤ h ∧ h ≤ 6 ∧ 1 ≤ n ∧ n ≤ 5 ∧
  ∀ w c ia sa wa H', Has H' (rndU C p (Rnd.new (Sto.new dx w c h n) ia sa wa) :: R) → Q .non H'
section
local macro_rules | `(tactic| walk_at "put") => `(tactic| first | exact rd_p1 | exact rd_p2 | exact rd_p3 | exact rd_p4)
local macro_rules | `(tactic| walk_at "fsl") => `(tactic| first | assumption | (show 4 < 1000; decide) | (show 5 < 1000; decide) | (show 6 < 1000; decide) | (show 7 < 1000; decide))
theorem pure_rinit {K : PySem.W.Frag} {C CS : Addr} (hC : RndC K C) {vs : List V} {H : Hp} {Q : VK} {E : XK} (h : sp_rinit C vs H Q E) : t_Rounds_init K CS (sp_init C) ⟨fun _ H' => Q .non H', Q, fun _ _ => False, fun _ _ => False⟩ (start ["self", "hands", "cells"] vs) H := by
  obtain ⟨p, dx, h, n, R, rfl, hh, h1, h6, n1', n5, q⟩ := h
  obtain ⟨⟨cl, n1, n2, n3, n4⟩, m1, m2, m3, m4⟩ := hC
  unfold t_Rounds_init
  walk_at "go"
  refine ⟨p, dx, h, n, R, rfl, hh, h1, h6, n1', n5, fun w c H1 hh1 => ?_⟩
  replace hh1 := hh1.cut2
  walk_at "go"
  rename_i H2 h2 ia H3 h3 H4 h4 sa H5 h5 H6 h6 wa H7 h7 H8 h8
  refine q w c ia sa wa H8 (rnd_of (Has.sub (Has.nilU.mpr h8) ?_))
  show Sub ([(p, .ins C dx (stF (.int h) (.ref w) (.ref c) (.int (Sto.new dx w c h n).vals.length) (rdX (.int 0) (.ref ia) (.ref sa) (.ref wa))))] :: [(w, dI (worthOf (Sto.new dx w c h n).vals (rgI n)))] :: [(c, .lst ((rgI n).map V.int))] :: [(ia, dI [])] :: [(sa, dI [])] :: [(wa, dI [])] :: [] :: R) _
  walk_at "sub"
end
theorem Rnd.new_wf {dx w c ia sa wa : Addr} {h n : Int} (h6 : h ≤ 6) (h1 : 1 ≤ n) (h5 : n ≤ 5) : (Rnd.new (Sto.new dx w c h n) ia sa wa).wf :=
  ⟨Sto.new_ok h1 h5, rfl, List.nodup_nil, fun k hk => absurd hk List.not_mem_nil, h6, List.nodup_nil, Nat.zero_le _, fun k hk => absurd hk List.not_mem_nil⟩
def sp_rlook_in (C : Addr) : Sp := fun vs H Q _ => ∃ (p : Addr) (r : Rnd) (k : Int) (R : List U), vs = [.ref p, .int k] ∧ Has H (rndU C p r :: R) ∧ 0 ≤ k ∧ k < r.sto.hands ∧ (fd r.inside k).isSome = true ∧ Q .non H
theorem pure_rlook_in {K : PySem.W.Frag} {C : Addr} (hC : RndC K C) {vs : List V} {H : Hp} {Q : VK} {E : XK} (h : sp_rlook_in C vs H Q E) : t_Rounds_look_in K C (sp_look_hand C) ⟨fun _ H' => Q .non H', Q, fun _ _ => False, fun _ _ => False⟩ (start ["self", "hand"] vs) H := by
  obtain ⟨p, r, k, R, rfl, hh, k0, k1, hi, q⟩ := h
  obtain ⟨⟨cl, n1, n2, n3, n4⟩, m1, m2, m3, m4⟩ := hC
  have h2 := rnd_two.mp hh
  have h3 := rnd_cells hh
  unfold t_Rounds_look_in
  walk_at "go"
  refine ⟨p, _, r.sto, k, _, rfl, h2, rdX_ok, k0, k1, ?_⟩
  walk_at "go"
  rw [mv_isSome, hi]
  walk_at "go"
  exact q
def sp_enter (C : Addr) : Sp := fun vs H Q _ => ∃ (p : Addr) (r : Rnd) (k : Int) (R : List U), vs = [.ref p, .int k] ∧ Has H (rndU C p r :: R) ∧ r.wf ∧ 0 ≤ k ∧ k < r.sto.hands ∧ fd r.inside k = none ∧ r.inside.length < 6 ∧
  ∀ l H', Has H' (rndU C p { r with inside := r.inside ++ [(k, r.era)], saw := r.saw ++ [(k, (l, []))] } :: R) → Q (.int r.era) H'
theorem Rnd.wf.slen {r : Rnd} (w : r.wf) : r.saw.length ≤ 6 := by
  have := congrArg List.length w.keys
  rw [List.length_map, List.length_map] at this
  have := w.l1
  omega
theorem pure_enter {K : PySem.W.Frag} {C : Addr} (hC : RndC K C) {vs : List V} {H : Hp} {Q : VK} {E : XK} (h : sp_enter C vs H Q E) : t_Rounds_enter K C (sp_look_hand C) ⟨fun _ H' => Q .non H', Q, fun _ _ => False, fun _ _ => False⟩ (start ["self", "hand"] vs) H := by
  obtain ⟨p, r, k, R, rfl, hh, w, k0, k1, hi, hl, q⟩ := h
  obtain ⟨⟨cl, n1, n2, n3, n4⟩, m1, m2, m3, m4⟩ := hC
  have h2 := rnd_two.mp hh
  have h3 := rnd_cells hh
  have sl := w.slen
  have e1 : (mv V.int r.inside).length < sizeLine := by rw [mv_len, sizeLine_eq]; omega
  have e2 : (mv sref r.saw).length < sizeLine := by rw [mv_len, sizeLine_eq]; omega
  have hs : fd r.saw k = none := by
    have := fd_none.mp hi
    exact fd_none.mpr (by rw [w.keys]; exact this)
  unfold t_Rounds_enter
  walk_at "go"
  refine ⟨p, _, r.sto, k, _, rfl, h2, rdX_ok, k0, k1, ?_⟩
  clear h2 hh
  walk_at "go"
  have hi' : (fd r.inside k).isSome = false := by rw [hi]; rfl
  rw [mv_isSome, hi']
  walk_at "go"
  rename_i H1 g1 l H2 g2 H3 g3
  refine q l H3 (rnd_of ?_)
  have e4 : putK (mv V.int r.inside) k (.int r.era) = mv V.int (r.inside ++ [(k, r.era)]) := by rw [mv_put, pu_new _ hi]
  have e5 : putK (mv sref r.saw) k (.ref l) = mv sref (r.saw ++ [(k, (l, []))]) := by rw [show V.ref l = sref (l, []) from rfl, mv_put, pu_new _ hs]
  rw [e4, e5] at g3
  have e6 : sawU (r.saw ++ [(k, (l, []))]) = sawU r.saw ++ [(l, .lst [])] := by unfold sawU; rw [List.map_append]; rfl
  show Has H3 ([(p, .ins C r.sto.dx (stF (.int r.sto.hands) (.ref r.sto.w) (.ref r.sto.c) (.int r.sto.vals.length) (rdx r)))] :: [(r.sto.w, dI (worthOf r.sto.vals r.sto.kept))] :: [(r.sto.c, .lst (r.sto.cells.map V.int))] ::
      [(r.ia, dI (mv V.int (r.inside ++ [(k, r.era)])))] :: [(r.sa, dI (mv sref (r.saw ++ [(k, (l, []))])))] :: [(r.wa, dI (mv V.int r.waits))] :: sawU (r.saw ++ [(k, (l, []))]) :: R)
  rw [e6]
  exact (Has.op.mpr (g3.sub (show Sub (sawU r.saw :: [(l, .lst [])] :: _) _ from Sub.p7 (Sub.p0 Sub.rf)))).sub (Sub.p1 (Sub.p1 (Sub.p1 (Sub.p1 (Sub.p1 (Sub.p1 (Sub.p0 Sub.rf)))))))
theorem Has.lessU {H : Hp} {A B : U} {L : List U} (h : Has H (A :: L)) (s : B.Sublist A) : Has H (B :: L) := by
  obtain ⟨n, a⟩ := h
  have sl : (B :: L).flatten.Sublist (A :: L).flatten := by
    show (B ++ L.flatten).Sublist (A ++ L.flatten)
    exact s.append_right _
  exact ⟨(sl.map _).nodup n, fun p hp => a p (sl.subset hp)⟩
def sp_leave (C : Addr) : Sp := fun vs H Q _ => ∃ (p : Addr) (r : Rnd) (k : Int) (R : List U), vs = [.ref p, .int k] ∧ Has H (rndU C p r :: R) ∧ r.wf ∧ 0 ≤ k ∧ k < r.sto.hands ∧ (fd r.inside k).isSome = true ∧
  ∀ H', Has H' (rndU C p { r with inside := rm r.inside k, saw := rm r.saw k } :: R) → Q .non H'
theorem pure_leave {K : PySem.W.Frag} {C : Addr} (hC : RndC K C) {vs : List V} {H : Hp} {Q : VK} {E : XK} (h : sp_leave C vs H Q E) : t_Rounds_leave K C (sp_rlook_in C) ⟨fun _ H' => Q .non H', Q, fun _ _ => False, fun _ _ => False⟩ (start ["self", "hand"] vs) H := by
  obtain ⟨p, r, k, R, rfl, hh, w, k0, k1, hi, q⟩ := h
  obtain ⟨⟨cl, n1, n2, n3, n4⟩, m1, m2, m3, m4⟩ := hC
  have h3 := rnd_cells hh
  obtain ⟨e, he⟩ := Option.isSome_iff_exists.mp hi
  have hs : (fd r.saw k).isSome = true := by
    have := fd_isSome.mp hi
    exact fd_isSome.mpr (by rw [w.keys]; exact this)
  obtain ⟨b, hb⟩ := Option.isSome_iff_exists.mp hs
  have v1 : valV (mv V.int r.inside) k = some (.int e) := mv_some he
  have v2 : valV (mv sref r.saw) k = some (sref b) := mv_some hb
  unfold t_Rounds_leave
  walk_at "go"
  refine ⟨p, r, k, R, rfl, hh, k0, k1, hi, ?_⟩
  walk_at "go"
  rename_i H1 g1 H2 g2
  refine q H2 (rnd_of ?_)
  rw [mv_drop, mv_drop] at g2
  have g3 := Has.lessU (g2.sub (Sub.p6 Sub.rf)) (show (sawU (rm r.saw k)).Sublist (sawU r.saw) from (rm_sub r.saw k).map _)
  exact g3.sub (Sub.p1 (Sub.p1 (Sub.p1 (Sub.p1 (Sub.p1 (Sub.p1 (Sub.p0 Sub.rf)))))))
/-- one list of the family at hand -/
theorem saw_split {m : List (Int × (Addr × List Int))} {k : Int} {l : Addr} {xs : List Int} (h : fd m k = some (l, xs)) : ∃ A B, m = A ++ (k, (l, xs)) :: B ∧ k ∉ A.map (·.1) ∧ sawU m = sawU A ++ (l, .lst (xs.map V.int)) :: sawU B := by
  obtain ⟨A, B, rfl, hk⟩ := fd_split h
  exact ⟨A, B, rfl, hk, by unfold sawU; rw [List.map_append, List.map_cons]⟩
theorem Has.at3 {H : Hp} {A B : U} {c : Addr × HO} {L : List U} : Has H ((A ++ c :: B) :: L) ↔ Has H ([c] :: A :: B :: L) := by
  constructor
  · intro h
    exact (Has.cut ((Has.op.mp h).sub (Sub.p1 Sub.rf))).sub (Sub.p0 (Sub.p1 (Sub.p0 Sub.rf)))
  · intro h
    exact Has.op.mpr ((Has.glue (h.sub (Sub.p0 (Sub.p1 Sub.rf)))).sub (Sub.p1 (Sub.p0 Sub.rf)))
def sawAdd (m : List (Int × (Addr × List Int))) (k x : Int) : List (Int × (Addr × List Int)) := m.map fun q => if q.1 = k then (q.1, (q.2.1, q.2.2 ++ [x])) else q
theorem sawAdd_split {A B : List (Int × (Addr × List Int))} {k x : Int} {l : Addr} {xs : List Int} (nd : ((A ++ (k, (l, xs)) :: B).map (·.1)).Nodup) : sawAdd (A ++ (k, (l, xs)) :: B) k x = A ++ (k, (l, xs ++ [x])) :: B := by
  rw [List.map_append, List.map_cons, List.nodup_append] at nd
  obtain ⟨_, n2, n3⟩ := nd
  have n4 := (List.nodup_cons.mp n2).1
  unfold sawAdd
  rw [List.map_append, List.map_cons]
  have eA : A.map (fun q => if q.1 = k then (q.1, (q.2.1, q.2.2 ++ [x])) else q) = A := (List.map_congr_left (g := id) fun q hq => if_neg (n3 q.1 (List.mem_map.mpr ⟨q, hq, rfl⟩) k (List.mem_cons.mpr (.inl rfl)))).trans (List.map_id A)
  have eB : B.map (fun q => if q.1 = k then (q.1, (q.2.1, q.2.2 ++ [x])) else q) = B := (List.map_congr_left (g := id) fun q hq => if_neg fun e => n4 (List.mem_map.mpr ⟨q, hq, e⟩)).trans (List.map_id B)
  rw [eA, eB, if_pos rfl]
theorem sawAdd_keys (m : List (Int × (Addr × List Int))) (k x : Int) : (sawAdd m k x).map (·.1) = m.map (·.1) := by
  unfold sawAdd
  rw [List.map_map]
  refine List.map_congr_left fun q _ => ?_
  show (if q.1 = k then (q.1, (q.2.1, q.2.2 ++ [x])) else q).1 = q.1
  split <;> rfl
theorem sawAdd_refs (m : List (Int × (Addr × List Int))) (k x : Int) : mv sref (sawAdd m k x) = mv sref m := by
  unfold mv sawAdd
  rw [List.map_map]
  refine List.map_congr_left fun q _ => ?_
  show ((if q.1 = k then (q.1, (q.2.1, q.2.2 ++ [x])) else q).1, sref (if q.1 = k then (q.1, (q.2.1, q.2.2 ++ [x])) else q).2) = (q.1, sref q.2)
  split <;> rfl
theorem sawAdd_fd (m : List (Int × (Addr × List Int))) (k x j : Int) : fd (sawAdd m k x) j = (fd m j).map fun b => if j = k then (b.1, b.2 ++ [x]) else b := by
  induction m with
  | nil => rfl
  | cons p r ih =>
    show fd ((if p.1 = k then (p.1, (p.2.1, p.2.2 ++ [x])) else p) :: sawAdd r k x) j = _
    by_cases e : p.1 = k
    · rw [if_pos e]
      by_cases ej : p.1 = j
      · rw [fd_pos (p := (p.1, (p.2.1, p.2.2 ++ [x]))) ej, fd_pos ej, Option.map_some, if_pos (ej.symm.trans e)]
      · rw [fd_neg (p := (p.1, (p.2.1, p.2.2 ++ [x]))) ej, fd_neg ej, ih]
    · rw [if_neg e]
      by_cases ej : p.1 = j
      · rw [fd_pos ej, fd_pos ej, Option.map_some, if_neg (fun z => e (ej.trans z))]
      · rw [fd_neg ej, fd_neg ej, ih]
def sp_look (C : Addr) : Sp := fun vs H Q _ => ∃ (p : Addr) (r : Rnd) (k c : Int) (R : List U), vs = [.ref p, .int k, .int c] ∧ Has H (rndU C p r :: R) ∧ r.wf ∧ 0 ≤ k ∧ k < r.sto.hands ∧ (fd r.inside k).isSome = true ∧ 0 ≤ c ∧ c < r.sto.cells.length ∧ (∀ q ∈ r.saw, q.2.2.length ≤ 1000) ∧
  ∀ H', Has H' (rndU C p { r with saw := sawAdd r.saw k (r.sto.cells.getD c.toNat 0) } :: R) → Q (.int (r.sto.cells.getD c.toNat 0)) H'
theorem pure_look {K : PySem.W.Frag} {C : Addr} (hC : RndC K C) {vs : List V} {H : Hp} {Q : VK} {E : XK} (h : sp_look C vs H Q E) : t_Rounds_look K C (sp_rlook_in C) (sp_look_cell C) ⟨fun _ H' => Q .non H', Q, fun _ _ => False, fun _ _ => False⟩ (start ["self", "hand", "cell"] vs) H := by
  obtain ⟨p, r, k, c, R, rfl, hh, w, k0, k1, hi, c0, c1, hls, q⟩ := h
  obtain ⟨⟨cl, n1, n2, n3, n4⟩, m1, m2, m3, m4⟩ := hC
  have h2 := rnd_two.mp hh
  have h3 := rnd_cells hh
  have hs : (fd r.saw k).isSome = true := by
    have := fd_isSome.mp hi
    exact fd_isSome.mpr (by rw [w.keys]; exact this)
  obtain ⟨⟨l, xs⟩, hb⟩ := Option.isSome_iff_exists.mp hs
  have v2 : valV (mv sref r.saw) k = some (.ref l) := mv_some hb
  obtain ⟨A, B, em, hkA, eU⟩ := saw_split hb
  have hl := hls _ (fd_mem hb)
  have hl : xs.length ≤ 1000 := hl
  rw [eU] at h3
  have h4 := Has.at3.mp (h3.sub (Sub.p6 Sub.rf))
  have ea := at_ints c0 c1
  have sz : (xs.map V.int).length < sizeLine := by rw [List.length_map, sizeLine_eq]; omega
  unfold t_Rounds_look
  walk_at "go"
  refine ⟨p, r, k, R, rfl, hh, k0, k1, hi, ?_⟩
  walk_at "go"
  refine ⟨p, _, r.sto, c, _, rfl, h2, rdX_ok, c0, c1, ?_⟩
  walk_at "go"
  rename_i H1 g1
  refine q H1 (rnd_of ?_)
  have nd : ((A ++ (k, (l, xs)) :: B).map (·.1)).Nodup := by rw [← em, w.keys]; exact w.nd
  have eS : sawU (sawAdd r.saw k (r.sto.cells.getD c.toNat 0)) = sawU A ++ (l, .lst ((xs ++ [r.sto.cells.getD c.toNat 0]).map V.int)) :: sawU B := by
    rw [em, sawAdd_split nd]
    unfold sawU
    rw [List.map_append, List.map_cons]
  show Has H1 ([(p, .ins C r.sto.dx (stF (.int r.sto.hands) (.ref r.sto.w) (.ref r.sto.c) (.int r.sto.vals.length) (rdx r)))] :: [(r.sto.w, dI (worthOf r.sto.vals r.sto.kept))] :: [(r.sto.c, .lst (r.sto.cells.map V.int))] ::
      [(r.ia, dI (mv V.int r.inside))] :: [(r.sa, dI (mv sref (sawAdd r.saw k (r.sto.cells.getD c.toNat 0))))] :: [(r.wa, dI (mv V.int r.waits))] :: sawU (sawAdd r.saw k (r.sto.cells.getD c.toNat 0)) :: R)
  rw [sawAdd_refs, eS, List.map_append]
  exact (Has.at3.mpr g1).sub (Sub.p1 (Sub.p1 (Sub.p1 (Sub.p1 (Sub.p1 (Sub.p1 (Sub.p0 Sub.rf)))))))
def sp_rread (C : Addr) : Sp := fun vs H Q _ => ∃ (p : Addr) (r : Rnd) (k z : Int) (l : Addr) (xs : List Int) (R : List U), vs = [.ref p, .int k, .int z] ∧ Has H (rndU C p r :: R) ∧ 0 ≤ k ∧ k < r.sto.hands ∧ (fd r.inside k).isSome = true ∧ fd r.saw k = some (l, xs) ∧ z ∈ xs ∧ z ∈ r.sto.kept ∧
  Q (.int (r.sto.vals.getD z.toNat 0)) H
theorem pure_rread {K : PySem.W.Frag} {C : Addr} (hC : RndC K C) {vs : List V} {H : Hp} {Q : VK} {E : XK} (h : sp_rread C vs H Q E) : t_Rounds_read K C (sp_rlook_in C) (sp_value_of C) ⟨fun _ H' => Q .non H', Q, fun _ _ => False, fun _ _ => False⟩ (start ["self", "hand", "thing"] vs) H := by
  obtain ⟨p, r, k, z, l, xs, R, rfl, hh, k0, k1, hi, hb, hz, hk, q⟩ := h
  obtain ⟨⟨cl, n1, n2, n3, n4⟩, m1, m2, m3, m4⟩ := hC
  have h2 := rnd_two.mp hh
  have h3 := rnd_cells hh
  have v2 : valV (mv sref r.saw) k = some (.ref l) := mv_some hb
  obtain ⟨A, B, em, hkA, eU⟩ := saw_split hb
  rw [eU] at h3
  have h4 := Has.at3.mp (h3.sub (Sub.p6 Sub.rf))
  unfold t_Rounds_read
  walk_at "go"
  refine ⟨p, r, k, R, rfl, hh, k0, k1, hi, ?_⟩
  walk_at "go"
  rw [decide_eq_true hz]
  walk_at "go"
  exact ⟨p, _, r.sto, z, _, rfl, h2, rdX_ok, hk, q⟩
/-- a thing put out waits -/
def sp_rafter (C : Addr) : Sp := fun vs H Q _ => ∃ (p : Addr) (r : Rnd) (z : Int) (R : List U), vs = [.ref p, .int z] ∧ Has H (rndU C p r :: R) ∧ r.waits.length ≤ 1000 ∧
  ∀ H', Has H' (rndU C p { r with waits := pu r.waits z r.era } :: R) → Q .non H'
theorem pure_rafter {K : PySem.W.Frag} {C : Addr} (hC : RndC K C) {vs : List V} {H : Hp} {Q : VK} {E : XK} (h : sp_rafter C vs H Q E) : t_Rounds_after_swap K ⟨fun _ H' => Q .non H', Q, fun _ _ => False, fun _ _ => False⟩ (start ["self", "thing"] vs) H := by
  obtain ⟨p, r, z, R, rfl, hh, hl, q⟩ := h
  obtain ⟨⟨cl, n1, n2, n3, n4⟩, m1, m2, m3, m4⟩ := hC
  have h3 := rnd_cells hh
  have e1 : (mv V.int r.waits).length < sizeLine := by rw [mv_len, sizeLine_eq]; omega
  unfold t_Rounds_after_swap
  walk_at "go"
  rename_i H1 g1
  rw [mv_put] at g1
  exact q H1 (rnd_of g1)

/-- rounds go on -/
def Rnd.free (r : Rnd) : Prop := ∀ q ∈ r.inside, q.2 = r.era
def Rnd.gone (r : Rnd) : List Int := (r.waits.map (·.1)).filter fun k => decide ((fd r.waits k).getD 0 ≤ r.era + 1 - 2)
def Rnd.next (r : Rnd) : Rnd := { r with era := r.era + 1, sto := r.sto.less r.gone, waits := rms r.waits r.gone }
def sp_go_on (C : Addr) : Sp := fun vs H Q _ => ∃ (p : Addr) (r : Rnd) (R : List U), vs = [.ref p] ∧ Has H (rndU C p r :: R) ∧ r.wf ∧
  (¬ r.free → ∀ H', Has H' (rndU C p r :: R) → Q .non H') ∧
  (r.free → ∀ (ys : List Int) (d : Addr) H', ys.Perm r.gone → ys.Pairwise (· ≤ ·) → Has H' ([(d, .lst (ys.map V.int))] :: rndU C p r.next :: R) → Q (.ref d) H')
theorem pure_go_on {K : PySem.W.Frag} {C : Addr} (hC : RndC K C) {vs : List V} {H : Hp} {Q : VK} {E : XK} (h : sp_go_on C vs H Q E) : t_Rounds_go_on K C (sp_let_go C) ⟨fun _ H' => Q .non H', Q, fun _ _ => False, fun _ _ => False⟩ (start ["self", "hand", "found", "thing"] vs) H := by
  obtain ⟨p, r, R, rfl, hh, w, q1, q2⟩ := h
  have hC' := hC.st
  obtain ⟨⟨cl, n1, n2, n3, n4⟩, m1, m2, m3, m4⟩ := hC
  have h3 := rnd_cells hh
  have l1 := w.l1
  have l2 := w.l2
  have hin : ∀ z ∈ (mv V.int r.inside).map (·.1), valV (mv V.int r.inside) z = some (.int ((fd r.inside z).getD 0)) := fun z hz => by
    rw [mv_keys] at hz
    obtain ⟨e, he⟩ := Option.isSome_iff_exists.mp (fd_isSome.mpr hz)
    rw [mv_some he, he]
    rfl
  unfold t_Rounds_go_on
  walk_at "go"
  refine x_lcD (d := r.ia) (L := _) (fun z => .bl (decide ((fd r.inside z).getD 0 = r.era))) (fun _ => true) (h3.sub (Sub.p3 Sub.rf)) (by rw [mv_len]; omega) (fun o H' Q' h' q' => ?_) (fun o z hz D M H' Q' h' q' => q' H' h') (fun o z hz _ D M H' Q' h' q' => ?_) fun D H1 h1 => ?_
  · walk_at "go"
    exact q'
  · have hv := hin z hz
    walk_at "go"
    exact q' H' h'
  have eb : ((mv V.int r.inside).map (·.1)).filter (fun _ => true) = r.inside.map (·.1) := by rw [filt_true, mv_keys]
  have eb2 : (r.inside.map (·.1)).map (fun z => V.bl (decide ((fd r.inside z).getD 0 = r.era))) = ((r.inside.map (·.1)).map fun z => decide ((fd r.inside z).getD 0 = r.era)).map V.bl := by rw [List.map_map (g := V.bl)]; rfl
  rw [eb, eb2] at h1
  walk_at "go"
  have ef : (((r.inside.map (·.1)).map fun z => decide ((fd r.inside z).getD 0 = r.era)).all id = true) ↔ r.free := by
    rw [List.all_map, List.all_map, List.all_eq_true]
    constructor
    · intro hA q hq
      have h4 : decide ((fd r.inside q.1).getD 0 = r.era) = true := hA q hq
      rw [fd_of w.nd (show (q.1, q.2) ∈ r.inside from hq)] at h4
      simpa using h4
    · intro hA q hq
      show decide ((fd r.inside q.1).getD 0 = r.era) = true
      rw [fd_of w.nd (show (q.1, q.2) ∈ r.inside from hq)]
      simpa using hA q hq
  refine ifB (fun hb => ?_) (fun hb => ?_)
  · have hnf : ¬ r.free := fun z => by rw [ef.mpr z] at hb; cases hb
    walk_at "go"
    exact q1 hnf H1 (rnd_of (h1.sub (Sub.p2 (Sub.p2 (Sub.p2 (Sub.p1 (Sub.p1 (Sub.p1 (Sub.p1 (Sub.skip Sub.rf))))))))))
  · have hf : r.free := ef.mp (by simpa using hb)
    walk_at "go"
    rename_i H2 h2
    have hwt : ∀ z ∈ (mv V.int r.waits).map (·.1), valV (mv V.int r.waits) z = some (.int ((fd r.waits z).getD 0)) := fun z hz => by
      rw [mv_keys] at hz
      obtain ⟨e, he⟩ := Option.isSome_iff_exists.mp (fd_isSome.mpr hz)
      rw [mv_some he, he]
      rfl
    refine x_asgD (d := r.wa) (fun z => .int z) (fun z => decide ((fd r.waits z).getD 0 ≤ r.era + 1 - 2)) (h2.sub (show Sub ([(r.wa, dI (mv V.int r.waits))] :: _) _ by walk_at "sub")) (by rw [mv_len]; omega) (fun o H' Q' h' q' => ?_) (fun o z hz D M H' Q' h' q' => ?_) (fun o z hz _ D M H' Q' h' q' => ?_) fun f H4 h4 => ?_
    · walk_at "go"
      exact q'
    · have hv := hwt z hz
      walk_at "go"
      exact q' H' h'
    · walk_at "go"
      exact q' H' h'
    · rw [mv_keys] at h4
      have eg : (r.waits.map (·.1)).filter (fun z => decide ((fd r.waits z).getD 0 ≤ r.era + 1 - 2)) = r.gone := rfl
      rw [eg] at h4
      have hgn : r.gone.Nodup := (List.filter_sublist).nodup w.nw
      have hgm : ∀ k ∈ r.gone, k ∈ r.waits.map (·.1) := fun k hk => (List.mem_filter.mp hk).1
      walk_at "go"
      refine k_forL (fun i σ H' => ∃ v : Option V, σ = [some (.ref p), none, some (.ref f), v] ∧ Has H' ([(r.wa, dI (mv V.int (rms r.waits (r.gone.take i))))] :: [(f, .lst (r.gone.map V.int))] :: [(p, .ins C r.sto.dx (stF (.int r.sto.hands) (.ref r.sto.w) (.ref r.sto.c) (.int r.sto.vals.length) (rdX (.int (r.era + 1)) (.ref r.ia) (.ref r.sa) (.ref r.wa))))] :: [(r.sto.w, dI (worthOf r.sto.vals r.sto.kept))] :: [(r.sto.c, .lst (r.sto.cells.map V.int))] :: [(r.ia, dI (mv V.int r.inside))] :: [(r.sa, dI (mv sref r.saw))] :: sawU r.saw :: R)) (by walk_at "hp") ⟨none, rfl, ?_⟩ ?_ ?_ ?_
      · rw [List.take_zero, rms_nil]
        walk_at "has"
      · rintro i σ H' ⟨v, rfl, h'⟩
        walk_at "hp"
      · rintro i y σ H' hi ⟨v, rfl, h'⟩
        rw [List.getElem?_map] at hi
        obtain ⟨k, hk1, rfl⟩ := Option.map_eq_some_iff.mp hi
        have hm : k ∈ r.gone := List.mem_of_getElem? hk1
        have et : r.gone.take (i + 1) = r.gone.take i ++ [k] := by rw [List.take_add_one, hk1]; rfl
        have hnt : k ∉ r.gone.take i := fun z => by
          have h2 : (r.gone.take i ++ [k]).Nodup := et ▸ ((List.take_sublist (i + 1) r.gone).nodup hgn)
          rw [List.nodup_append] at h2
          exact h2.2.2 k z k (List.mem_singleton.mpr rfl) rfl
        have hs : (fd (rms r.waits (r.gone.take i)) k).isSome = true := by
          rw [fd_isSome]
          obtain ⟨qq, hq, e⟩ := List.mem_map.mp (hgm k hm)
          exact List.mem_map.mpr ⟨qq, List.mem_filter.mpr ⟨hq, by rw [e]; simpa using hnt⟩, e⟩
        obtain ⟨b, hb2⟩ := Option.isSome_iff_exists.mp hs
        have hv : valV (mv V.int (rms r.waits (r.gone.take i))) k = some (.int b) := mv_some hb2
        walk_at "go"
        rename_i H5 h5
        refine ⟨_, rfl, ?_⟩
        rw [mv_drop, rms_snoc, ← et] at h5
        exact h5
      · rintro σ H' ⟨v, rfl, h'⟩
        have e : r.gone.take (r.gone.map V.int).length = r.gone := List.take_of_length_le (by rw [List.length_map]; exact Nat.le_refl _)
        rw [e] at h'
        walk_at "go"
        refine ⟨p, f, rdX (.int (r.era + 1)) (.ref r.ia) (.ref r.sa) (.ref r.wa), r.sto, r.gone, [(r.wa, dI (mv V.int (rms r.waits r.gone)))] :: [(r.ia, dI (mv V.int r.inside))] :: [(r.sa, dI (mv sref r.saw))] :: sawU r.saw :: R, rfl, ?_, rdX_ok, hgn, fun k hk => (w.wk k (hgm k hk)).1, fun ys d H6 p1 p2 h6 => ?_⟩
        · refine Has.glue2 ?_
          walk_at "has"
        · refine q2 hf ys d H6 p1 p2 ?_
          have h7 := (h6.sub (Sub.p1 Sub.rf)).cut2
          exact (rnd_of (r := r.next) (h7.sub (show Sub ([(p, _)] :: [(r.sto.w, _)] :: [(r.sto.c, _)] :: [(r.ia, _)] :: [(r.sa, _)] :: [(r.wa, _)] :: sawU r.saw :: [(d, .lst (ys.map V.int))] :: R) _ by walk_at "sub"))).sub (Sub.p1 (Sub.p0 Sub.rf))

/-! what the deeds do to a store by rounds, in numbers -/
def Rnd.enter (r : Rnd) (k : Int) (l : Addr) : Rnd := { r with inside := r.inside ++ [(k, r.era)], saw := r.saw ++ [(k, (l, []))] }
def Rnd.leave (r : Rnd) (k : Int) : Rnd := { r with inside := rm r.inside k, saw := rm r.saw k }
def Rnd.look (r : Rnd) (k c : Int) : Rnd := { r with saw := sawAdd r.saw k (r.sto.cells.getD c.toNat 0) }
def Rnd.swap (r : Rnd) (i v : Int) : Rnd := { r with sto := r.sto.swap i v, waits := pu r.waits (r.sto.cells.getD i.toNat 0) r.era }
theorem rm_keys {β : Type} (m : List (Int × β)) (k : Int) : (rm m k).map (·.1) = (m.map (·.1)).filter fun z => decide (z ≠ k) := by
  unfold rm
  rw [List.filter_map]
  rfl
theorem pu_len {β : Type} (m : List (Int × β)) (k : Int) (b : β) : (pu m k b).length ≤ m.length + 1 := by
  unfold pu
  split
  · rw [List.length_map]; omega
  · rw [List.length_append]; exact Nat.le_refl _
theorem pu_key {β : Type} {m : List (Int × β)} {k j : Int} {b : β} (h : j ∈ (pu m k b).map (·.1)) : j ∈ m.map (·.1) ∨ j = k := by
  unfold pu at h
  split at h
  · rw [List.map_map] at h
    obtain ⟨q, hq, e⟩ := List.mem_map.mp h
    refine .inl (List.mem_map.mpr ⟨q, hq, ?_⟩)
    rw [← e]
    show q.1 = (if q.1 = k then (q.1, b) else q).1
    split <;> rfl
  · rw [List.map_append] at h
    rcases List.mem_append.mp h with q | q
    · exact .inl q
    · exact .inr (List.mem_singleton.mp q)
theorem pu_nodup {β : Type} {m : List (Int × β)} {k : Int} (b : β) (h : (m.map (·.1)).Nodup) : ((pu m k b).map (·.1)).Nodup := by
  by_cases e : (fd m k).isSome = true
  · rw [pu_keys_old b e]; exact h
  · have hn : fd m k = none := by cases e2 : fd m k with
      | none => rfl
      | some v => rw [e2] at e; exact absurd rfl e
    rw [pu_new b hn, List.map_append]
    exact nd_snoc h (fd_none.mp hn)
theorem Rnd.wf.enter {r : Rnd} (w : r.wf) {k : Int} {l : Addr} (k0 : 0 ≤ k) (k1 : k < r.sto.hands) (h : fd r.inside k = none) : (r.enter k l).wf where
  ok := w.ok
  keys := by show (r.saw ++ [_]).map _ = (r.inside ++ [_]).map _; rw [List.map_append, List.map_append, w.keys]; rfl
  nd := by show ((r.inside ++ [_]).map _).Nodup; rw [List.map_append]; exact nd_snoc w.nd (fd_none.mp h)
  hr := fun j hj => by
    have hj : j ∈ (r.inside ++ [(k, r.era)]).map (·.1) := hj
    rw [List.map_append] at hj
    rcases List.mem_append.mp hj with q | q
    · exact w.hr j q
    · rw [List.mem_singleton.mp q]; exact ⟨k0, k1⟩
  h6 := w.h6
  nw := w.nw
  lw := w.lw
  wk := w.wk
theorem Rnd.wf.leave {r : Rnd} (w : r.wf) (k : Int) : (r.leave k).wf where
  ok := w.ok
  keys := by show (rm r.saw k).map _ = (rm r.inside k).map _; rw [rm_keys, rm_keys, w.keys]
  nd := rm_nodup w.nd
  hr := fun j hj => w.hr j (by
    have hj : j ∈ (rm r.inside k).map (·.1) := hj
    rw [rm_keys] at hj
    exact (List.mem_filter.mp hj).1)
  h6 := w.h6
  nw := w.nw
  lw := w.lw
  wk := w.wk
theorem Rnd.wf.look {r : Rnd} (w : r.wf) (k c : Int) : (r.look k c).wf where
  ok := w.ok
  keys := by show (sawAdd _ _ _).map _ = _; rw [sawAdd_keys]; exact w.keys
  nd := w.nd
  hr := w.hr
  h6 := w.h6
  nw := w.nw
  lw := w.lw
  wk := w.wk
theorem Rnd.wf.swap {r : Rnd} (w : r.wf) {i v : Int} (i0 : 0 ≤ i) (i1 : i < r.sto.cells.length) (hv : r.sto.vals.length < 1000) : (r.swap i v).wf where
  ok := w.ok.swap i0 i1 hv
  keys := w.keys
  nd := w.nd
  hr := w.hr
  h6 := w.h6
  nw := pu_nodup _ w.nw
  lw := by
    have h1 := pu_len r.waits (r.sto.cells.getD i.toNat 0) r.era
    have h2 := w.lw
    show (pu _ _ _).length ≤ (r.sto.vals ++ [v]).length
    rw [List.length_append]
    show _ ≤ r.sto.vals.length + 1
    omega
  wk := fun j hj => by
    have hnew : (r.sto.vals.length : Int) ∉ r.sto.kept := fun hk => by
      obtain ⟨_, h1⟩ := w.ok.made _ hk
      omega
    have hnc : (r.sto.vals.length : Int) ∉ r.sto.cells := fun hk => hnew (w.ok.here _ hk)
    show j ∈ r.sto.kept ++ [_] ∧ j ∉ r.sto.cells.set _ _
    rcases pu_key hj with q | q
    · obtain ⟨h1, h2⟩ := w.wk j q
      refine ⟨List.mem_append.mpr (.inl h1), fun z => ?_⟩
      rcases List.mem_or_eq_of_mem_set z with e | e
      · exact h2 e
      · exact hnew (e ▸ h1)
    · have hlt : i.toNat < r.sto.cells.length := by omega
      rw [q]
      exact ⟨List.mem_append.mpr (.inl (w.ok.here _ (getD_mem hlt))), set_old w.ok.cnd hnc hlt⟩
theorem Rnd.wf.next {r : Rnd} (w : r.wf) : r.next.wf where
  ok := w.ok.less fun k hk => (w.wk k ((List.mem_filter.mp hk).1)).2
  keys := w.keys
  nd := w.nd
  hr := w.hr
  h6 := w.h6
  nw := (List.Sublist.map _ (List.filter_sublist (l := r.waits))).nodup w.nw
  lw := Nat.le_trans (List.length_filter_le _ _) w.lw
  wk := fun j hj => by
    have hj : j ∈ (rms r.waits r.gone).map (·.1) := hj
    obtain ⟨q, hq, e⟩ := List.mem_map.mp hj
    obtain ⟨h1, h2⟩ := List.mem_filter.mp hq
    obtain ⟨h3, h4⟩ := w.wk j (e ▸ List.mem_map.mpr ⟨q, h1, rfl⟩)
    exact ⟨List.mem_filter.mpr ⟨h3, by rw [e] at h2; exact h2⟩, h4⟩
/-- a swap, as the laws use it -/
def okR (r : Rnd) : Prop := r.wf ∧ r.sto.vals.length < 1000
abbrev sp_swapR (C : Addr) : Sp := sp_swap C (sp_rafter C)
abbrev sp_law_swapR (C : Addr) : Sp := sp__law_swap (rndU C) (fun r => r.sto.cells) (fun r => r.sto.vals) Rnd.swap okR
theorem hob_R {C : Addr} : ∀ p (r : Rnd) R H, Has H (rndU C p r :: R) → ∃ dx fs, H p = some (.ins C dx fs) ∧ fs.lookup ("swap" : Str) = none := fun p r R H h => ⟨_, _, (rnd_two.mp h).g0, rdX_ok.f4⟩
theorem hsw_R {C : Addr} : ∀ p (r : Rnd) (i v : Int) R H (Q : VK), Has H (rndU C p r :: R) → okR r → 0 ≤ i → i < r.sto.cells.length → 0 ≤ v → v ≤ 999 → (∀ H', Has H' (rndU C p (r.swap i v) :: R) → Q (.int (r.sto.cells.getD i.toNat 0)) H') → sp_swapR C [.ref p, .int i, .int v] H Q E0 :=
  fun p r i v R H Q h ok i0 i1 v0 v1 q => ⟨p, _, r.sto, i, v, _, rfl, rnd_two.mp h, rdX_ok, ok.1.ok, ok.2, i0, i1, v0, v1, fun H' Q' h' k => ⟨p, { r with sto := r.sto.swap i v }, _, R, rfl, rnd_two.mpr h', ok.1.l2, fun H2 h2 => k _ _ (q H2 h2)⟩⟩
def sp_round_now (C : Addr) : Sp := fun vs H Q _ => ∃ (p : Addr) (r : Rnd) (R : List U), vs = [.ref p] ∧ Has H (rndU C p r :: R) ∧ Q (.int r.era) H
theorem pure_round_now {K : PySem.W.Frag} {C : Addr} (hC : RndC K C) {vs : List V} {H : Hp} {Q : VK} {E : XK} (h : sp_round_now C vs H Q E) : t_Rounds_round_now K ⟨fun _ H' => Q .non H', Q, fun _ _ => False, fun _ _ => False⟩ (start ["self"] vs) H := by
  obtain ⟨p, r, R, rfl, hh, q⟩ := h
  obtain ⟨⟨cl, n1, n2, n3, n4⟩, m1, m2, m3, m4⟩ := hC
  have h3 := rnd_cells hh
  unfold t_Rounds_round_now
  walk_at "go"
  exact q
def sp_hands_in (C : Addr) : Sp := fun vs H Q _ => ∃ (p : Addr) (r : Rnd) (R : List U), vs = [.ref p] ∧ Has H (rndU C p r :: R) ∧ r.wf ∧
  ∀ (ys : List Int) (d : Addr) H', ys.Perm (r.inside.map (·.1)) → ys.Pairwise (· ≤ ·) → Has H' ([(d, .lst (ys.map V.int))] :: rndU C p r :: R) → Q (.ref d) H'
theorem pure_hands_in {K : PySem.W.Frag} {C : Addr} (hC : RndC K C) {vs : List V} {H : Hp} {Q : VK} {E : XK} (h : sp_hands_in C vs H Q E) : t_Rounds_hands_in K ⟨fun _ H' => Q .non H', Q, fun _ _ => False, fun _ _ => False⟩ (start ["self"] vs) H := by
  obtain ⟨p, r, R, rfl, hh, w, q⟩ := h
  obtain ⟨⟨cl, n1, n2, n3, n4⟩, m1, m2, m3, m4⟩ := hC
  have h3 := rnd_cells hh
  have hl : (mv V.int r.inside).length < 64 := by rw [mv_len]; have := w.l1; omega
  unfold t_Rounds_hands_in
  walk_at "go"
  rename_i ys d H1 p1 p2 h1
  rw [mv_keys] at p1
  exact q ys d H1 p1 p2 ((rnd_of (h1.sub (Sub.p1 (Sub.p1 (Sub.p1 (Sub.p1 (Sub.p1 (Sub.p1 (Sub.p1 Sub.rf))))))))).sub (Sub.p1 (Sub.p0 Sub.rf)))
end La
namespace La
open PySem L2 Sy
local macro_rules | `(tactic| walk_at "fl") => `(tactic| first | assumption | exact stF_hands | exact stF_worth | exact stF_cells | exact stF_made | exact StX.f1 (by assumption) | exact StX.f2 (by assumption) | exact StX.f3 (by assumption) | exact StX.f4 (by assumption) | exact StX.f5 (by assumption) | exact StX.f6 (by assumption) | exact StX.f7 (by assumption) | exact StX.f8 (by assumption) | exact StX.f9 (by assumption))
local macro_rules | `(tactic| walk_at "fsl") => `(tactic| first | assumption | exact StX.fl (by assumption))
local macro_rules | `(tactic| walk_at "put") => `(tactic| first | exact stF_put_made | exact stF_put_cells | exact stF_put_worth | exact stF_put_hands)
def t_Marks_init (K : PySem.W.Frag) (C_Store : Addr) (sp_Marks__Store_init : Sp) : TS :=
  tSeq (tDrop (tCFn C_Store sp_Marks__Store_init [] E0 (tC (.ref C_Store)) (tCons (tVar 0) (tCons (tVar 1) (tCons (tVar 2) (tNil))))))
    (tSeq (sFld K (tVar 0) (tDNewT) "marks")
    (sFld K (tVar 0) (tLst (tNil)) "waits"))
def t_Marks_look_mark (K : PySem.W.Frag) (C_Marks : Addr) (sp_Marks__Store_look_hand sp_is_whole : Sp) : TS :=
  tSeq (tDrop (tMeth C_Marks "look_hand" sp_Marks__Store_look_hand [] E0 (tVar 0) (tCons (tVar 1) (tNil))))
    (tIfS (tNot (tB (tCall sp_is_whole [] E0 (tCons (tVar 2) (tCons (tC (.int 0)) (tCons (tOp rSubI (tC (.int 2)) (tC (.int 1))) (tNil))))))) (tNever) (tNext))
def t_Marks_state_of (K : PySem.W.Frag) (C_Marks : Addr) (sp_Marks__Marks_look_mark : Sp) : TS :=
  tSeq (tDrop (tMeth C_Marks "look_mark" sp_Marks__Marks_look_mark [] E0 (tVar 0) (tCons (tVar 1) (tCons (tVar 2) (tNil)))))
    (tSeq (tAsg (tDGet2 (tFld K (tVar 0) "marks") (tTup (tCons (tVar 1) (tCons (tVar 2) (tNil)))) (tTup (tCons (tC (.str "free")) (tCons (tC (.int 0)) (tCons (tC (.int 0)) (tNil)))))) (gName 4))
    (tSeq (tIfS (tTest (tOp (rIn K true) (tOp (rIxT K) (tVar 4) (tC (.int 0))) (tVar 3))) (tNever) (tNext))
    (tRet (tVar 4))))
def t_Marks_fetch (K : PySem.W.Frag) (C_Marks : Addr) (sp_Marks__Marks_look_mark sp_Marks__Store_look_cell : Sp) : TS :=
  tSeq (tDrop (tMeth C_Marks "look_mark" sp_Marks__Marks_look_mark [] E0 (tVar 0) (tCons (tVar 1) (tCons (tVar 2) (tNil)))))
    (tSeq (tDrop (tMeth C_Marks "look_cell" sp_Marks__Store_look_cell [] E0 (tVar 0) (tCons (tVar 3) (tNil))))
    (tSeq (sDPut (tFld K (tVar 0) "marks") (tTup (tCons (tVar 1) (tCons (tVar 2) (tNil)))) (tTup (tCons (tC (.str "fetched")) (tCons (tVar 3) (tCons (tOp (rIxL K) (tFld K (tVar 0) "cells") (tVar 3)) (tNil))))))
    (tRet (tOp (rIxL K) (tFld K (tVar 0) "cells") (tVar 3)))))
def t_Marks_set_mark (K : PySem.W.Frag) (C_Marks : Addr) (sp_Marks__Marks_state_of : Sp) : TS :=
  tSeq (tAsg (tMeth C_Marks "state_of" sp_Marks__Marks_state_of [] E0 (tVar 0) (tCons (tVar 1) (tCons (tVar 2) (tCons (tTup (tCons (tC (.str "fetched")) (tNil))) (tNil))))) (gTup K 3 (gCons (gName 3) (gCons (gName 4) (gCons (gName 5) (gNil))))))
    (sDPut (tFld K (tVar 0) "marks") (tTup (tCons (tVar 1) (tCons (tVar 2) (tNil)))) (tTup (tCons (tC (.str "set")) (tCons (tVar 4) (tCons (tVar 5) (tNil))))))
def t_Marks_sure (K : PySem.W.Frag) (C_Marks : Addr) (sp_Marks__Marks_state_of : Sp) : TS :=
  tSeq (tAsg (tMeth C_Marks "state_of" sp_Marks__Marks_state_of [] E0 (tVar 0) (tCons (tVar 1) (tCons (tVar 2) (tCons (tTup (tCons (tC (.str "set")) (tNil))) (tNil))))) (gTup K 3 (gCons (gName 3) (gCons (gName 4) (gCons (gName 5) (gNil))))))
    (tSeq (tIfS (tTest (tOp rNe (tOp (rIxL K) (tFld K (tVar 0) "cells") (tVar 4)) (tVar 5))) (tSeq (tDrop (tDPopT (tFld K (tVar 0) "marks") (tTup (tCons (tVar 1) (tCons (tVar 2) (tNil))))))
    (tRet (tC (.bl false)))) (tNext))
    (tSeq (sDPut (tFld K (tVar 0) "marks") (tTup (tCons (tVar 1) (tCons (tVar 2) (tNil)))) (tTup (tCons (tC (.str "sure")) (tCons (tVar 4) (tCons (tVar 5) (tNil))))))
    (tRet (tC (.bl true)))))
def t_Marks_read (K : PySem.W.Frag) (C_Marks : Addr) (sp_Marks__Marks_state_of sp_Marks__Store_value_of : Sp) : TS :=
  tSeq (tAsg (tMeth C_Marks "state_of" sp_Marks__Marks_state_of [] E0 (tVar 0) (tCons (tVar 1) (tCons (tVar 2) (tCons (tTup (tCons (tC (.str "sure")) (tNil))) (tNil))))) (gTup K 3 (gCons (gName 3) (gCons (gName 4) (gCons (gName 5) (gNil))))))
    (tRet (tMeth C_Marks "value_of" sp_Marks__Store_value_of [] E0 (tVar 0) (tCons (tVar 5) (tNil))))
def t_Marks_clear_mark (K : PySem.W.Frag) (C_Marks : Addr) (sp_Marks__Marks_state_of : Sp) : TS :=
  tSeq (tDrop (tMeth C_Marks "state_of" sp_Marks__Marks_state_of [] E0 (tVar 0) (tCons (tVar 1) (tCons (tVar 2) (tCons (tTup (tCons (tC (.str "fetched")) (tCons (tC (.str "set")) (tCons (tC (.str "sure")) (tNil))))) (tNil))))))
    (tDrop (tDPopT (tFld K (tVar 0) "marks") (tTup (tCons (tVar 1) (tCons (tVar 2) (tNil))))))
def t_Marks_after_swap (K : PySem.W.Frag) : TS :=
  tDrop (tBM K "list" rAppend (tFld K (tVar 0) "waits") (tCons (tVar 1) (tNil)))
def t_Marks_marked (K : PySem.W.Frag) : TS :=
  tSeq (tLock (tAsg (tLc (iKeys (tFld K (tVar 0) "marks")) (gName 2) (tTest (tOp rNe (tOp (rIxT K) (tDGet (tFld K (tVar 0) "marks") (tVar 2)) (tC (.int 0))) (tC (.str "fetched")))) (tOp (rIxT K) (tDGet (tFld K (tVar 0) "marks") (tVar 2)) (tC (.int 2))) [2]) (gName 1)))
    (tRet (tSSet K (tCons (tVar 1) (tNil))))
def t_Marks_sweep (K : PySem.W.Frag) (C_Marks : Addr) (sp_Marks__Marks_marked sp_Marks__Store_let_go : Sp) : TS :=
  tSeq (tAsg (tMeth C_Marks "marked" sp_Marks__Marks_marked [] E0 (tVar 0) tNil) (gName 1))
    (tSeq (tAsg (tLc (iList K (tFld K (tVar 0) "waits")) (gName 3) (tTest (tOp (rIn K true) (tVar 3) (tVar 1))) (tVar 3) [3]) (gName 2))
    (tSeq (sFld K (tVar 0) (tLc (iList K (tFld K (tVar 0) "waits")) (gName 3) (tTest (tOp (rIn K false) (tVar 3) (tVar 1))) (tVar 3) [3]) "waits")
    (tRet (tMeth C_Marks "let_go" sp_Marks__Store_let_go [] E0 (tVar 0) (tCons (tVar 2) (tNil))))))
def mkX (v0 v1 : V) : List (Str × V) := [("marks", v0), ("waits", v1)]
theorem mk_marks {h w c m v0 v1 : V} : (stF h w c m (mkX v0 v1)).lookup ("marks" : Str) = some v0 := by kernel_rfl
theorem mk_put_marks {h w c m v0 v1 u : V} : putF "marks" u (stF h w c m (mkX v0 v1)) = stF h w c m (mkX u v1) := by kernel_rfl
theorem mk_waits {h w c m v0 v1 : V} : (stF h w c m (mkX v0 v1)).lookup ("waits" : Str) = some v1 := by kernel_rfl
theorem mk_put_waits {h w c m v0 v1 u : V} : putF "waits" u (stF h w c m (mkX v0 v1)) = stF h w c m (mkX v0 u) := by kernel_rfl
theorem mk_m_look_mark {h w c m v0 v1 : V} : (stF h w c m (mkX v0 v1)).lookup ("look_mark" : Str) = none := by kernel_rfl
theorem mk_m_state_of {h w c m v0 v1 : V} : (stF h w c m (mkX v0 v1)).lookup ("state_of" : Str) = none := by kernel_rfl
theorem mk_m_fetch {h w c m v0 v1 : V} : (stF h w c m (mkX v0 v1)).lookup ("fetch" : Str) = none := by kernel_rfl
theorem mk_m_set_mark {h w c m v0 v1 : V} : (stF h w c m (mkX v0 v1)).lookup ("set_mark" : Str) = none := by kernel_rfl
theorem mk_m_sure {h w c m v0 v1 : V} : (stF h w c m (mkX v0 v1)).lookup ("sure" : Str) = none := by kernel_rfl
theorem mk_m_read {h w c m v0 v1 : V} : (stF h w c m (mkX v0 v1)).lookup ("read" : Str) = none := by kernel_rfl
theorem mk_m_clear_mark {h w c m v0 v1 : V} : (stF h w c m (mkX v0 v1)).lookup ("clear_mark" : Str) = none := by kernel_rfl
theorem mk_m_marked {h w c m v0 v1 : V} : (stF h w c m (mkX v0 v1)).lookup ("marked" : Str) = none := by kernel_rfl
theorem mk_m_sweep {h w c m v0 v1 : V} : (stF h w c m (mkX v0 v1)).lookup ("sweep" : Str) = none := by kernel_rfl
theorem mkX_ok {v0 v1 : V} : StX (mkX v0 v1) := ⟨by show 2 < 900; decide, by kernel_rfl, by kernel_rfl, by kernel_rfl, by kernel_rfl, by kernel_rfl, by kernel_rfl, by kernel_rfl, by kernel_rfl, by kernel_rfl⟩
theorem mk_p1 {h w c m  u : V} : putF "marks" u (stF h w c m []) = stF h w c m [("marks", u)] := by kernel_rfl
theorem mk_p2 {h w c m v0 u : V} : putF "waits" u (stF h w c m [("marks", v0)]) = stF h w c m (mkX v0 u) := by kernel_rfl
local macro_rules | `(tactic| walk_at "fl") => `(tactic| first | assumption | exact stF_hands | exact stF_worth | exact stF_cells | exact stF_made | exact mk_marks | exact mk_waits | exact mk_m_look_mark | exact mk_m_state_of | exact mk_m_fetch | exact mk_m_set_mark | exact mk_m_sure | exact mk_m_read | exact mk_m_clear_mark | exact mk_m_marked | exact mk_m_sweep | exact StX.f1 mkX_ok | exact StX.f2 mkX_ok | exact StX.f3 mkX_ok | exact StX.f4 mkX_ok | exact StX.f5 mkX_ok | exact StX.f6 mkX_ok | exact StX.f7 mkX_ok | exact StX.f8 mkX_ok | exact StX.f9 mkX_ok)
local macro_rules | `(tactic| walk_at "put") => `(tactic| first | exact mk_put_marks | exact mk_put_waits | exact stF_put_made | exact stF_put_cells | exact stF_put_worth | exact stF_put_hands)
local macro_rules | `(tactic| walk_at "fsl") => `(tactic| first | assumption | exact StX.fl mkX_ok)
/-! ### marks -/
structure MrkC (K : PySem.W.Frag) (C : Addr) : Prop where
  st : StoreC K C
  n1 : NoAttr K C "marks"
  n2 : NoAttr K C "waits"
structure MV where
  a : Addr
  st : Str
  cell : Int
  thing : Int
def mtup (v : MV) : HO := .tup [.str v.st, .int v.cell, .int v.thing]
def mref (v : MV) : V := .ref v.a
abbrev Mks := List ((Int × Int) × MV)
structure Mrk where
  sto : Sto
  ma : Addr
  wa : Addr
  marks : Mks
  waits : List Int
  bag : U
abbrev mkx (r : Mrk) : List (Str × V) := mkX (.ref r.ma) (.ref r.wa)
def mdU (r : Mrk) : U := (r.ma, dP (mv mref r.marks)) :: (r.wa, .lst (r.waits.map V.int)) :: r.bag
def mrkU (C p : Addr) (r : Mrk) : U := stoU C p (mkx r) r.sto ++ mdU r
theorem mrk_two {H : Hp} {C p : Addr} {r : Mrk} {R : List U} : Has H (mrkU C p r :: R) ↔ Has H (stoU C p (mkx r) r.sto :: mdU r :: R) := Has.op
theorem mrk_cells {H : Hp} {C p : Addr} {r : Mrk} {R : List U} (h : Has H (mrkU C p r :: R)) :
    Has H ([(p, .ins C r.sto.dx (stF (.int r.sto.hands) (.ref r.sto.w) (.ref r.sto.c) (.int r.sto.vals.length) (mkx r)))] :: [(r.sto.w, dI (worthOf r.sto.vals r.sto.kept))] :: [(r.sto.c, .lst (r.sto.cells.map V.int))] ::
      [(r.ma, dP (mv mref r.marks))] :: [(r.wa, .lst (r.waits.map V.int))] :: r.bag :: R) :=
  ((mrk_two.mp h).cut2.sub (Sub.p3 Sub.rf)).cut2.sub (Sub.p3 (Sub.p3 (Sub.p3 (Sub.p0 (Sub.p0 (Sub.p0 Sub.rf))))))
theorem mrk_of {H : Hp} {C p : Addr} {r : Mrk} {R : List U} (h :
    Has H ([(p, .ins C r.sto.dx (stF (.int r.sto.hands) (.ref r.sto.w) (.ref r.sto.c) (.int r.sto.vals.length) (mkx r)))] :: [(r.sto.w, dI (worthOf r.sto.vals r.sto.kept))] :: [(r.sto.c, .lst (r.sto.cells.map V.int))] ::
      [(r.ma, dP (mv mref r.marks))] :: [(r.wa, .lst (r.waits.map V.int))] :: r.bag :: R)) : Has H (mrkU C p r :: R) :=
  mrk_two.mpr (Has.glue2 (((Has.glue2 (h.sub (Sub.p3 (Sub.p3 (Sub.p3 Sub.rf))))).sub (Sub.p1 (Sub.p1 (Sub.p1 (Sub.p0 Sub.rf)))))))
structure Mrk.wf (r : Mrk) : Prop where
  ok : r.sto.ok
  nd : (r.marks.map (·.1)).Nodup
  kr : ∀ k ∈ r.marks.map (·.1), (0 ≤ k.1 ∧ k.1 < r.sto.hands) ∧ 0 ≤ k.2 ∧ k.2 < 2
  h6 : r.sto.hands ≤ 6
  bg : ∀ q ∈ r.marks, (q.2.a, mtup q.2) ∈ r.bag
  cr : ∀ q ∈ r.marks, 0 ≤ q.2.cell ∧ q.2.cell < r.sto.cells.length
  su : ∀ q ∈ r.marks, q.2.st = "sure" → q.2.thing ∈ r.sto.kept
  nw : r.waits.Nodup
  wk : ∀ k ∈ r.waits, k ∈ r.sto.kept ∧ k ∉ r.sto.cells
theorem nodup_len2 : ∀ {n : Nat} {l : List Int}, l.Nodup → (∀ k ∈ l, 0 ≤ k ∧ k < n) → l.length ≤ n
  | 0, [], _, _ => Nat.le_refl _
  | 0, a :: r, _, h => by have := h a (List.mem_cons.mpr (.inl rfl)); omega
  | n + 1, l, nd, h => by
    by_cases hm : (n : Int) ∈ l
    · have e := List.length_erase_of_mem hm
      have ih := nodup_len2 (n := n) (l := l.erase (n : Int)) (nd.erase _) fun k hk => by
        have h2 := nd.mem_erase_iff.mp hk
        have h3 := h k h2.2
        have h4 := h2.1
        omega
      have := List.length_pos_of_mem hm
      omega
    · have ih := nodup_len2 (n := n) (l := l) nd fun k hk => by
        have h3 := h k hk
        have h4 : k ≠ (n : Int) := fun e => hm (e ▸ hk)
        omega
      omega
theorem pair_len {l : List (Int × Int)} {h : Int} (nd : l.Nodup) (hr : ∀ k ∈ l, (0 ≤ k.1 ∧ k.1 < h) ∧ 0 ≤ k.2 ∧ k.2 < 2) (h0 : 0 ≤ h) : (l.length : Int) ≤ 2 * h := by
  have n2 : (l.map fun k => 2 * k.1 + k.2).Nodup := by
    show List.Pairwise _ _
    rw [List.pairwise_map]
    refine List.Pairwise.imp_of_mem (fun {a b} ha hb hab e => ?_) nd
    have h1 := hr a ha
    have h2 := hr b hb
    exact hab (Prod.ext (by omega) (by omega))
  have := nodup_len2 (n := (2 * h).toNat) n2 fun k hk => by
    obtain ⟨z, hz, e⟩ := List.mem_map.mp hk
    have h1 := hr z hz
    omega
  rw [List.length_map] at this
  omega
theorem Mrk.wf.l2 {r : Mrk} (w : r.wf) (h0 : 0 ≤ r.sto.hands) : (r.marks.length : Int) ≤ 2 * r.sto.hands := by
  have := pair_len w.nd w.kr h0
  rw [List.length_map] at this
  exact this
theorem Mrk.wf.l1 {r : Mrk} (w : r.wf) : r.marks.length ≤ 12 := by
  have h6 := w.h6
  have := pair_len (h := 6) w.nd (fun k hk => by have := w.kr k hk; omega) (by omega)
  rw [List.length_map] at this
  omega
theorem Mrk.wf.wl {r : Mrk} (w : r.wf) : r.waits.length ≤ r.sto.vals.length := nodup_len2 w.nw fun k hk => w.ok.made k (w.wk k hk).1
/-- making -/
def Mrk.new (s : Sto) (ma wa : Addr) : Mrk := ⟨s, ma, wa, [], [], []⟩
def sp_minit (C : Addr) : Sp := fun vs H Q _ => ∃ (p dx : Addr) (h n : Int) (R : List U), vs = [.ref p, .int h, .int n] ∧ Has H ([(p, .ins C dx [])] :: R) ∧ 1 ≤ h ∧ h ≤ 6 ∧ 1 ≤ n ∧ n ≤ 5 ∧
  ∀ w c ma wa H', Has H' (mrkU C p (Mrk.new (Sto.new dx w c h n) ma wa) :: R) → Q .non H'
section
local macro_rules | `(tactic| walk_at "put") => `(tactic| first | exact mk_p1 | exact mk_p2)
local macro_rules | `(tactic| walk_at "fsl") => `(tactic| first | assumption | (show 4 < 1000; decide) | (show 5 < 1000; decide))
theorem pure_minit {K : PySem.W.Frag} {C CS : Addr} (hC : MrkC K C) {vs : List V} {H : Hp} {Q : VK} {E : XK} (h : sp_minit C vs H Q E) : t_Marks_init K CS (sp_init C) ⟨fun _ H' => Q .non H', Q, fun _ _ => False, fun _ _ => False⟩ (start ["self", "hands", "cells"] vs) H := by
  obtain ⟨p, dx, h, n, R, rfl, hh, h1, h6, n1', n5, q⟩ := h
  obtain ⟨⟨cl, n1, n2, n3, n4⟩, m1, m2⟩ := hC
  unfold t_Marks_init
  walk_at "go"
  refine ⟨p, dx, h, n, R, rfl, hh, h1, h6, n1', n5, fun w c H1 hh1 => ?_⟩
  replace hh1 := hh1.cut2
  walk_at "go"
  rename_i ma H3 h3 H4 h4 wa H5 h5 H6 h6
  refine q w c ma wa H6 (mrk_of (Has.sub (Has.nilU.mpr h6) ?_))
  show Sub ([(p, .ins C dx (stF (.int h) (.ref w) (.ref c) (.int (Sto.new dx w c h n).vals.length) (mkX (.ref ma) (.ref wa))))] :: [(w, dI (worthOf (Sto.new dx w c h n).vals (rgI n)))] :: [(c, .lst ((rgI n).map V.int))] :: [(ma, dP [])] :: [(wa, .lst [])] :: [] :: R) _
  walk_at "sub"
end
theorem Mrk.new_wf {dx w c ma wa : Addr} {h n : Int} (h6 : h ≤ 6) (h1 : 1 ≤ n) (h5 : n ≤ 5) : (Mrk.new (Sto.new dx w c h n) ma wa).wf :=
  ⟨Sto.new_ok h1 h5, List.nodup_nil, fun k hk => absurd hk List.not_mem_nil, h6, fun k hk => absurd hk List.not_mem_nil, fun k hk => absurd hk List.not_mem_nil, fun k hk => absurd hk List.not_mem_nil, List.nodup_nil, fun k hk => absurd hk List.not_mem_nil⟩
def sp_look_mark (C : Addr) : Sp := fun vs H Q _ => ∃ (p : Addr) (r : Mrk) (k m : Int) (R : List U), vs = [.ref p, .int k, .int m] ∧ Has H (mrkU C p r :: R) ∧ 0 ≤ k ∧ k < r.sto.hands ∧ 0 ≤ m ∧ m < 2 ∧ Q .non H
theorem pure_look_mark {K : PySem.W.Frag} {C : Addr} (hC : MrkC K C) {vs : List V} {H : Hp} {Q : VK} {E : XK} (h : sp_look_mark C vs H Q E) : t_Marks_look_mark K C (sp_look_hand C) sp_is_whole ⟨fun _ H' => Q .non H', Q, fun _ _ => False, fun _ _ => False⟩ (start ["self", "hand", "mark"] vs) H := by
  obtain ⟨p, r, k, m, R, rfl, hh, k0, k1, m0, m1', q⟩ := h
  obtain ⟨⟨cl, n1, n2, n3, n4⟩, m1, m2⟩ := hC
  have h2 := mrk_two.mp hh
  have h3 := mrk_cells hh
  unfold t_Marks_look_mark
  walk_at "go"
  refine ⟨p, _, r.sto, k, _, rfl, h2, mkX_ok, k0, k1, ?_⟩
  walk_at "go"
  refine ⟨m, 0, 2 - 1, rfl, ?_⟩
  rw [decide_eq_true (show (0 : Int) ≤ m ∧ m ≤ 2 - 1 from ⟨m0, by omega⟩)]
  walk_at "go"
  exact q
def sp_state_of (C : Addr) : Sp := fun vs H Q _ => ∃ (p sa : Addr) (r : Mrk) (k m : Int) (ss : List Str) (v : MV) (R : List U), vs = [.ref p, .int k, .int m, .ref sa] ∧ Has H (mrkU C p r :: [(sa, .tup (ss.map V.str))] :: R) ∧ r.wf ∧ 0 ≤ k ∧ k < r.sto.hands ∧ 0 ≤ m ∧ m < 2 ∧ fd r.marks (k, m) = some v ∧ v.st ∈ ss ∧
  ∀ H', Has H' (mrkU C p r :: [(sa, .tup (ss.map V.str))] :: R) → H' v.a = some (mtup v) → Q (.ref v.a) H'
theorem pure_state_of {K : PySem.W.Frag} {C : Addr} (hC : MrkC K C) {vs : List V} {H : Hp} {Q : VK} {E : XK} (h : sp_state_of C vs H Q E) : t_Marks_state_of K C (sp_look_mark C) ⟨fun _ H' => Q .non H', Q, fun _ _ => False, fun _ _ => False⟩ (start ["self", "hand", "mark", "states", "found"] vs) H := by
  obtain ⟨p, sa, r, k, m, ss, v, R, rfl, hh, w, k0, k1, m0, m1', hf, hs, q⟩ := h
  obtain ⟨⟨cl, n1, n2, n3, n4⟩, m1, m2⟩ := hC
  have h2 := mrk_two.mp hh
  have h3 := mrk_cells hh
  have hb := w.bg _ (fd_mem hf)
  unfold t_Marks_state_of
  walk_at "go"
  refine ⟨p, r, k, m, _, rfl, hh, k0, k1, m0, m1', ?_⟩
  clear hh h2
  walk_at "go"
  rename_i b1 H1 h1 b2 H2 h2
  have hv : valV (mv mref r.marks) (k, m) = some (.ref v.a) := mv_some hf
  rw [hv]
  have ht : H2 v.a = some (.tup [.str v.st, .int v.cell, .int v.thing]) := Has.fam (h2.sub (show Sub (r.bag :: _) _ by walk_at "sub")) _ hb
  show rIxT K (V.ref v.a) _ _ _
  walk_at "go"
  refine k_inS (by walk_at "hp") ?_
  have e : (if true = true then !decide (v.st ∈ ss) else decide (v.st ∈ ss)) = false := by simp [hs]
  rw [e]
  walk_at "go"
  refine q _ ?_ ht
  have h9 := mrk_of (C := C) (p := p) (r := r) (h2.sub (show Sub ([(p, .ins C r.sto.dx (stF (.int r.sto.hands) (.ref r.sto.w) (.ref r.sto.c) (.int r.sto.vals.length) (mkx r)))] :: [(r.sto.w, dI (worthOf r.sto.vals r.sto.kept))] :: [(r.sto.c, .lst (r.sto.cells.map V.int))] ::
      [(r.ma, dP (mv mref r.marks))] :: [(r.wa, .lst (r.waits.map V.int))] :: r.bag :: [(sa, .tup (ss.map V.str))] :: R) _ by walk_at "sub"))
  exact h9
def Mrk.mark (r : Mrk) (k m : Int) (v : MV) (bag : U) : Mrk := { r with marks := pu r.marks (k, m) v, bag := bag }
def Mrk.unmark (r : Mrk) (k m : Int) : Mrk := { r with marks := rm r.marks (k, m) }
theorem Mrk.wf.mark {r : Mrk} (w : r.wf) {k m : Int} {v : MV} {bag : U} (k0 : 0 ≤ k) (k1 : k < r.sto.hands) (m0 : 0 ≤ m) (m1 : m < 2) (hb : ∀ q ∈ r.bag, q ∈ bag) (hv : (v.a, mtup v) ∈ bag) (hc : 0 ≤ v.cell ∧ v.cell < r.sto.cells.length) (hs : v.st = "sure" → v.thing ∈ r.sto.kept) : (r.mark k m v bag).wf where
  ok := w.ok
  nd := pu_nd v w.nd
  kr := fun z hz => by
    obtain ⟨q, hq, e⟩ := List.mem_map.mp hz
    rcases pu_mem hq with h | h
    · exact w.kr z (e ▸ List.mem_map.mpr ⟨q, h, rfl⟩)
    · rw [h] at e
      rw [← e]
      exact ⟨⟨k0, k1⟩, m0, m1⟩
  h6 := w.h6
  bg := fun q hq => by
    rcases pu_mem hq with h | h
    · exact hb _ (w.bg q h)
    · rw [h]; exact hv
  cr := fun q hq => by
    rcases pu_mem hq with h | h
    · exact w.cr q h
    · rw [h]; exact hc
  su := fun q hq => by
    rcases pu_mem hq with h | h
    · exact w.su q h
    · rw [h]; exact hs
  nw := w.nw
  wk := w.wk
theorem Mrk.wf.unmark {r : Mrk} (w : r.wf) (k m : Int) : (r.unmark k m).wf where
  ok := w.ok
  nd := rm_nodup w.nd
  kr := fun z hz => by
    obtain ⟨q, hq, e⟩ := List.mem_map.mp hz
    exact w.kr z (e ▸ List.mem_map.mpr ⟨q, (rm_mem.mp hq).1, rfl⟩)
  h6 := w.h6
  bg := fun q hq => w.bg q (rm_mem.mp hq).1
  cr := fun q hq => w.cr q (rm_mem.mp hq).1
  su := fun q hq => w.su q (rm_mem.mp hq).1
  nw := w.nw
  wk := w.wk
/-- the cells again as one store, a new tuple in the bag -/
theorem mrk_put {H : Hp} {C p : Addr} {r : Mrk} {k m : Int} {v : MV} {R : List U} (h :
    Has H ([(v.a, mtup v)] :: [(p, .ins C r.sto.dx (stF (.int r.sto.hands) (.ref r.sto.w) (.ref r.sto.c) (.int r.sto.vals.length) (mkx r)))] :: [(r.sto.w, dI (worthOf r.sto.vals r.sto.kept))] :: [(r.sto.c, .lst (r.sto.cells.map V.int))] ::
      [(r.ma, dP (putK (mv mref r.marks) (k, m) (.ref v.a)))] :: [(r.wa, .lst (r.waits.map V.int))] :: r.bag :: R)) : Has H (mrkU C p (r.mark k m v (r.bag ++ [(v.a, mtup v)])) :: R) := by
  refine mrk_of ?_
  show Has H ([(p, .ins C r.sto.dx (stF (.int r.sto.hands) (.ref r.sto.w) (.ref r.sto.c) (.int r.sto.vals.length) (mkx r)))] :: [(r.sto.w, dI (worthOf r.sto.vals r.sto.kept))] :: [(r.sto.c, .lst (r.sto.cells.map V.int))] ::
      [(r.ma, dP (mv mref (pu r.marks (k, m) v)))] :: [(r.wa, .lst (r.waits.map V.int))] :: (r.bag ++ [(v.a, mtup v)]) :: R)
  rw [← mv_put mref]
  have h2 := Has.op.mpr (h.sub (show Sub (r.bag :: [(v.a, mtup v)] :: _) _ from Sub.p6 (Sub.p0 Sub.rf)))
  exact h2.sub (Sub.p1 (Sub.p1 (Sub.p1 (Sub.p1 (Sub.p1 (Sub.p0 Sub.rf))))))
def sp_fetch (C : Addr) : Sp := fun vs H Q _ => ∃ (p : Addr) (r : Mrk) (k m c : Int) (R : List U), vs = [.ref p, .int k, .int m, .int c] ∧ Has H (mrkU C p r :: R) ∧ r.wf ∧ 0 ≤ k ∧ k < r.sto.hands ∧ 0 ≤ m ∧ m < 2 ∧ 0 ≤ c ∧ c < r.sto.cells.length ∧
  ∀ a bag H', (r.mark k m ⟨a, "fetched", c, r.sto.cells.getD c.toNat 0⟩ bag).wf → Has H' (mrkU C p (r.mark k m ⟨a, "fetched", c, r.sto.cells.getD c.toNat 0⟩ bag) :: R) → Q (.int (r.sto.cells.getD c.toNat 0)) H'
theorem pure_fetch {K : PySem.W.Frag} {C : Addr} (hC : MrkC K C) {vs : List V} {H : Hp} {Q : VK} {E : XK} (h : sp_fetch C vs H Q E) : t_Marks_fetch K C (sp_look_mark C) (sp_look_cell C) ⟨fun _ H' => Q .non H', Q, fun _ _ => False, fun _ _ => False⟩ (start ["self", "hand", "mark", "cell"] vs) H := by
  obtain ⟨p, r, k, m, c, R, rfl, hh, w, k0, k1, m0, m1', c0, c1, q⟩ := h
  obtain ⟨⟨cl, n1, n2, n3, n4⟩, m1, m2⟩ := hC
  have h2 := mrk_two.mp hh
  have h3 := mrk_cells hh
  have hl := w.l1
  have e1 : (mv mref r.marks).length < sizeLine := by rw [mv_len, sizeLine_eq]; omega
  have ea := at_ints c0 c1
  unfold t_Marks_fetch
  walk_at "go"
  refine ⟨p, r, k, m, _, rfl, hh, k0, k1, m0, m1', ?_⟩
  walk_at "go"
  refine ⟨p, _, r.sto, c, _, rfl, h2, mkX_ok, c0, c1, ?_⟩
  clear hh h2
  walk_at "go"
  rename_i a H1 h1 b H2 h2 H3 h3
  have hw : (r.mark k m ⟨a, "fetched", c, r.sto.cells.getD c.toNat 0⟩ (r.bag ++ [(a, mtup ⟨a, "fetched", c, r.sto.cells.getD c.toNat 0⟩)])).wf :=
    w.mark k0 k1 m0 m1' (fun q hq => List.mem_append.mpr (.inl hq)) (List.mem_append.mpr (.inr (List.mem_singleton.mpr rfl))) ⟨c0, c1⟩ (fun e => absurd e (show ¬ ("fetched" : Str) = "sure" by decide))
  exact q a _ H3 hw (mrk_put (h3.sub (Sub.p1 (Sub.skip Sub.rf))))
theorem at_mv {H : Hp} {v : MV} {L L' : List U} {bag : U} (h : Has H L) (hs : Sub (bag :: L') L) (hb : (v.a, mtup v) ∈ bag) : H v.a = some (.tup [.str v.st, .int v.cell, .int v.thing]) := Has.fam (h.sub hs) _ hb
def sp_set_mark (C : Addr) : Sp := fun vs H Q _ => ∃ (p : Addr) (r : Mrk) (k m : Int) (v : MV) (R : List U), vs = [.ref p, .int k, .int m] ∧ Has H (mrkU C p r :: R) ∧ r.wf ∧ 0 ≤ k ∧ k < r.sto.hands ∧ 0 ≤ m ∧ m < 2 ∧ fd r.marks (k, m) = some v ∧ v.st = "fetched" ∧
  ∀ a bag H', (r.mark k m ⟨a, "set", v.cell, v.thing⟩ bag).wf → Has H' (mrkU C p (r.mark k m ⟨a, "set", v.cell, v.thing⟩ bag) :: R) → Q .non H'
theorem pure_set_mark {K : PySem.W.Frag} {C : Addr} (hC : MrkC K C) {vs : List V} {H : Hp} {Q : VK} {E : XK} (h : sp_set_mark C vs H Q E) : t_Marks_set_mark K C (sp_state_of C) ⟨fun _ H' => Q .non H', Q, fun _ _ => False, fun _ _ => False⟩ (start ["self", "hand", "mark", "state", "cell", "thing"] vs) H := by
  obtain ⟨p, r, k, m, v, R, rfl, hh, w, k0, k1, m0, m1', hf, hs, q⟩ := h
  obtain ⟨⟨cl, n1, n2, n3, n4⟩, m1, m2⟩ := hC
  have hl := w.l1
  have e1 : (mv mref r.marks).length < sizeLine := by rw [mv_len, sizeLine_eq]; omega
  have hp := (mrk_two.mp hh).g0
  unfold t_Marks_set_mark
  walk_at "go"
  rename_i sa H1 h1
  refine ⟨p, sa, r, k, m, ["fetched"], v, R, rfl, h1.sub (Sub.p1 (Sub.p0 Sub.rf)), w, k0, k1, m0, m1', hf, by rw [hs]; exact List.mem_singleton.mpr rfl, fun H2 h2 ht => ?_⟩
  have ht : H2 v.a = some (.tup [.str v.st, .int v.cell, .int v.thing]) := ht
  have h3 := mrk_cells h2
  clear h1 hh hp
  refine x_gtup ht rfl ?_
  clear h2
  walk_at "go"
  rename_i a H4 h4 b H5 h5 H6 h6
  have hw : (r.mark k m ⟨a, "set", v.cell, v.thing⟩ (r.bag ++ [(a, mtup ⟨a, "set", v.cell, v.thing⟩)])).wf :=
    w.mark k0 k1 m0 m1' (fun q hq => List.mem_append.mpr (.inl hq)) (List.mem_append.mpr (.inr (List.mem_singleton.mpr rfl))) (w.cr _ (fd_mem hf)) (fun e => absurd e (show ¬ ("set" : Str) = "sure" by decide))
  exact q a _ H6 hw (mrk_put (h6.sub (show Sub ([(a, mtup ⟨a, "set", v.cell, v.thing⟩)] :: [(p, _)] :: [(r.sto.w, _)] :: [(r.sto.c, _)] :: [(r.ma, _)] :: [(r.wa, _)] :: r.bag :: R) _ by walk_at "sub")))
def sp_sure (C : Addr) : Sp := fun vs H Q _ => ∃ (p : Addr) (r : Mrk) (k m : Int) (v : MV) (R : List U), vs = [.ref p, .int k, .int m] ∧ Has H (mrkU C p r :: R) ∧ r.wf ∧ 0 ≤ k ∧ k < r.sto.hands ∧ 0 ≤ m ∧ m < 2 ∧ fd r.marks (k, m) = some v ∧ v.st = "set" ∧
  (r.sto.cells.getD v.cell.toNat 0 = v.thing → ∀ a bag H', (r.mark k m ⟨a, "sure", v.cell, v.thing⟩ bag).wf → Has H' (mrkU C p (r.mark k m ⟨a, "sure", v.cell, v.thing⟩ bag) :: R) → Q (.bl true) H') ∧
  (r.sto.cells.getD v.cell.toNat 0 ≠ v.thing → ∀ H', Has H' (mrkU C p (r.unmark k m) :: R) → Q (.bl false) H')
theorem mrk_un {H : Hp} {C p : Addr} {r : Mrk} {k m : Int} {R : List U} (h :
    Has H ([(p, .ins C r.sto.dx (stF (.int r.sto.hands) (.ref r.sto.w) (.ref r.sto.c) (.int r.sto.vals.length) (mkx r)))] :: [(r.sto.w, dI (worthOf r.sto.vals r.sto.kept))] :: [(r.sto.c, .lst (r.sto.cells.map V.int))] ::
      [(r.ma, dP (dropK (mv mref r.marks) (k, m)))] :: [(r.wa, .lst (r.waits.map V.int))] :: r.bag :: R)) : Has H (mrkU C p (r.unmark k m) :: R) := by
  refine mrk_of ?_
  show Has H ([(p, .ins C r.sto.dx (stF (.int r.sto.hands) (.ref r.sto.w) (.ref r.sto.c) (.int r.sto.vals.length) (mkx r)))] :: [(r.sto.w, dI (worthOf r.sto.vals r.sto.kept))] :: [(r.sto.c, .lst (r.sto.cells.map V.int))] ::
      [(r.ma, dP (mv mref (rm r.marks (k, m))))] :: [(r.wa, .lst (r.waits.map V.int))] :: r.bag :: R)
  rw [← mv_drop mref]
  exact h
theorem pure_sure {K : PySem.W.Frag} {C : Addr} (hC : MrkC K C) {vs : List V} {H : Hp} {Q : VK} {E : XK} (h : sp_sure C vs H Q E) : t_Marks_sure K C (sp_state_of C) ⟨fun _ H' => Q .non H', Q, fun _ _ => False, fun _ _ => False⟩ (start ["self", "hand", "mark", "state", "cell", "thing"] vs) H := by
  obtain ⟨p, r, k, m, v, R, rfl, hh, w, k0, k1, m0, m1', hf, hs, q1, q2⟩ := h
  obtain ⟨⟨cl, n1, n2, n3, n4⟩, m1, m2⟩ := hC
  have hl := w.l1
  have e1 : (mv mref r.marks).length < sizeLine := by rw [mv_len, sizeLine_eq]; omega
  have hp := (mrk_two.mp hh).g0
  have c0 : 0 ≤ v.cell := (w.cr _ (fd_mem hf)).1
  have c1 : v.cell < r.sto.cells.length := (w.cr _ (fd_mem hf)).2
  have ea := at_ints c0 c1
  have hv : valV (mv mref r.marks) (k, m) = some (.ref v.a) := mv_some hf
  unfold t_Marks_sure
  walk_at "go"
  rename_i sa H1 h1
  refine ⟨p, sa, r, k, m, ["set"], v, R, rfl, h1.sub (Sub.p1 (Sub.p0 Sub.rf)), w, k0, k1, m0, m1', hf, by rw [hs]; exact List.mem_singleton.mpr rfl, fun H2 h2 ht => ?_⟩
  have ht : H2 v.a = some (.tup [.str v.st, .int v.cell, .int v.thing]) := ht
  have h3 := mrk_cells h2
  clear h1 hh hp
  refine x_gtup ht rfl ?_
  clear h2
  walk_at "go"
  refine ifB (fun b => ?_) (fun b => ?_)
  · have hne : ¬ r.sto.cells.getD v.cell.toNat 0 = v.thing := by simpa using b
    walk_at "go"
    rename_i b1 H4 h4 H5 h5
    exact q2 hne H5 (mrk_un (h5.sub (show Sub ([(p, _)] :: [(r.sto.w, _)] :: [(r.sto.c, _)] :: [(r.ma, _)] :: [(r.wa, _)] :: r.bag :: R) _ by walk_at "sub")))
  · have he : r.sto.cells.getD v.cell.toNat 0 = v.thing := by simpa using b
    walk_at "go"
    rename_i a H4 h4 b H5 h5 H6 h6
    have hw : (r.mark k m ⟨a, "sure", v.cell, v.thing⟩ (r.bag ++ [(a, mtup ⟨a, "sure", v.cell, v.thing⟩)])).wf :=
      w.mark k0 k1 m0 m1' (fun q hq => List.mem_append.mpr (.inl hq)) (List.mem_append.mpr (.inr (List.mem_singleton.mpr rfl))) ⟨c0, c1⟩ (fun _ => by
        show v.thing ∈ r.sto.kept
        rw [← he]
        exact w.ok.here _ (getD_mem (by omega)))
    exact q1 he a _ H6 hw (mrk_put (h6.sub (show Sub ([(a, mtup ⟨a, "sure", v.cell, v.thing⟩)] :: [(p, _)] :: [(r.sto.w, _)] :: [(r.sto.c, _)] :: [(r.ma, _)] :: [(r.wa, _)] :: r.bag :: R) _ by walk_at "sub")))
def sp_mread (C : Addr) : Sp := fun vs H Q _ => ∃ (p : Addr) (r : Mrk) (k m : Int) (v : MV) (R : List U), vs = [.ref p, .int k, .int m] ∧ Has H (mrkU C p r :: R) ∧ r.wf ∧ 0 ≤ k ∧ k < r.sto.hands ∧ 0 ≤ m ∧ m < 2 ∧ fd r.marks (k, m) = some v ∧ v.st = "sure" ∧
  ∀ H', Has H' (mrkU C p r :: R) → Q (.int (r.sto.vals.getD v.thing.toNat 0)) H'
theorem pure_mread {K : PySem.W.Frag} {C : Addr} (hC : MrkC K C) {vs : List V} {H : Hp} {Q : VK} {E : XK} (h : sp_mread C vs H Q E) : t_Marks_read K C (sp_state_of C) (sp_value_of C) ⟨fun _ H' => Q .non H', Q, fun _ _ => False, fun _ _ => False⟩ (start ["self", "hand", "mark", "state", "cell", "thing"] vs) H := by
  obtain ⟨p, r, k, m, v, R, rfl, hh, w, k0, k1, m0, m1', hf, hs, q⟩ := h
  obtain ⟨⟨cl, n1, n2, n3, n4⟩, m1, m2⟩ := hC
  have hp := (mrk_two.mp hh).g0
  unfold t_Marks_read
  walk_at "go"
  rename_i sa H1 h1
  refine ⟨p, sa, r, k, m, ["sure"], v, R, rfl, h1.sub (Sub.p1 (Sub.p0 Sub.rf)), w, k0, k1, m0, m1', hf, by rw [hs]; exact List.mem_singleton.mpr rfl, fun H2 h2 ht => ?_⟩
  have ht : H2 v.a = some (.tup [.str v.st, .int v.cell, .int v.thing]) := ht
  have hp2 := (mrk_two.mp h2).g0
  refine x_gtup ht rfl ?_
  walk_at "go"
  refine ⟨p, _, r.sto, v.thing, _, rfl, mrk_two.mp h2, mkX_ok, w.su _ (fd_mem hf) hs, ?_⟩
  walk_at "go"
  exact q H2 (h2.sub (Sub.p0 (Sub.skip Sub.rf)))
def sp_clear_mark (C : Addr) : Sp := fun vs H Q _ => ∃ (p : Addr) (r : Mrk) (k m : Int) (v : MV) (R : List U), vs = [.ref p, .int k, .int m] ∧ Has H (mrkU C p r :: R) ∧ r.wf ∧ 0 ≤ k ∧ k < r.sto.hands ∧ 0 ≤ m ∧ m < 2 ∧ fd r.marks (k, m) = some v ∧ v.st ∈ (["fetched", "set", "sure"] : List Str) ∧
  ∀ H', Has H' (mrkU C p (r.unmark k m) :: R) → Q .non H'
theorem pure_clear_mark {K : PySem.W.Frag} {C : Addr} (hC : MrkC K C) {vs : List V} {H : Hp} {Q : VK} {E : XK} (h : sp_clear_mark C vs H Q E) : t_Marks_clear_mark K C (sp_state_of C) ⟨fun _ H' => Q .non H', Q, fun _ _ => False, fun _ _ => False⟩ (start ["self", "hand", "mark"] vs) H := by
  obtain ⟨p, r, k, m, v, R, rfl, hh, w, k0, k1, m0, m1', hf, hs, q⟩ := h
  obtain ⟨⟨cl, n1, n2, n3, n4⟩, m1, m2⟩ := hC
  have hp := (mrk_two.mp hh).g0
  have hv : valV (mv mref r.marks) (k, m) = some (.ref v.a) := mv_some hf
  unfold t_Marks_clear_mark
  walk_at "go"
  rename_i sa H1 h1
  refine ⟨p, sa, r, k, m, ["fetched", "set", "sure"], v, R, rfl, h1.sub (Sub.p1 (Sub.p0 Sub.rf)), w, k0, k1, m0, m1', hf, hs, fun H2 h2 ht => ?_⟩
  have h3 := mrk_cells h2
  clear h1 hh hp h2
  walk_at "go"
  rename_i b1 H4 h4 H5 h5
  exact q H5 (mrk_un (h5.sub (show Sub ([(p, _)] :: [(r.sto.w, _)] :: [(r.sto.c, _)] :: [(r.ma, _)] :: [(r.wa, _)] :: r.bag :: R) _ by walk_at "sub")))
def sp_mafter (C : Addr) : Sp := fun vs H Q _ => ∃ (p : Addr) (r : Mrk) (z : Int) (R : List U), vs = [.ref p, .int z] ∧ Has H (mrkU C p r :: R) ∧ r.waits.length ≤ 1000 ∧
  ∀ H', Has H' (mrkU C p { r with waits := r.waits ++ [z] } :: R) → Q .non H'
theorem pure_mafter {K : PySem.W.Frag} {C : Addr} (hC : MrkC K C) {vs : List V} {H : Hp} {Q : VK} {E : XK} (h : sp_mafter C vs H Q E) : t_Marks_after_swap K ⟨fun _ H' => Q .non H', Q, fun _ _ => False, fun _ _ => False⟩ (start ["self", "thing"] vs) H := by
  obtain ⟨p, r, z, R, rfl, hh, hl, q⟩ := h
  obtain ⟨⟨cl, n1, n2, n3, n4⟩, m1, m2⟩ := hC
  have h3 := mrk_cells hh
  have sz : (r.waits.map V.int).length < sizeLine := by rw [List.length_map, sizeLine_eq]; omega
  clear hh
  unfold t_Marks_after_swap
  walk_at "go"
  rename_i H1 h1
  refine q H1 (mrk_of ?_)
  show Has H1 ([(p, .ins C r.sto.dx (stF (.int r.sto.hands) (.ref r.sto.w) (.ref r.sto.c) (.int r.sto.vals.length) (mkx r)))] :: [(r.sto.w, dI (worthOf r.sto.vals r.sto.kept))] :: [(r.sto.c, .lst (r.sto.cells.map V.int))] ::
      [(r.ma, dP (mv mref r.marks))] :: [(r.wa, .lst ((r.waits ++ [z]).map V.int))] :: r.bag :: R)
  rw [List.map_append]
  exact h1
/-- what bears a mark -/
def bears (m : Mks) : List Int := (m.filter fun q => !decide (q.2.st = ("fetched" : Str))).map fun q => q.2.thing
def sp_marked (C : Addr) : Sp := fun vs H Q _ => ∃ (p : Addr) (r : Mrk) (R : List U), vs = [.ref p] ∧ Has H (mrkU C p r :: R) ∧ r.wf ∧
  ∀ (ys : List Int) (d : Addr) H', ys.Pairwise (· < ·) → (∀ k, k ∈ ys ↔ k ∈ bears r.marks) → Has H' ([(d, .lst (ys.map V.int))] :: mrkU C p r :: R) → Q (.ref d) H'
theorem pure_marked {K : PySem.W.Frag} {C : Addr} (hC : MrkC K C) {vs : List V} {H : Hp} {Q : VK} {E : XK} (h : sp_marked C vs H Q E) : t_Marks_marked K ⟨fun _ H' => Q .non H', Q, fun _ _ => False, fun _ _ => False⟩ (start ["self", "found", "one"] vs) H := by
  obtain ⟨p, r, R, rfl, hh, w, q⟩ := h
  obtain ⟨⟨cl, n1, n2, n3, n4⟩, m1, m2⟩ := hC
  have h3 := mrk_cells hh
  have hl := w.l1
  clear hh
  have key : ∀ z ∈ (mv mref r.marks).map (·.1), ∃ v, fd r.marks z = some v ∧ (z, v) ∈ r.marks := fun z hz => by
    rw [mv_keys] at hz
    obtain ⟨v, hv⟩ := Option.isSome_iff_exists.mp (fd_isSome.mpr hz)
    exact ⟨v, hv, fd_mem hv⟩
  unfold t_Marks_marked
  walk_at "go"
  refine x_asgT (d := r.ma) (fun z => .int (((fd r.marks z).map fun v => v.thing).getD 0)) (fun z => !decide (((fd r.marks z).map fun v => v.st).getD ("" : Str) = ("fetched" : Str))) (fun q z => [some (.ref p), none, some (.ref q)]) (h3.sub (Sub.p3 Sub.rf)) (by rw [mv_len]; omega) (fun q z hz => rfl) (fun oo H' Q' h' q' => ?_) (fun oo q z hz D M H' Q' hq h' q' => ?_) (fun oo q z hz D M H' Q' hq h' q' => ?_) (fun oo q z hz _ D M H' Q' hq h' q' => ?_) fun D H2 h2 => ?_
  · walk_at "go"
    exact q'
  · walk_at "go"
    exact q'
  · obtain ⟨v, hv, hm⟩ := key z hz
    have hv2 : valV (mv mref r.marks) (z.1, z.2) = some (.ref v.a) := mv_some hv
    have ht := at_mv h' (by walk_at "sub") (w.bg _ hm)
    walk_at "go"
    rw [hv] at q'
    exact q' H' hq h'
  · obtain ⟨v, hv, hm⟩ := key z hz
    have hv2 : valV (mv mref r.marks) (z.1, z.2) = some (.ref v.a) := mv_some hv
    have ht := at_mv h' (by walk_at "sub") (w.bg _ hm)
    walk_at "go"
    rw [hv] at q'
    exact q' H' h'
  · have e : ((((mv mref r.marks).map (·.1)).filter fun z => !decide (((fd r.marks z).map fun v => v.st).getD ("" : Str) = ("fetched" : Str))).map fun z => V.int (((fd r.marks z).map fun v => v.thing).getD 0)) = (bears r.marks).map V.int := by
      rw [mv_keys, List.filter_map, List.map_map]
      unfold bears
      rw [List.map_map]
      have ev : ∀ q ∈ r.marks, fd r.marks q.1 = some q.2 := fun q hq => fd_of w.nd (show (q.1, q.2) ∈ r.marks from hq)
      have e1 : (r.marks.filter ((fun z => !decide (((fd r.marks z).map fun v => v.st).getD ("" : Str) = ("fetched" : Str))) ∘ fun x => x.1)) = r.marks.filter fun q => !decide (q.2.st = ("fetched" : Str)) := List.filter_congr fun q hq => by
        show (!decide (((fd r.marks q.1).map fun v => v.st).getD ("" : Str) = ("fetched" : Str))) = _
        rw [ev q hq]
        rfl
      rw [e1]
      refine List.map_congr_left fun q hq => ?_
      show V.int (((fd r.marks q.1).map fun v => v.thing).getD 0) = V.int q.2.thing
      rw [ev q (List.mem_filter.mp hq).1]
      rfl
    rw [e] at h2
    have hb : (bears r.marks).length < 64 := by
      unfold bears
      rw [List.length_map]
      have := List.length_filter_le (fun q : (Int × Int) × MV => !decide (q.2.st = ("fetched" : Str))) r.marks
      omega
    walk_at "go"
    rename_i w2 ys d H3 s1 s2 h4
    refine q ys d H3 s1 s2 ?_
    have h5 := mrk_of (C := C) (p := p) (r := r) (h4.sub (show Sub ([(p, _)] :: [(r.sto.w, _)] :: [(r.sto.c, _)] :: [(r.ma, _)] :: [(r.wa, _)] :: r.bag :: _) _ by walk_at "sub"))
    exact h5.sub (by walk_at "sub")
theorem Has.bagless {H : Hp} {A : U} {L : List U} (h : Has H (A :: L)) : Has H L := h.sub (Sub.skip Sub.rf)
def Mrk.gone (r : Mrk) : List Int := r.waits.filter fun z => !decide (z ∈ bears r.marks)
def Mrk.swept (r : Mrk) : Mrk := { r with sto := r.sto.less r.gone, waits := r.waits.filter fun z => decide (z ∈ bears r.marks) }
def Mrk.at (r : Mrk) (wa : Addr) : Mrk := { r with wa := wa }
theorem Mrk.wf.at {r : Mrk} (w : r.wf) (wa : Addr) : (r.at wa).wf := ⟨w.ok, w.nd, w.kr, w.h6, w.bg, w.cr, w.su, w.nw, w.wk⟩
theorem Mrk.wf.swept {r : Mrk} (w : r.wf) : r.swept.wf where
  ok := w.ok.less fun k hk => (w.wk k (List.mem_filter.mp hk).1).2
  nd := w.nd
  kr := w.kr
  h6 := w.h6
  bg := w.bg
  cr := w.cr
  su := fun q hq hs => by
    have h1 := w.su q hq hs
    refine List.mem_filter.mpr ⟨h1, decide_eq_true fun hg => ?_⟩
    have h2 : ¬ q.2.thing ∈ bears r.marks := by simpa using (List.mem_filter.mp hg).2
    refine h2 (List.mem_map.mpr ⟨q, List.mem_filter.mpr ⟨hq, ?_⟩, rfl⟩)
    rw [hs]
    decide
  nw := List.filter_sublist.nodup w.nw
  wk := fun k hk => by
    obtain ⟨h1, h2⟩ := List.mem_filter.mp hk
    obtain ⟨h3, h4⟩ := w.wk k h1
    refine ⟨List.mem_filter.mpr ⟨h3, decide_eq_true fun hg => ?_⟩, h4⟩
    have h5 : ¬ k ∈ bears r.marks := by simpa using (List.mem_filter.mp hg).2
    exact h5 (of_decide_eq_true h2)
def sp_sweep (C : Addr) : Sp := fun vs H Q _ => ∃ (p : Addr) (r : Mrk) (R : List U), vs = [.ref p] ∧ Has H (mrkU C p r :: R) ∧ r.wf ∧
  ∀ (ys : List Int) (d wa : Addr) H', ys.Perm r.gone → ys.Pairwise (· ≤ ·) → Has H' ([(d, .lst (ys.map V.int))] :: mrkU C p (r.swept.at wa) :: R) → Q (.ref d) H'
theorem pure_sweep {K : PySem.W.Frag} {C : Addr} (hC : MrkC K C) {vs : List V} {H : Hp} {Q : VK} {E : XK} (h : sp_sweep C vs H Q E) : t_Marks_sweep K C (sp_marked C) (sp_let_go C) ⟨fun _ H' => Q .non H', Q, fun _ _ => False, fun _ _ => False⟩ (start ["self", "bear", "found", "thing"] vs) H := by
  obtain ⟨p, r, R, rfl, hh, w, q⟩ := h
  obtain ⟨⟨cl, n1, n2, n3, n4⟩, m1, m2⟩ := hC
  have hp := (mrk_two.mp hh).g0
  have hwl := w.wl
  have hv9 := w.ok.v9
  unfold t_Marks_sweep
  walk_at "go"
  refine ⟨p, r, R, rfl, hh, w, fun bs bd H1 b1 b2 h1 => ?_⟩
  have h2 := mrk_cells (h1.sub (Sub.p1 (Sub.p0 Sub.rf)))
  clear hh hp h1
  have eb : ∀ z, decide (z ∈ bs) = decide (z ∈ bears r.marks) := fun z => by
    by_cases h : z ∈ bs
    · rw [decide_eq_true h, decide_eq_true ((b2 z).mp h)]
    · rw [decide_eq_false h, decide_eq_false fun z => h ((b2 _).mpr z)]
  walk_at "go"
  refine k_lcF r.waits V.int V.int (fun z => !decide (z ∈ bears r.marks)) h2 (fun H' h' => by walk_at "hp") (by omega) (fun z hz D M H' Q' h' q' => ?_) (fun z hz _ D M H' Q' h' q' => ?_) fun f H3 h3 => ?_
  · walk_at "go"
    rw [eb]
    exact q' H' h'
  · walk_at "go"
    exact q' H' h'
  walk_at "go"
  refine k_lcF r.waits V.int V.int (fun z => decide (z ∈ bears r.marks)) h3 (fun H' h' => by walk_at "hp") (by omega) (fun z hz D M H' Q' h' q' => ?_) (fun z hz _ D M H' Q' h' q' => ?_) fun wa H4 h4 => ?_
  · walk_at "go"
    rw [eb]
    exact q' H' h'
  · walk_at "go"
    exact q' H' h'
  clear h2 h3
  walk_at "go"
  rename_i H5 h5
  have h6 := Has.glue2 (h5.sub (show Sub ([(p, .ins C r.sto.dx (stF (.int r.sto.hands) (.ref r.sto.w) (.ref r.sto.c) (.int r.sto.vals.length) (mkX (.ref r.ma) (.ref wa))))] :: [(r.sto.w, dI (worthOf r.sto.vals r.sto.kept))] :: [(r.sto.c, .lst (r.sto.cells.map V.int))] :: _) _ by walk_at "sub"))
  refine ⟨p, f, _, r.sto, r.gone, _, rfl, h6.sub (show Sub (stoU C p (mkX (.ref r.ma) (.ref wa)) r.sto :: [(f, .lst (r.gone.map V.int))] :: _) _ by walk_at "sub"), mkX_ok, List.filter_sublist.nodup w.nw, fun k hk => (w.wk k (List.mem_filter.mp hk).1).1, fun ys d H7 p1 p2 h7 => ?_⟩
  walk_at "go"
  refine q ys d wa H7 p1 p2 ?_
  have h8 := Has.glue2 (h7.sub (show Sub ([(r.ma, dP (mv mref r.marks))] :: [(wa, .lst ((r.waits.filter fun z => decide (z ∈ bears r.marks)).map V.int))] :: r.bag :: _) _ by walk_at "sub"))
  have h9 := mrk_two (C := C) (p := p) (r := r.swept.at wa) |>.mpr (h8.sub (show Sub (stoU C p (mkX (.ref r.ma) (.ref wa)) (r.sto.less r.gone) :: _ :: _) _ by walk_at "sub"))
  exact h9.sub (by walk_at "sub")
/-- a swap, as the laws use it -/
def Mrk.swap (r : Mrk) (i v : Int) : Mrk := { r with sto := r.sto.swap i v, waits := r.waits ++ [r.sto.cells.getD i.toNat 0] }
def okM (r : Mrk) : Prop := r.wf ∧ r.sto.vals.length < 1000
abbrev sp_swapM (C : Addr) : Sp := sp_swap C (sp_mafter C)
abbrev sp_law_swapM (C : Addr) : Sp := sp__law_swap (mrkU C) (fun r => r.sto.cells) (fun r => r.sto.vals) Mrk.swap okM
theorem hob_M {C : Addr} : ∀ p (r : Mrk) R H, Has H (mrkU C p r :: R) → ∃ dx fs, H p = some (.ins C dx fs) ∧ fs.lookup ("swap" : Str) = none := fun p r R H h => ⟨_, _, (mrk_two.mp h).g0, mkX_ok.f4⟩
theorem hsw_M {C : Addr} : ∀ p (r : Mrk) (i v : Int) R H (Q : VK), Has H (mrkU C p r :: R) → okM r → 0 ≤ i → i < r.sto.cells.length → 0 ≤ v → v ≤ 999 → (∀ H', Has H' (mrkU C p (r.swap i v) :: R) → Q (.int (r.sto.cells.getD i.toNat 0)) H') → sp_swapM C [.ref p, .int i, .int v] H Q E0 :=
  fun p r i v R H Q h ok i0 i1 v0 v1 q => ⟨p, _, r.sto, i, v, _, rfl, mrk_two.mp h, mkX_ok, ok.1.ok, ok.2, i0, i1, v0, v1, fun H' Q' h' k => ⟨p, { r with sto := r.sto.swap i v }, _, R, rfl, mrk_two.mpr h', Nat.le_trans ok.1.wl (Nat.le_of_lt ok.2), fun H2 h2 => k _ _ (q H2 h2)⟩⟩
theorem Mrk.wf.swap {r : Mrk} (w : r.wf) {i v : Int} (i0 : 0 ≤ i) (i1 : i < r.sto.cells.length) (hv : r.sto.vals.length < 1000) : (r.swap i v).wf where
  ok := w.ok.swap i0 i1 hv
  nd := w.nd
  kr := w.kr
  h6 := w.h6
  bg := w.bg
  cr := fun q hq => by
    show _ ∧ q.2.cell < ((r.sto.cells.set _ _).length : Nat)
    rw [List.length_set]
    exact w.cr q hq
  su := fun q hq hs => List.mem_append.mpr (.inl (w.su q hq hs))
  nw := by
    refine nodup_snoc w.nw fun hm => ?_
    exact (w.wk _ hm).2 (getD_mem (by omega))
  wk := fun j hj => by
    have hnew : (r.sto.vals.length : Int) ∉ r.sto.kept := fun hk => by
      obtain ⟨_, h1⟩ := w.ok.made _ hk
      omega
    have hnc : (r.sto.vals.length : Int) ∉ r.sto.cells := fun hk => hnew (w.ok.here _ hk)
    show j ∈ r.sto.kept ++ [_] ∧ j ∉ r.sto.cells.set _ _
    rcases List.mem_append.mp hj with q | q
    · obtain ⟨h1, h2⟩ := w.wk j q
      refine ⟨List.mem_append.mpr (.inl h1), fun z => ?_⟩
      rcases List.mem_or_eq_of_mem_set z with e | e
      · exact h2 e
      · exact hnew (e ▸ h1)
    · have hlt : i.toNat < r.sto.cells.length := by omega
      rw [List.mem_singleton.mp q]
      exact ⟨List.mem_append.mpr (.inl (w.ok.here _ (getD_mem hlt))), set_old w.ok.cnd hnc hlt⟩
end La
namespace La
open PySem L2 Sy
local macro_rules | `(tactic| walk_at "fl") => `(tactic| first | assumption | exact stF_hands | exact stF_worth | exact stF_cells | exact stF_made | exact StX.f1 (by assumption) | exact StX.f2 (by assumption) | exact StX.f3 (by assumption) | exact StX.f4 (by assumption) | exact StX.f5 (by assumption) | exact StX.f6 (by assumption) | exact StX.f7 (by assumption) | exact StX.f8 (by assumption) | exact StX.f9 (by assumption))
local macro_rules | `(tactic| walk_at "fsl") => `(tactic| first | assumption | exact StX.fl (by assumption))
local macro_rules | `(tactic| walk_at "put") => `(tactic| first | exact stF_put_made | exact stF_put_cells | exact stF_put_worth | exact stF_put_hands)
def t_Counts_init (K : PySem.W.Frag) (C_Store : Addr) (sp_Counts__Store_init : Sp) : TS :=
  tSeq (tDrop (tCFn C_Store sp_Counts__Store_init [] E0 (tC (.ref C_Store)) (tCons (tVar 0) (tCons (tVar 1) (tCons (tVar 2) (tNil))))))
    (sFld K (tVar 0) (tDNewT) "held")
def t_Counts_count_of (K : PySem.W.Frag) : TS :=
  tRet (tCB (rSum K) (tCons (tLockE (tLc (iKeys (tFld K (tVar 0) "held")) (gName 2) (tTest (tOp rEq (tOp (rIxT K) (tVar 2) (tC (.int 1))) (tVar 1))) (tDGet (tFld K (tVar 0) "held") (tVar 2)) [2])) (tNil)))
def t_Counts_hold (K : PySem.W.Frag) (C_Counts : Addr) (sp_Counts__Store_look_hand sp_Counts__Store_look_cell : Sp) : TS :=
  tSeq (tDrop (tMeth C_Counts "look_hand" sp_Counts__Store_look_hand [] E0 (tVar 0) (tCons (tVar 1) (tNil))))
    (tSeq (tDrop (tMeth C_Counts "look_cell" sp_Counts__Store_look_cell [] E0 (tVar 0) (tCons (tVar 2) (tNil))))
    (tSeq (tAsg (tOp (rIxL K) (tFld K (tVar 0) "cells") (tVar 2)) (gName 3))
    (tSeq (sDPut (tFld K (tVar 0) "held") (tTup (tCons (tVar 1) (tCons (tVar 3) (tNil)))) (tOp rAddI (tDGet2 (tFld K (tVar 0) "held") (tTup (tCons (tVar 1) (tCons (tVar 3) (tNil)))) (tC (.int 0))) (tC (.int 1))))
    (tRet (tVar 3)))))
def t_Counts_look_held (K : PySem.W.Frag) (C_Counts : Addr) (sp_Counts__Store_look_hand : Sp) : TS :=
  tSeq (tDrop (tMeth C_Counts "look_hand" sp_Counts__Store_look_hand [] E0 (tVar 0) (tCons (tVar 1) (tNil))))
    (tIfS (tOr (tB (tCB (rIsi K) (tCons (tVar 2) (tCons (tC (.ty "bool")) (tNil))))) (tOr (tNot (tB (tCB (rIsi K) (tCons (tVar 2) (tCons (tC (.ty "int")) (tNil)))))) (tB (tDNotIn (tTup (tCons (tVar 1) (tCons (tVar 2) (tNil)))) (tFld K (tVar 0) "held"))))) (tNever) (tNext))
def t_Counts_read (K : PySem.W.Frag) (C_Counts : Addr) (sp_Counts__Counts_look_held sp_Counts__Store_value_of : Sp) : TS :=
  tSeq (tDrop (tMeth C_Counts "look_held" sp_Counts__Counts_look_held [] E0 (tVar 0) (tCons (tVar 1) (tCons (tVar 2) (tNil)))))
    (tRet (tMeth C_Counts "value_of" sp_Counts__Store_value_of [] E0 (tVar 0) (tCons (tVar 2) (tNil))))
def t_Counts_drop (K : PySem.W.Frag) (C_Counts : Addr) (sp_Counts__Counts_look_held sp_Counts__Counts_loose : Sp) : TS :=
  tSeq (tDrop (tMeth C_Counts "look_held" sp_Counts__Counts_look_held [] E0 (tVar 0) (tCons (tVar 1) (tCons (tVar 2) (tNil)))))
    (tSeq (sDPut (tFld K (tVar 0) "held") (tTup (tCons (tVar 1) (tCons (tVar 2) (tNil)))) (tOp rSubI (tDGet (tFld K (tVar 0) "held") (tTup (tCons (tVar 1) (tCons (tVar 2) (tNil))))) (tC (.int 1))))
    (tSeq (tIfS (tTest (tOp rEq (tDGet (tFld K (tVar 0) "held") (tTup (tCons (tVar 1) (tCons (tVar 2) (tNil))))) (tC (.int 0)))) (tDrop (tDPopT (tFld K (tVar 0) "held") (tTup (tCons (tVar 1) (tCons (tVar 2) (tNil)))))) (tNext))
    (tRet (tMeth C_Counts "loose" sp_Counts__Counts_loose [] E0 (tVar 0) (tCons (tVar 2) (tNil))))))
def t_Counts_loose (K : PySem.W.Frag) (C_Counts : Addr) (sp_Counts__Counts_count_of sp_Counts__Store_is_out sp_Counts__Store_let_go : Sp) : TS :=
  tSeq (tIfS (tOr (tTest (tOp rGtI (tMeth C_Counts "count_of" sp_Counts__Counts_count_of [] E0 (tVar 0) (tCons (tVar 1) (tNil))) (tC (.int 0)))) (tNot (tB (tMeth C_Counts "is_out" sp_Counts__Store_is_out [] E0 (tVar 0) (tCons (tVar 1) (tNil)))))) (tRet (tC (.bl false))) (tNext))
    (tSeq (tDrop (tMeth C_Counts "let_go" sp_Counts__Store_let_go [] E0 (tVar 0) (tCons (tLst (tCons (tVar 1) (tNil))) (tNil))))
    (tRet (tC (.bl true))))
def t_Counts_after_swap (K : PySem.W.Frag) (C_Counts : Addr) (sp_Counts__Counts_loose : Sp) : TS :=
  tDrop (tMeth C_Counts "loose" sp_Counts__Counts_loose [] E0 (tVar 0) (tCons (tVar 1) (tNil)))
def t_Counts_holds (K : PySem.W.Frag) (C_Counts : Addr) (sp_Counts__Store_look_hand : Sp) : TS :=
  tSeq (tDrop (tMeth C_Counts "look_hand" sp_Counts__Store_look_hand [] E0 (tVar 0) (tCons (tVar 1) (tNil))))
    (tRet (tCB (rSortedPO K) (tCons (tLockE (tLc (iKeys (tFld K (tVar 0) "held")) (gTup K 2 (gCons (gName 2) (gCons (gName 3) (gNil)))) (tTest (tOp rEq (tVar 2) (tVar 1))) (tTup (tCons (tVar 3) (tCons (tDGet (tFld K (tVar 0) "held") (tTup (tCons (tVar 2) (tCons (tVar 3) (tNil))))) (tNil)))) [2, 3])) (tNil))))
def ctX (v0 : V) : List (Str × V) := [("held", v0)]
theorem ct_held {h w c m v0 : V} : (stF h w c m (ctX v0)).lookup ("held" : Str) = some v0 := by kernel_rfl
theorem ct_put_held {h w c m v0 u : V} : putF "held" u (stF h w c m (ctX v0)) = stF h w c m (ctX u) := by kernel_rfl
theorem ct_m_count_of {h w c m v0 : V} : (stF h w c m (ctX v0)).lookup ("count_of" : Str) = none := by kernel_rfl
theorem ct_m_hold {h w c m v0 : V} : (stF h w c m (ctX v0)).lookup ("hold" : Str) = none := by kernel_rfl
theorem ct_m_look_held {h w c m v0 : V} : (stF h w c m (ctX v0)).lookup ("look_held" : Str) = none := by kernel_rfl
theorem ct_m_read {h w c m v0 : V} : (stF h w c m (ctX v0)).lookup ("read" : Str) = none := by kernel_rfl
theorem ct_m_drop {h w c m v0 : V} : (stF h w c m (ctX v0)).lookup ("drop" : Str) = none := by kernel_rfl
theorem ct_m_loose {h w c m v0 : V} : (stF h w c m (ctX v0)).lookup ("loose" : Str) = none := by kernel_rfl
theorem ct_m_holds {h w c m v0 : V} : (stF h w c m (ctX v0)).lookup ("holds" : Str) = none := by kernel_rfl
theorem ctX_ok {v0 : V} : StX (ctX v0) := ⟨by show 1 < 900; decide, by kernel_rfl, by kernel_rfl, by kernel_rfl, by kernel_rfl, by kernel_rfl, by kernel_rfl, by kernel_rfl, by kernel_rfl, by kernel_rfl⟩
theorem ct_p1 {h w c m  u : V} : putF "held" u (stF h w c m []) = stF h w c m (ctX u) := by kernel_rfl
local macro_rules | `(tactic| walk_at "fl") => `(tactic| first | assumption | exact stF_hands | exact stF_worth | exact stF_cells | exact stF_made | exact ct_held | exact ct_m_count_of | exact ct_m_hold | exact ct_m_look_held | exact ct_m_read | exact ct_m_drop | exact ct_m_loose | exact ct_m_holds | exact StX.f1 ctX_ok | exact StX.f2 ctX_ok | exact StX.f3 ctX_ok | exact StX.f4 ctX_ok | exact StX.f5 ctX_ok | exact StX.f6 ctX_ok | exact StX.f7 ctX_ok | exact StX.f8 ctX_ok | exact StX.f9 ctX_ok)
local macro_rules | `(tactic| walk_at "put") => `(tactic| first | exact ct_put_held | exact stF_put_made | exact stF_put_cells | exact stF_put_worth | exact stF_put_hands)
local macro_rules | `(tactic| walk_at "fsl") => `(tactic| first | assumption | exact StX.fl ctX_ok)
/-! ### counts -/
structure CntC (K : PySem.W.Frag) (C : Addr) : Prop where
  st : StoreC K C
  n1 : NoAttr K C "held"
abbrev Hld := List ((Int × Int) × Int)
structure Cnt where
  sto : Sto
  ha : Addr
  held : Hld
abbrev ctx (r : Cnt) : List (Str × V) := ctX (.ref r.ha)
def cdU (r : Cnt) : U := [(r.ha, dP (mv V.int r.held))]
def cntU (C p : Addr) (r : Cnt) : U := stoU C p (ctx r) r.sto ++ cdU r
theorem cnt_two {H : Hp} {C p : Addr} {r : Cnt} {R : List U} : Has H (cntU C p r :: R) ↔ Has H (stoU C p (ctx r) r.sto :: cdU r :: R) := Has.op
theorem cnt_cells {H : Hp} {C p : Addr} {r : Cnt} {R : List U} (h : Has H (cntU C p r :: R)) :
    Has H ([(p, .ins C r.sto.dx (stF (.int r.sto.hands) (.ref r.sto.w) (.ref r.sto.c) (.int r.sto.vals.length) (ctx r)))] :: [(r.sto.w, dI (worthOf r.sto.vals r.sto.kept))] :: [(r.sto.c, .lst (r.sto.cells.map V.int))] :: [(r.ha, dP (mv V.int r.held))] :: R) := (cnt_two.mp h).cut2
theorem cnt_of {H : Hp} {C p : Addr} {r : Cnt} {R : List U} (h :
    Has H ([(p, .ins C r.sto.dx (stF (.int r.sto.hands) (.ref r.sto.w) (.ref r.sto.c) (.int r.sto.vals.length) (ctx r)))] :: [(r.sto.w, dI (worthOf r.sto.vals r.sto.kept))] :: [(r.sto.c, .lst (r.sto.cells.map V.int))] :: [(r.ha, dP (mv V.int r.held))] :: R)) : Has H (cntU C p r :: R) := cnt_two.mpr (Has.glue2 h)
/-- what is held of a thing in all -/
def tot (m : Hld) (z : Int) : Int := ((m.filter fun q => decide (q.1.2 = z)).map (·.2)).sum
structure Cnt.wf (r : Cnt) : Prop where
  ok : r.sto.ok
  nd : (r.held.map (·.1)).Nodup
  kr : ∀ q ∈ r.held, 0 ≤ q.1.1 ∧ q.1.1 < r.sto.hands
  ps : ∀ q ∈ r.held, 1 ≤ q.2
  hk : ∀ q ∈ r.held, q.1.2 ∈ r.sto.kept
  ll : r.held.length ≤ 1000
theorem tot_pos {m : Hld} (ps : ∀ q ∈ m, 1 ≤ q.2) (z : Int) : (0 < tot m z ↔ ∃ q ∈ m, q.1.2 = z) ∧ 0 ≤ tot m z := by
  induction m with
  | nil => exact ⟨⟨fun h => absurd h (show ¬ (0 : Int) < 0 by decide), fun ⟨q, hq, _⟩ => absurd hq List.not_mem_nil⟩, Int.le_refl _⟩
  | cons a r ih =>
    obtain ⟨i1, i2⟩ := ih fun q hq => ps q (List.mem_cons_of_mem _ hq)
    have h1 := ps a (List.mem_cons.mpr (.inl rfl))
    unfold tot at i1 i2 ⊢
    by_cases e : a.1.2 = z
    · rw [List.filter_cons, if_pos (decide_eq_true e), List.map_cons, List.sum_cons]
      exact ⟨⟨fun _ => ⟨a, List.mem_cons.mpr (.inl rfl), e⟩, fun _ => by omega⟩, by omega⟩
    · rw [List.filter_cons, if_neg (by simp [e])]
      refine ⟨i1.trans ⟨fun ⟨q, hq, h⟩ => ⟨q, List.mem_cons_of_mem _ hq, h⟩, fun ⟨q, hq, h⟩ => ?_⟩, i2⟩
      rcases List.mem_cons.mp hq with h2 | h2
      · exact absurd (h2 ▸ h) e
      · exact ⟨q, h2, h⟩
def Cnt.new (s : Sto) (ha : Addr) : Cnt := ⟨s, ha, []⟩
def sp_cinit (C : Addr) : Sp := fun vs H Q _ => ∃ (p dx : Addr) (h n : Int) (R : List U), vs = [.ref p, .int h, .int n] ∧ Has H ([(p, .ins C dx [])] :: R) ∧ 1 ≤ h ∧ h ≤ 6 ∧ 1 ≤ n ∧ n ≤ 5 ∧
  ∀ w c ha H', Has H' (cntU C p (Cnt.new (Sto.new dx w c h n) ha) :: R) → Q .non H'
section
local macro_rules | `(tactic| walk_at "put") => `(tactic| first | exact ct_p1)
local macro_rules | `(tactic| walk_at "fsl") => `(tactic| first | assumption | (show 4 < 1000; decide))
theorem pure_cinit {K : PySem.W.Frag} {C CS : Addr} (hC : CntC K C) {vs : List V} {H : Hp} {Q : VK} {E : XK} (h : sp_cinit C vs H Q E) : t_Counts_init K CS (sp_init C) ⟨fun _ H' => Q .non H', Q, fun _ _ => False, fun _ _ => False⟩ (start ["self", "hands", "cells"] vs) H := by
  obtain ⟨p, dx, h, n, R, rfl, hh, h1, h6, n1', n5, q⟩ := h
  obtain ⟨⟨cl, n1, n2, n3, n4⟩, m1⟩ := hC
  unfold t_Counts_init
  walk_at "go"
  refine ⟨p, dx, h, n, R, rfl, hh, h1, h6, n1', n5, fun w c H1 hh1 => ?_⟩
  replace hh1 := hh1.cut2
  walk_at "go"
  rename_i ha H3 h3 H4 h4
  refine q w c ha H4 (cnt_of (Has.sub h4 ?_))
  show Sub ([(p, .ins C dx (stF (.int h) (.ref w) (.ref c) (.int (Sto.new dx w c h n).vals.length) (ctX (.ref ha))))] :: [(w, dI (worthOf (Sto.new dx w c h n).vals (rgI n)))] :: [(c, .lst ((rgI n).map V.int))] :: [(ha, dP [])] :: R) _
  walk_at "sub"
end
theorem Cnt.new_wf {dx w c ha : Addr} {h n : Int} (h1 : 1 ≤ n) (h5 : n ≤ 5) : (Cnt.new (Sto.new dx w c h n) ha).wf :=
  ⟨Sto.new_ok h1 h5, List.nodup_nil, fun k hk => absurd hk List.not_mem_nil, fun k hk => absurd hk List.not_mem_nil, fun k hk => absurd hk List.not_mem_nil, Nat.zero_le _⟩
def sp_is_out (C : Addr) : Sp := fun vs H Q _ => ∃ (p : Addr) (x : List (Str × V)) (s : Sto) (z : Int) (R : List U), vs = [.ref p, .int z] ∧ Has H (stoU C p x s :: R) ∧ StX x ∧ Q (.bl (!decide (z ∈ s.cells))) H
section
local macro_rules | `(tactic| walk_at "fl") => `(tactic| first | assumption | exact stF_hands | exact stF_worth | exact stF_cells | exact stF_made)
theorem pure_is_out {K : PySem.W.Frag} {C : Addr} (hC : StoreC K C) {vs : List V} {H : Hp} {Q : VK} {E : XK} (h : sp_is_out C vs H Q E) : t_Store_is_out K ⟨fun _ H' => Q .non H', Q, fun _ _ => False, fun _ _ => False⟩ (start ["self", "thing"] vs) H := by
  obtain ⟨p, x, s, z, R, rfl, hh, hx, q⟩ := h
  obtain ⟨cl, n1, n2, n3, n4⟩ := hC
  replace hh := hh.cut2
  unfold t_Store_is_out
  walk_at "go"
  exact q
end
def sp_count_of (C : Addr) : Sp := fun vs H Q _ => ∃ (p : Addr) (r : Cnt) (z : Int) (R : List U), vs = [.ref p, .int z] ∧ Has H (cntU C p r :: R) ∧ (r.held.map (·.1)).Nodup ∧ r.held.length ≤ 1000 ∧
  ∀ H', Has H' (cntU C p r :: R) → Q (.int (tot r.held z)) H'
theorem pure_count_of {K : PySem.W.Frag} {C : Addr} (hC : CntC K C) {vs : List V} {H : Hp} {Q : VK} {E : XK} (h : sp_count_of C vs H Q E) : t_Counts_count_of K ⟨fun _ H' => Q .non H', Q, fun _ _ => False, fun _ _ => False⟩ (start ["self", "thing", "one"] vs) H := by
  obtain ⟨p, r, z, R, rfl, hh, nd, hl, q⟩ := h
  obtain ⟨⟨cl, n1, n2, n3, n4⟩, m1⟩ := hC
  have h3 := cnt_cells hh
  clear hh
  unfold t_Counts_count_of
  walk_at "go"
  refine x_lcT (d := r.ha) (fun k => .int ((fd r.held k).getD 0)) (fun k => decide (k.2 = z)) (fun q k => [some (.ref p), some (.int z), some (.ref q)]) (h3.sub (Sub.p3 Sub.rf)) (by rw [mv_len]; omega) (fun q z hz => rfl) (fun oo H' Q' h' q' => ?_) (fun oo q k hz D M H' Q' hq h' q' => ?_) (fun oo q k hz D M H' Q' hq h' q' => ?_) (fun oo q k hz _ D M H' Q' hq h' q' => ?_) fun D H2 h2 => ?_
  · walk_at "go"
    exact q'
  · walk_at "go"
    exact q'
  · walk_at "go"
    exact q' H' hq h'
  · rw [mv_keys] at hz
    obtain ⟨v, hv⟩ := Option.isSome_iff_exists.mp (fd_isSome.mpr hz)
    have hv2 : valV (mv V.int r.held) (k.1, k.2) = some (.int v) := mv_some hv
    walk_at "go"
    rw [hv] at q'
    exact q' H' h'
  · have e : ((((mv V.int r.held).map (·.1)).filter fun k => decide (k.2 = z)).map fun k => V.int ((fd r.held k).getD 0)) = ((r.held.filter fun q => decide (q.1.2 = z)).map (·.2)).map V.int := by
      rw [mv_keys, List.filter_map, List.map_map, List.map_map]
      refine List.map_congr_left fun q hq => ?_
      show V.int ((fd r.held q.1).getD 0) = V.int q.2
      rw [fd_of nd (show (q.1, q.2) ∈ r.held from (List.mem_filter.mp hq).1)]
      rfl
    rw [e] at h2
    walk_at "go"
    refine q H2 ?_
    exact cnt_of (h2.sub (show Sub ([(p, _)] :: [(r.sto.w, _)] :: [(r.sto.c, _)] :: [(r.ha, _)] :: R) _ by walk_at "sub"))
def sp_hold (C : Addr) : Sp := fun vs H Q _ => ∃ (p : Addr) (r : Cnt) (k c : Int) (R : List U), vs = [.ref p, .int k, .int c] ∧ Has H (cntU C p r :: R) ∧ r.held.length < 1000 ∧ 0 ≤ k ∧ k < r.sto.hands ∧ 0 ≤ c ∧ c < r.sto.cells.length ∧
  ∀ H', Has H' (cntU C p { r with held := pu r.held (k, r.sto.cells.getD c.toNat 0) ((fd r.held (k, r.sto.cells.getD c.toNat 0)).getD 0 + 1) } :: R) → Q (.int (r.sto.cells.getD c.toNat 0)) H'
theorem pure_hold {K : PySem.W.Frag} {C : Addr} (hC : CntC K C) {vs : List V} {H : Hp} {Q : VK} {E : XK} (h : sp_hold C vs H Q E) : t_Counts_hold K C (sp_look_hand C) (sp_look_cell C) ⟨fun _ H' => Q .non H', Q, fun _ _ => False, fun _ _ => False⟩ (start ["self", "hand", "cell", "thing"] vs) H := by
  obtain ⟨p, r, k, c, R, rfl, hh, hl, k0, k1, c0, c1, q⟩ := h
  obtain ⟨⟨cl, n1, n2, n3, n4⟩, m1⟩ := hC
  have h2 := cnt_two.mp hh
  have h3 := cnt_cells hh
  have e1 : (mv V.int r.held).length < sizeLine := by rw [mv_len, sizeLine_eq]; omega
  have ea := at_ints c0 c1
  unfold t_Counts_hold
  walk_at "go"
  refine ⟨p, _, r.sto, k, _, rfl, h2, ctX_ok, k0, k1, ?_⟩
  walk_at "go"
  refine ⟨p, _, r.sto, c, _, rfl, h2, ctX_ok, c0, c1, ?_⟩
  clear hh h2
  walk_at "go"
  rename_i b1 H1 g1
  have ev : (valV (mv V.int r.held) (k, r.sto.cells.getD c.toNat 0)).getD (.int 0) = .int ((fd r.held (k, r.sto.cells.getD c.toNat 0)).getD 0) := by
    rw [mv_val]
    cases fd r.held (k, r.sto.cells.getD c.toNat 0) <;> rfl
  rw [ev]
  walk_at "go"
  rename_i b2 H2 g2 H3 g3
  refine q H3 (cnt_of ?_)
  rw [show V.int ((fd r.held (k, r.sto.cells.getD c.toNat 0)).getD 0 + 1) = V.int ((fd r.held (k, r.sto.cells.getD c.toNat 0)).getD 0 + 1) from rfl, mv_put] at g3
  exact g3.sub (show Sub ([(p, _)] :: [(r.sto.w, _)] :: [(r.sto.c, _)] :: [(r.ha, _)] :: R) _ by walk_at "sub")
def sp_look_held (C : Addr) : Sp := fun vs H Q _ => ∃ (p : Addr) (r : Cnt) (k z : Int) (R : List U), vs = [.ref p, .int k, .int z] ∧ Has H (cntU C p r :: R) ∧ 0 ≤ k ∧ k < r.sto.hands ∧ (fd r.held (k, z)).isSome = true ∧ ∀ H', Has H' (cntU C p r :: R) → Q .non H'
theorem pure_look_held {K : PySem.W.Frag} {C : Addr} (hC : CntC K C) {vs : List V} {H : Hp} {Q : VK} {E : XK} (h : sp_look_held C vs H Q E) : t_Counts_look_held K C (sp_look_hand C) ⟨fun _ H' => Q .non H', Q, fun _ _ => False, fun _ _ => False⟩ (start ["self", "hand", "thing"] vs) H := by
  obtain ⟨p, r, k, z, R, rfl, hh, k0, k1, hi, q⟩ := h
  obtain ⟨⟨cl, n1, n2, n3, n4⟩, m1⟩ := hC
  have h2 := cnt_two.mp hh
  have h3 := cnt_cells hh
  unfold t_Counts_look_held
  walk_at "go"
  refine ⟨p, _, r.sto, k, _, rfl, h2, ctX_ok, k0, k1, ?_⟩
  clear hh h2
  walk_at "go"
  rename_i b1 H1 g1
  rw [mv_isSome, hi]
  walk_at "go"
  exact q H1 (cnt_of (g1.sub (Sub.skip Sub.rf)))
def sp_cread (C : Addr) : Sp := fun vs H Q _ => ∃ (p : Addr) (r : Cnt) (k z : Int) (R : List U), vs = [.ref p, .int k, .int z] ∧ Has H (cntU C p r :: R) ∧ 0 ≤ k ∧ k < r.sto.hands ∧ (fd r.held (k, z)).isSome = true ∧ z ∈ r.sto.kept ∧ ∀ H', Has H' (cntU C p r :: R) → Q (.int (r.sto.vals.getD z.toNat 0)) H'
theorem pure_cread {K : PySem.W.Frag} {C : Addr} (hC : CntC K C) {vs : List V} {H : Hp} {Q : VK} {E : XK} (h : sp_cread C vs H Q E) : t_Counts_read K C (sp_look_held C) (sp_value_of C) ⟨fun _ H' => Q .non H', Q, fun _ _ => False, fun _ _ => False⟩ (start ["self", "hand", "thing"] vs) H := by
  obtain ⟨p, r, k, z, R, rfl, hh, k0, k1, hi, hz, q⟩ := h
  obtain ⟨⟨cl, n1, n2, n3, n4⟩, m1⟩ := hC
  have hp := (cnt_two.mp hh).g0
  unfold t_Counts_read
  walk_at "go"
  refine ⟨p, r, k, z, _, rfl, hh, k0, k1, hi, fun H1 h1 => ?_⟩
  have hp := (cnt_two.mp h1).g0
  walk_at "go"
  refine ⟨p, _, r.sto, z, _, rfl, cnt_two.mp h1, ctX_ok, hz, ?_⟩
  walk_at "go"
  exact q H1 h1
def sp_loose (C : Addr) : Sp := fun vs H Q _ => ∃ (p : Addr) (r : Cnt) (z : Int) (R : List U), vs = [.ref p, .int z] ∧ Has H (cntU C p r :: R) ∧ (r.held.map (·.1)).Nodup ∧ r.held.length ≤ 1000 ∧ (∀ q ∈ r.held, 1 ≤ q.2) ∧ z ∈ r.sto.kept ∧
  (((∃ q ∈ r.held, q.1.2 = z) ∨ z ∈ r.sto.cells) → ∀ H', Has H' (cntU C p r :: R) → Q (.bl false) H') ∧
  (¬ ((∃ q ∈ r.held, q.1.2 = z) ∨ z ∈ r.sto.cells) → ∀ H', Has H' (cntU C p { r with sto := r.sto.less [z] } :: R) → Q (.bl true) H')
theorem pure_loose {K : PySem.W.Frag} {C : Addr} (hC : CntC K C) {vs : List V} {H : Hp} {Q : VK} {E : XK} (h : sp_loose C vs H Q E) : t_Counts_loose K C (sp_count_of C) (sp_is_out C) (sp_let_go C) ⟨fun _ H' => Q .non H', Q, fun _ _ => False, fun _ _ => False⟩ (start ["self", "thing"] vs) H := by
  obtain ⟨p, r, z, R, rfl, hh, nd, hl, ps, hz, q1, q2⟩ := h
  obtain ⟨⟨cl, n1, n2, n3, n4⟩, m1⟩ := hC
  have hp := (cnt_two.mp hh).g0
  obtain ⟨t1, t2⟩ := tot_pos ps z
  unfold t_Counts_loose
  walk_at "go"
  refine ⟨p, r, z, _, rfl, hh, nd, hl, fun H1 h1 => ?_⟩
  have hp := (cnt_two.mp h1).g0
  walk_at "go"
  refine ifD (fun b1 => ?_) (fun b1 => ?_)
  · walk_at "go"
    exact q1 (.inl (t1.mp b1)) H1 h1
  · walk_at "go"
    refine ⟨p, _, r.sto, z, _, rfl, cnt_two.mp h1, ctX_ok, ?_⟩
    by_cases hc : z ∈ r.sto.cells
    · rw [decide_eq_true hc, show (!true) = false from rfl]
      walk_at "go"
      exact q1 (.inr hc) H1 h1
    · rw [decide_eq_false hc, show (!false) = true from rfl]
      walk_at "go"
      rename_i f H2 h2
      have h3 := cnt_two.mp (h2.sub (show Sub (cntU C p r :: _) _ by walk_at "sub"))
      refine ⟨p, f, _, r.sto, [z], _, rfl, h3.sub (show Sub (stoU C p (ctx r) r.sto :: [(f, _)] :: _) _ by walk_at "sub"), ctX_ok, List.pairwise_singleton _ _, fun k hk => by rw [List.mem_singleton.mp hk]; exact hz, fun ys d H4 _ _ h4 => ?_⟩
      walk_at "go"
      refine q2 (fun h => ?_) H4 ?_
      · rcases h with h | h
        · exact b1 (t1.mpr h)
        · exact hc h
      · have h5 := (cnt_two (C := C) (p := p) (r := { r with sto := r.sto.less [z] })).mpr (h4.sub (show Sub (stoU C p (ctx r) (r.sto.less [z]) :: cdU r :: R) _ by walk_at "sub"))
        exact h5
def sp_cafter (C : Addr) : Sp := fun vs H Q E => ∃ (p : Addr) (z : Int), vs = [.ref p, .int z] ∧ sp_loose C vs H (fun _ H' => Q .non H') E
theorem pure_cafter {K : PySem.W.Frag} {C : Addr} (hC : CntC K C) {vs : List V} {H : Hp} {Q : VK} {E : XK} (h : sp_cafter C vs H Q E) : t_Counts_after_swap K C (sp_loose C) ⟨fun _ H' => Q .non H', Q, fun _ _ => False, fun _ _ => False⟩ (start ["self", "thing"] vs) H := by
  obtain ⟨p0, z0, e, p, r, z, R, rfl, hh, nd, hl, ps, hz, q1, q2⟩ := h
  have hp := (cnt_two.mp hh).g0
  unfold t_Counts_after_swap
  walk_at "go"
  refine ⟨p, r, z, R, rfl, hh, nd, hl, ps, hz, fun h H' h' => ?_, fun h H' h' => ?_⟩
  · walk_at "go"
    exact q1 h H' h'
  · walk_at "go"
    exact q2 h H' h'
theorem rm_pu {κ β : Type} [DecidableEq κ] (m : List (κ × β)) (k : κ) (b : β) : rm (pu m k b) k = rm m k := by
  unfold pu
  split
  · unfold rm
    induction m with
    | nil => rfl
    | cons a r ih =>
      rename_i h
      rw [List.map_cons]
      by_cases e : a.1 = k
      · rw [if_pos e, List.filter_cons, if_neg (by simp [e]), List.filter_cons, if_neg (by simp [e])]
        by_cases hr : (fd r k).isSome = true
        · exact ih hr
        · have hk : k ∉ r.map (·.1) := fun z => hr (fd_isSome.mpr z)
          congr 1
          refine (List.map_congr_left (g := id) fun q hq => ?_).trans (List.map_id r)
          rw [if_neg (show ¬ q.1 = k from fun z => hk (z ▸ List.mem_map.mpr ⟨q, hq, rfl⟩))]
          rfl
      · rw [if_neg e, List.filter_cons, if_pos (by simp [e]), List.filter_cons, if_pos (by simp [e])]
        rw [fd_neg e] at h
        rw [ih h]
  · unfold rm
    rw [List.filter_append, List.filter_cons, if_neg (by simp)]
    simp
def dn (m : Hld) (k z n : Int) : Hld := if n = 1 then rm m (k, z) else pu m (k, z) (n - 1)
theorem dn_nd {m : Hld} {k z n : Int} (h : (m.map (·.1)).Nodup) : ((dn m k z n).map (·.1)).Nodup := by
  unfold dn
  split
  · exact rm_nodup h
  · exact pu_nd _ h
theorem dn_mem {m : Hld} {k z n : Int} {q : (Int × Int) × Int} (h : q ∈ dn m k z n) : q ∈ m ∨ (q = ((k, z), n - 1) ∧ n ≠ 1) := by
  unfold dn at h
  split at h
  · exact .inl (rm_mem.mp h).1
  · rename_i hn
    rcases pu_mem h with h | h
    · exact .inl h
    · exact .inr ⟨h, hn⟩
theorem pu_len'' {κ β : Type} [DecidableEq κ] {m : List (κ × β)} {k : κ} (b : β) (h : (fd m k).isSome = true) : (pu m k b).length = m.length := by
  unfold pu
  rw [if_pos h, List.length_map]
def sp_drop (C : Addr) : Sp := fun vs H Q _ => ∃ (p : Addr) (r : Cnt) (k z n : Int) (R : List U), vs = [.ref p, .int k, .int z] ∧ Has H (cntU C p r :: R) ∧ r.wf ∧ 0 ≤ k ∧ k < r.sto.hands ∧ fd r.held (k, z) = some n ∧
  (((∃ q ∈ dn r.held k z n, q.1.2 = z) ∨ z ∈ r.sto.cells) → ∀ H', Has H' (cntU C p { r with held := dn r.held k z n } :: R) → Q (.bl false) H') ∧
  (¬ ((∃ q ∈ dn r.held k z n, q.1.2 = z) ∨ z ∈ r.sto.cells) → ∀ H', Has H' (cntU C p { r with held := dn r.held k z n, sto := r.sto.less [z] } :: R) → Q (.bl true) H')
theorem pure_drop {K : PySem.W.Frag} {C : Addr} (hC : CntC K C) {vs : List V} {H : Hp} {Q : VK} {E : XK} (h : sp_drop C vs H Q E) : t_Counts_drop K C (sp_look_held C) (sp_loose C) ⟨fun _ H' => Q .non H', Q, fun _ _ => False, fun _ _ => False⟩ (start ["self", "hand", "thing"] vs) H := by
  obtain ⟨p, r, k, z, n, R, rfl, hh, w, k0, k1, hf, q1, q2⟩ := h
  obtain ⟨⟨cl, n1, n2, n3, n4⟩, m1⟩ := hC
  have hp := (cnt_two.mp hh).g0
  have hl := w.ll
  have e1 : (mv V.int r.held).length < sizeLine := by rw [mv_len, sizeLine_eq]; omega
  have hv : valV (mv V.int r.held) (k, z) = some (.int n) := mv_some hf
  have hs : (fd r.held (k, z)).isSome = true := by rw [hf]; rfl
  have hz : z ∈ r.sto.kept := w.hk _ (fd_mem hf)
  have hn : 1 ≤ n := w.ps _ (fd_mem hf)
  unfold t_Counts_drop
  walk_at "go"
  refine ⟨p, r, k, z, _, rfl, hh, k0, k1, hs, fun H1 h1 => ?_⟩
  have h2 := cnt_cells h1
  clear hh h1 hp
  walk_at "go"
  rename_i b1 H2 g1 b2 H3 g2 H4 g3 b3 H5 g4
  have hv2 : valV (putK (mv V.int r.held) (k, z) (.int (n - 1))) (k, z) = some (.int (n - 1)) := by rw [mv_put, mv_val, fd_pu, if_pos rfl]; rfl
  clear h2 g1 g2 g3
  walk_at "go"
  refine ifD (fun c1 => ?_) (fun c1 => ?_)
  · walk_at "go"
    rename_i b4 H6 g5 H7 g6
    have e : n = 1 := by omega
    have ed : dn r.held k z n = rm r.held (k, z) := by unfold dn; rw [if_pos e]
    rw [mv_put, mv_drop, rm_pu, ← ed] at g6
    have h8 := cnt_of (C := C) (p := p) (r := { r with held := dn r.held k z n }) (g6.sub (show Sub ([(p, _)] :: [(r.sto.w, _)] :: [(r.sto.c, _)] :: [(r.ha, _)] :: R) _ by walk_at "sub"))
    have hp := (cnt_two.mp h8).g0
    clear g4 g5 g6
    walk_at "go"
    refine ⟨p, { r with held := dn r.held k z n }, z, R, rfl, h8, dn_nd w.nd, ?_, fun q hq => ?_, hz, fun h H' h' => ?_, fun h H' h' => ?_⟩
    · show (dn r.held k z n).length ≤ 1000
      rw [ed]
      exact Nat.le_trans (rm_len _ _) hl
    · rcases dn_mem hq with h | h
      · exact w.ps q h
      · exact absurd e h.2
    · walk_at "go"
      exact q1 h H' h'
    · walk_at "go"
      exact q2 h H' h'
  · have e : ¬ n = 1 := by omega
    have ed : dn r.held k z n = pu r.held (k, z) (n - 1) := by unfold dn; rw [if_neg e]
    rw [mv_put, ← ed] at g4
    have h8 := cnt_of (C := C) (p := p) (r := { r with held := dn r.held k z n }) (g4.sub (show Sub ([(p, _)] :: [(r.sto.w, _)] :: [(r.sto.c, _)] :: [(r.ha, _)] :: R) _ by walk_at "sub"))
    have hp := (cnt_two.mp h8).g0
    clear g4
    walk_at "go"
    refine ⟨p, { r with held := dn r.held k z n }, z, R, rfl, h8, dn_nd w.nd, ?_, fun q hq => ?_, hz, fun h H' h' => ?_, fun h H' h' => ?_⟩
    · show (dn r.held k z n).length ≤ 1000
      rw [ed, pu_len'' _ hs]
      exact hl
    · rcases dn_mem hq with h | h
      · exact w.ps q h
      · rw [h.1]
        show 1 ≤ n - 1
        omega
    · walk_at "go"
      exact q1 h H' h'
    · walk_at "go"
      exact q2 h H' h'
theorem Has.unitPerm {H : Hp} {A B : U} {L : List U} (h : Has H (A :: L)) (p : A.Perm B) : Has H (B :: L) := by
  obtain ⟨n, a⟩ := h
  have p2 : (A :: L).flatten.Perm (B :: L).flatten := List.Perm.append_right _ p
  exact ⟨(p2.map _).nodup_iff.mp n, fun q hq => a q (p2.mem_iff.mpr hq)⟩
/-- what a hand holds: the thing, how often -/
def mine (m : Hld) (k : Int) : List (Int × Int) := (m.filter fun q => decide (q.1.1 = k)).map fun q => (q.1.2, q.2)
def sp_holds (C : Addr) : Sp := fun vs H Q _ => ∃ (p : Addr) (r : Cnt) (k : Int) (R : List U), vs = [.ref p, .int k] ∧ Has H (cntU C p r :: R) ∧ (r.held.map (·.1)).Nodup ∧ r.held.length ≤ 1000 ∧ 0 ≤ k ∧ k < r.sto.hands ∧
  ∀ (ys : Prs) (d : Addr) H', (ys.map (·.2)).Perm (mine r.held k) → (ys.map (·.2)).Pairwise leP → Has H' ([(d, .lst (prR ys))] :: prU ys :: cntU C p r :: R) → Q (.ref d) H'
theorem pure_holds {K : PySem.W.Frag} {C : Addr} (hC : CntC K C) {vs : List V} {H : Hp} {Q : VK} {E : XK} (h : sp_holds C vs H Q E) : t_Counts_holds K C (sp_look_hand C) ⟨fun _ H' => Q .non H', Q, fun _ _ => False, fun _ _ => False⟩ (start ["self", "hand", "one", "thing"] vs) H := by
  obtain ⟨p, r, k, R, rfl, hh, nd, hl, k0, k1, q⟩ := h
  obtain ⟨⟨cl, n1, n2, n3, n4⟩, m1⟩ := hC
  have h2 := cnt_two.mp hh
  have h3 := cnt_cells hh
  unfold t_Counts_holds
  walk_at "go"
  refine ⟨p, _, r.sto, k, _, rfl, h2, ctX_ok, k0, k1, ?_⟩
  clear hh h2
  walk_at "go"
  refine x_lcTN (d := r.ha) obP (fun z => (z.2, (fd r.held z).getD 0)) (fun z => decide (z.1 = k)) (fun q z => [some (.ref p), some (.int k), some (.int z.1), some (.int z.2)]) (h3.sub (Sub.p3 Sub.rf)) (by rw [mv_len]; omega) (fun q z hz => rfl) (fun oo H' Q' h' q' => ?_) (fun oo q z hz D m H' Q' hq h' q' => ?_) (fun oo q z hz D m H' Q' hq h' q' => ?_) (fun oo q z hz _ D m H' Q' hq h' q' => ?_) fun D m H2 em h2 => ?_
  · walk_at "go"
    exact q'
  · refine x_gtup hq rfl ?_
    walk_at "go"
    exact q'
  · walk_at "go"
    exact q' H' hq h'
  · rw [mv_keys] at hz
    obtain ⟨v, hv⟩ := Option.isSome_iff_exists.mp (fd_isSome.mpr hz)
    have hv2 : valV (mv V.int r.held) (z.1, z.2) = some (.int v) := mv_some hv
    walk_at "go"
    rename_i b1 H3 g3 b2 H4 g4
    rw [hv] at q'
    exact q' b2 H4 (g4.sub (Sub.p0 (Sub.skip Sub.rf)))
  · have e : ((((mv V.int r.held).map (·.1)).filter fun z => decide (z.1 = k)).map fun z => (z.2, (fd r.held z).getD 0)) = mine r.held k := by
      unfold mine
      rw [mv_keys, List.filter_map, List.map_map]
      refine List.map_congr_left fun q hq => ?_
      show (q.1.2, (fd r.held q.1).getD 0) = (q.1.2, q.2)
      rw [fd_of nd (show (q.1, q.2) ∈ r.held from (List.mem_filter.mp hq).1)]
      rfl
    rw [e] at em
    walk_at "go"
    refine k_sortP (h2.sub (show Sub (prU m :: _) _ by walk_at "sub")) h2.g0 fun ys d H4 py sy h4 => ?_
    refine q ys d H4 (by rw [← em]; exact py.map _) sy ?_
    have h5 := Has.unitPerm (h4.sub (show Sub (prU m :: _) _ by walk_at "sub")) (show (prU m).Perm (prU ys) from (py.map _).symm)
    have h6 := cnt_of (C := C) (p := p) (r := r) (h5.sub (show Sub ([(p, _)] :: [(r.sto.w, _)] :: [(r.sto.c, _)] :: [(r.ha, _)] :: _) _ by walk_at "sub"))
    exact h6.sub (show Sub ([(d, _)] :: prU ys :: cntU C p r :: R) _ by walk_at "sub")
def Cnt.hasd (r : Cnt) (z : Int) : Bool := r.held.any fun q => decide (q.1.2 = z)
def Cnt.swap (r : Cnt) (i v : Int) : Cnt := { r with sto := if r.hasd (r.sto.cells.getD i.toNat 0) then r.sto.swap i v else (r.sto.swap i v).less [r.sto.cells.getD i.toNat 0] }
def okC (r : Cnt) : Prop := r.wf ∧ r.sto.vals.length < 1000
abbrev sp_swapC (C : Addr) : Sp := sp_swap C (sp_cafter C)
abbrev sp_law_swapC (C : Addr) : Sp := sp__law_swap (cntU C) (fun r => r.sto.cells) (fun r => r.sto.vals) Cnt.swap okC
theorem hob_C {C : Addr} : ∀ p (r : Cnt) R H, Has H (cntU C p r :: R) → ∃ dx fs, H p = some (.ins C dx fs) ∧ fs.lookup ("swap" : Str) = none := fun p r R H h => ⟨_, _, (cnt_two.mp h).g0, ctX_ok.f4⟩
theorem hasd_iff {r : Cnt} {z : Int} : r.hasd z = true ↔ ∃ q ∈ r.held, q.1.2 = z := by
  unfold Cnt.hasd
  rw [List.any_eq_true]
  exact ⟨fun ⟨q, h1, h2⟩ => ⟨q, h1, of_decide_eq_true h2⟩, fun ⟨q, h1, h2⟩ => ⟨q, h1, decide_eq_true h2⟩⟩
theorem swap_out {s : Sto} (ok : s.ok) {i v : Int} (i0 : 0 ≤ i) (i1 : i < s.cells.length) : s.cells.getD i.toNat 0 ∉ (s.swap i v).cells := by
  have hnew : (s.vals.length : Int) ∉ s.kept := fun hk => by
    obtain ⟨_, h1⟩ := ok.made _ hk
    omega
  exact set_old ok.cnd (fun hk => hnew (ok.here _ hk)) (by omega)
theorem hsw_C {C : Addr} : ∀ p (r : Cnt) (i v : Int) R H (Q : VK), Has H (cntU C p r :: R) → okC r → 0 ≤ i → i < r.sto.cells.length → 0 ≤ v → v ≤ 999 → (∀ H', Has H' (cntU C p (r.swap i v) :: R) → Q (.int (r.sto.cells.getD i.toNat 0)) H') → sp_swapC C [.ref p, .int i, .int v] H Q E0 :=
  fun p r i v R H Q h ok i0 i1 v0 v1 q => ⟨p, _, r.sto, i, v, _, rfl, cnt_two.mp h, ctX_ok, ok.1.ok, ok.2, i0, i1, v0, v1, fun H' Q' h' k =>
    ⟨p, r.sto.cells.getD i.toNat 0, rfl, p, { r with sto := r.sto.swap i v }, r.sto.cells.getD i.toNat 0, R, rfl, cnt_two.mpr h', ok.1.nd, ok.1.ll, ok.1.ps, List.mem_append.mpr (.inl (ok.1.ok.here _ (getD_mem (by omega)))), fun hc H2 h2 => k _ _ (q H2 (by
        have hx : r.hasd (r.sto.cells.getD i.toNat 0) = true := hasd_iff.mpr (hc.resolve_right (swap_out ok.1.ok i0 i1))
        unfold Cnt.swap
        rw [hx]
        exact h2)), fun hc H2 h2 => k _ _ (q H2 (by
        have hx : r.hasd (r.sto.cells.getD i.toNat 0) = false := by
          cases e : r.hasd (r.sto.cells.getD i.toNat 0) with
          | false => rfl
          | true => exact absurd (.inl (hasd_iff.mp e)) hc
        unfold Cnt.swap
        rw [hx]
        exact h2))⟩⟩
end La
namespace La
open PySem L2 Sy
def t_Versions_init (K : PySem.W.Frag) (sp_look_number : Sp) : TS :=
  tSeq (tDrop (tCall sp_look_number [] E0 (tCons (tVar 1) (tCons (tC (.int 1)) (tCons (tC (.int 6)) (tNil))))))
    (tSeq (tDrop (tCall sp_look_number [] E0 (tCons (tVar 2) (tCons (tC (.int 1)) (tCons (tC (.int 5)) (tNil))))))
    (tSeq (sFld K (tVar 0) (tVar 1) "hands")
    (tSeq (sFld K (tVar 0) (tLc (iRng1 (tCons (tVar 2) (tNil))) (gName 3) tYes (tLst (tCons (tTup (tCons (tC (.int 0)) (tCons (tC (.int 0)) (tNil)))) (tNil))) [3]) "rows")
    (tSeq (sFld K (tVar 0) (tC (.int 0)) "version")
    (tSeq (sFld K (tVar 0) (tDNewK) "begun")
    (sFld K (tVar 0) (tDNewK) "asked"))))))
def t_Versions_look_hand (K : PySem.W.Frag) (sp_is_whole : Sp) : TS :=
  tIfS (tNot (tB (tCall sp_is_whole [] E0 (tCons (tVar 1) (tCons (tC (.int 0)) (tCons (tOp rSubI (tFld K (tVar 0) "hands") (tC (.int 1))) (tNil))))))) (tNever) (tNext)
def t_Versions_look_in (K : PySem.W.Frag) (C_Versions : Addr) (sp_Versions__Versions_look_hand : Sp) : TS :=
  tSeq (tDrop (tMeth C_Versions "look_hand" sp_Versions__Versions_look_hand [] E0 (tVar 0) (tCons (tVar 1) (tNil))))
    (tIfS (tB (tDNotIn (tVar 1) (tFld K (tVar 0) "begun"))) (tNever) (tNext))
def t_Versions_look_cell (K : PySem.W.Frag) (sp_is_whole : Sp) : TS :=
  tIfS (tNot (tB (tCall sp_is_whole [] E0 (tCons (tVar 1) (tCons (tC (.int 0)) (tCons (tOp rSubI (tCB (rLenQ K) (tCons (tFld K (tVar 0) "rows") (tNil))) (tC (.int 1))) (tNil))))))) (tNever) (tNext)
def t_Versions_look_pairs (K : PySem.W.Frag) (sp_is_whole : Sp) : TS :=
  tSeq (tAsg (tAndV (tCB (rIsi K) (tCons (tVar 1) (tCons (tC (.ty "list")) (tNil)))) (tOp (rNeD K) (tVar 1) (tLst (tNil)))) (gName 2))
    (tSeq (tIfS (tOr (tNot (tB (tVar 2))) (tNot (tB (tCB (rAll K) (tCons (tLc (iList K (tVar 1)) (gName 3) tYes (tAndV (tCB (rIsi K) (tCons (tVar 3) (tCons (tC (.ty "tuple")) (tNil)))) (tOp rEq (tCB (rLenQ K) (tCons (tVar 3) (tNil))) (tC (.int 2)))) [3]) (tNil)))))) (tNever) (tNext))
    (tSeq (tIfS (tNot (tB (tCB (rAll K) (tCons (tLc (iList K (tVar 1)) (gName 3) tYes (tAndV (tCall sp_is_whole [] E0 (tCons (tOp (rIxT K) (tVar 3) (tC (.int 0))) (tCons (tC (.int 0)) (tCons (tOp rSubI (tCB (rLenQ K) (tCons (tFld K (tVar 0) "rows") (tNil))) (tC (.int 1))) (tNil))))) (tCall sp_is_whole [] E0 (tCons (tOp (rIxT K) (tVar 3) (tC (.int 1))) (tCons (tC (.int 0)) (tCons (tC (.int 999)) (tNil)))))) [3]) (tNil))))) (tNever) (tNext))
    (tSeq (tAsg (tLc (iList K (tVar 1)) (gTup K 2 (gCons (gName 5) (gCons (gName 6) (gNil)))) tYes (tVar 5) [5, 6]) (gName 4))
    (tIfS (tTest (tOp (rNeD K) (tSSet K (tCons (tVar 4) (tNil))) (tVar 4))) (tNever) (tNext)))))
def t_Versions_begin (K : PySem.W.Frag) (C_Versions : Addr) (sp_Versions__Versions_look_hand : Sp) : TS :=
  tSeq (tDrop (tMeth C_Versions "look_hand" sp_Versions__Versions_look_hand [] E0 (tVar 0) (tCons (tVar 1) (tNil))))
    (tSeq (tIfS (tB (tDIn (tVar 1) (tFld K (tVar 0) "begun"))) (tNever) (tNext))
    (tSeq (sDPut (tFld K (tVar 0) "begun") (tVar 1) (tFld K (tVar 0) "version"))
    (tSeq (sDPut (tFld K (tVar 0) "asked") (tVar 1) (tLst (tNil)))
    (tRet (tFld K (tVar 0) "version")))))
def t_Versions_finish (K : PySem.W.Frag) (C_Versions : Addr) (sp_Versions__Versions_look_in : Sp) : TS :=
  tSeq (tDrop (tMeth C_Versions "look_in" sp_Versions__Versions_look_in [] E0 (tVar 0) (tCons (tVar 1) (tNil))))
    (tSeq (tDrop (tDPop1 (tFld K (tVar 0) "begun") (tVar 1)))
    (tDrop (tDPop1 (tFld K (tVar 0) "asked") (tVar 1))))
def t_Versions_value_at (K : PySem.W.Frag) : TS :=
  tRet (tOp (rIxL K) (tLc (iList K (tOp (rIxL K) (tFld K (tVar 0) "rows") (tVar 1))) (gTup K 2 (gCons (gName 3) (gCons (gName 4) (gNil)))) (tTest (tOp rLeI (tVar 3) (tVar 2))) (tVar 4) [3, 4]) (tUn (rU fun i => .int (-i)) (tC (.int 1))))
def t_Versions_read (K : PySem.W.Frag) (C_Versions : Addr) (sp_Versions__Versions_look_in sp_Versions__Versions_look_cell sp_Versions__Versions_value_at : Sp) : TS :=
  tSeq (tDrop (tMeth C_Versions "look_in" sp_Versions__Versions_look_in [] E0 (tVar 0) (tCons (tVar 1) (tNil))))
    (tSeq (tDrop (tMeth C_Versions "look_cell" sp_Versions__Versions_look_cell [] E0 (tVar 0) (tCons (tVar 2) (tNil))))
    (tSeq (tDrop (tBM K "list" rAppend (tDGet (tFld K (tVar 0) "asked") (tVar 1)) (tCons (tVar 2) (tNil))))
    (tRet (tMeth C_Versions "value_at" sp_Versions__Versions_value_at [] E0 (tVar 0) (tCons (tVar 2) (tCons (tDGet (tFld K (tVar 0) "begun") (tVar 1)) (tNil)))))))
def t_Versions_write (K : PySem.W.Frag) (C_Versions : Addr) (sp_Versions__Versions_look_pairs : Sp) : TS :=
  tSeq (tDrop (tMeth C_Versions "look_pairs" sp_Versions__Versions_look_pairs [] E0 (tVar 0) (tCons (tVar 1) (tNil))))
    (tSeq (sFld K (tVar 0) (tOp rAddI (tFld K (tVar 0) "version") (tC (.int 1))) "version")
    (tSeq (tFor (iList K (tVar 1)) (gTup K 2 (gCons (gName 2) (gCons (gName 3) (gNil)))) (tDrop (tBM K "list" rAppend (tOp (rIxL K) (tFld K (tVar 0) "rows") (tVar 2)) (tCons (tTup (tCons (tFld K (tVar 0) "version") (tCons (tVar 3) (tNil)))) (tNil)))))
    (tRet (tFld K (tVar 0) "version"))))
def t_Versions_trim (K : PySem.W.Frag) : TS :=
  tSeq (tAsg (tSSet K (tCons (tOp rCat (tListVals (tFld K (tVar 0) "begun")) (tLst (tCons (tFld K (tVar 0) "version") (tNil)))) (tNil))) (gName 1))
    (tSeq (tAsg (tC (.int 0)) (gName 2))
    (tSeq (tFor (iRng1 (tCons (tCB (rLenQ K) (tCons (tFld K (tVar 0) "rows") (tNil))) (tNil))) (gName 3) (tSeq (tAsg (tOp (rIxL K) (tFld K (tVar 0) "rows") (tVar 3)) (gName 4))
    (tSeq (tAsg (tLc (iList K (tVar 1)) (gName 8) tYes (tCB (rMax K) (tCons (tLc (iList K (tVar 4)) (gTup K 2 (gCons (gName 6) (gCons (gName 7) (gNil)))) (tTest (tOp rLeI (tVar 6) (tVar 8))) (tVar 6) [6, 7]) (tNil))) [8]) (gName 5))
    (tSeq (tAsg (tLc (iList K (tVar 4)) (gName 9) (tTest (tOp (rIn K false) (tOp (rIxT K) (tVar 9) (tC (.int 0))) (tVar 5))) (tVar 9) [9]) (gSub (tFld K (tVar 0) "rows") (tVar 3) rSetL))
    (tAsg (tOp rSubI (tOp rAddI (tVar 2) (tCB (rLenQ K) (tCons (tVar 4) (tNil)))) (tCB (rLenQ K) (tCons (tOp (rIxL K) (tFld K (tVar 0) "rows") (tVar 3)) (tNil)))) (gName 2))))))
    (tRet (tVar 2))))
def t_Versions_kept (K : PySem.W.Frag) (C_Versions : Addr) (sp_Versions__Versions_look_cell : Sp) : TS :=
  tSeq (tDrop (tMeth C_Versions "look_cell" sp_Versions__Versions_look_cell [] E0 (tVar 0) (tCons (tVar 1) (tNil))))
    (tRet (tLc (iList K (tOp (rIxL K) (tFld K (tVar 0) "rows") (tVar 1))) (gTup K 2 (gCons (gName 2) (gCons (gName 3) (gNil)))) tYes (tVar 2) [2, 3]))
def t_Versions_now (K : PySem.W.Frag) : TS :=
  tRet (tLc (iList K (tFld K (tVar 0) "rows")) (gName 1) tYes (tOp (rIxT K) (tOp (rIxL K) (tVar 1) (tUn (rU fun i => .int (-i)) (tC (.int 1)))) (tC (.int 1))) [1])
def t_Versions_version_now (K : PySem.W.Frag) : TS :=
  tRet (tFld K (tVar 0) "version")
def veF (v0 v1 v2 v3 v4 : V) : List (Str × V) := [("hands", v0), ("rows", v1), ("version", v2), ("begun", v3), ("asked", v4)]
theorem ve_hands {v0 v1 v2 v3 v4 : V} : (veF v0 v1 v2 v3 v4).lookup ("hands" : Str) = some v0 := by kernel_rfl
theorem ve_put_hands {v0 v1 v2 v3 v4 u : V} : putF "hands" u (veF v0 v1 v2 v3 v4) = veF u v1 v2 v3 v4 := by kernel_rfl
theorem ve_rows {v0 v1 v2 v3 v4 : V} : (veF v0 v1 v2 v3 v4).lookup ("rows" : Str) = some v1 := by kernel_rfl
theorem ve_put_rows {v0 v1 v2 v3 v4 u : V} : putF "rows" u (veF v0 v1 v2 v3 v4) = veF v0 u v2 v3 v4 := by kernel_rfl
theorem ve_version {v0 v1 v2 v3 v4 : V} : (veF v0 v1 v2 v3 v4).lookup ("version" : Str) = some v2 := by kernel_rfl
theorem ve_put_version {v0 v1 v2 v3 v4 u : V} : putF "version" u (veF v0 v1 v2 v3 v4) = veF v0 v1 u v3 v4 := by kernel_rfl
theorem ve_begun {v0 v1 v2 v3 v4 : V} : (veF v0 v1 v2 v3 v4).lookup ("begun" : Str) = some v3 := by kernel_rfl
theorem ve_put_begun {v0 v1 v2 v3 v4 u : V} : putF "begun" u (veF v0 v1 v2 v3 v4) = veF v0 v1 v2 u v4 := by kernel_rfl
theorem ve_asked {v0 v1 v2 v3 v4 : V} : (veF v0 v1 v2 v3 v4).lookup ("asked" : Str) = some v4 := by kernel_rfl
theorem ve_put_asked {v0 v1 v2 v3 v4 u : V} : putF "asked" u (veF v0 v1 v2 v3 v4) = veF v0 v1 v2 v3 u := by kernel_rfl
theorem ve_m_look_hand {v0 v1 v2 v3 v4 : V} : (veF v0 v1 v2 v3 v4).lookup ("look_hand" : Str) = none := by kernel_rfl
theorem ve_m_look_in {v0 v1 v2 v3 v4 : V} : (veF v0 v1 v2 v3 v4).lookup ("look_in" : Str) = none := by kernel_rfl
theorem ve_m_look_cell {v0 v1 v2 v3 v4 : V} : (veF v0 v1 v2 v3 v4).lookup ("look_cell" : Str) = none := by kernel_rfl
theorem ve_m_look_pairs {v0 v1 v2 v3 v4 : V} : (veF v0 v1 v2 v3 v4).lookup ("look_pairs" : Str) = none := by kernel_rfl
theorem ve_m_begin {v0 v1 v2 v3 v4 : V} : (veF v0 v1 v2 v3 v4).lookup ("begin" : Str) = none := by kernel_rfl
theorem ve_m_finish {v0 v1 v2 v3 v4 : V} : (veF v0 v1 v2 v3 v4).lookup ("finish" : Str) = none := by kernel_rfl
theorem ve_m_value_at {v0 v1 v2 v3 v4 : V} : (veF v0 v1 v2 v3 v4).lookup ("value_at" : Str) = none := by kernel_rfl
theorem ve_m_read {v0 v1 v2 v3 v4 : V} : (veF v0 v1 v2 v3 v4).lookup ("read" : Str) = none := by kernel_rfl
theorem ve_m_write {v0 v1 v2 v3 v4 : V} : (veF v0 v1 v2 v3 v4).lookup ("write" : Str) = none := by kernel_rfl
theorem ve_m_commit {v0 v1 v2 v3 v4 : V} : (veF v0 v1 v2 v3 v4).lookup ("commit" : Str) = none := by kernel_rfl
theorem ve_m_trim {v0 v1 v2 v3 v4 : V} : (veF v0 v1 v2 v3 v4).lookup ("trim" : Str) = none := by kernel_rfl
theorem ve_m_kept {v0 v1 v2 v3 v4 : V} : (veF v0 v1 v2 v3 v4).lookup ("kept" : Str) = none := by kernel_rfl
theorem ve_m_now {v0 v1 v2 v3 v4 : V} : (veF v0 v1 v2 v3 v4).lookup ("now" : Str) = none := by kernel_rfl
theorem ve_m_version_now {v0 v1 v2 v3 v4 : V} : (veF v0 v1 v2 v3 v4).lookup ("version_now" : Str) = none := by kernel_rfl
theorem ve_p1 { u : V} : putF "hands" u ([] : List (Str × V)) = ([("hands", u)] : List (Str × V)) := by kernel_rfl
theorem ve_p2 {v0 u : V} : putF "rows" u ([("hands", v0)] : List (Str × V)) = ([("hands", v0), ("rows", u)] : List (Str × V)) := by kernel_rfl
theorem ve_p3 {v0 v1 u : V} : putF "version" u ([("hands", v0), ("rows", v1)] : List (Str × V)) = ([("hands", v0), ("rows", v1), ("version", u)] : List (Str × V)) := by kernel_rfl
theorem ve_p4 {v0 v1 v2 u : V} : putF "begun" u ([("hands", v0), ("rows", v1), ("version", v2)] : List (Str × V)) = ([("hands", v0), ("rows", v1), ("version", v2), ("begun", u)] : List (Str × V)) := by kernel_rfl
theorem ve_p5 {v0 v1 v2 v3 u : V} : putF "asked" u ([("hands", v0), ("rows", v1), ("version", v2), ("begun", v3)] : List (Str × V)) = ((veF v0 v1 v2 v3 u) : List (Str × V)) := by kernel_rfl
theorem ve_len {v0 v1 v2 v3 v4 : V} : (veF v0 v1 v2 v3 v4).length < 1000 := by show 5 < 1000; decide
local macro_rules | `(tactic| walk_at "fl") => `(tactic| first | assumption | exact ve_hands | exact ve_rows | exact ve_version | exact ve_begun | exact ve_asked | kernel_rfl)
local macro_rules | `(tactic| walk_at "put") => `(tactic| first | exact ve_put_hands | exact ve_put_rows | exact ve_put_version | exact ve_put_begun | exact ve_put_asked | exact ve_p1 | exact ve_p2 | exact ve_p3 | exact ve_p4 | exact ve_p5)
local macro_rules | `(tactic| walk_at "fsl") => `(tactic| first | assumption | exact ve_len | (show 0 < 1000; decide) | (show 1 < 1000; decide) | (show 2 < 1000; decide) | (show 3 < 1000; decide) | (show 4 < 1000; decide))
/-! ### versions -/
structure VeC (K : PySem.W.Frag) (C : Addr) : Prop where
  cl : Cls K C
  n1 : NoAttr K C "hands"
  n2 : NoAttr K C "rows"
  n3 : NoAttr K C "version"
  n4 : NoAttr K C "begun"
  n5 : NoAttr K C "asked"
def obA (q : Addr × List Int) : U := [(q.1, .lst (q.2.map V.int))]
def asR (q : Addr × List Int) : V := .ref q.1
def obRow (m : Prs) : HO := .lst (fmR m)
abbrev VRows := List (Addr × Prs)
structure Ver where
  dx : Addr
  ra : Addr
  ba : Addr
  qa : Addr
  hands : Int
  version : Int
  rows : VRows
  begun : List (Int × Int)
  asked : List (Int × (Addr × List Int))
  bag : Prs
def veO (C : Addr) (s : Ver) : HO := .ins C s.dx (veF (.int s.hands) (.ref s.ra) (.int s.version) (.ref s.ba) (.ref s.qa))
def verU (C p : Addr) (s : Ver) : U := (p, .ins C s.dx (veF (.int s.hands) (.ref s.ra) (.int s.version) (.ref s.ba) (.ref s.qa))) :: (s.ra, .lst (fmR s.rows)) :: (s.ba, dI (mv V.int s.begun)) :: (s.qa, dI (mv asR s.asked)) :: (fmU obRow s.rows ++ (famU obA s.asked ++ prU s.bag))
theorem ve_cut {H : Hp} {C p : Addr} {s : Ver} {R : List U} (h : Has H (verU C p s :: R)) : Has H ([(p, .ins C s.dx (veF (.int s.hands) (.ref s.ra) (.int s.version) (.ref s.ba) (.ref s.qa)))] :: [(s.ra, .lst (fmR s.rows))] :: [(s.ba, dI (mv V.int s.begun))] :: [(s.qa, dI (mv asR s.asked))] :: fmU obRow s.rows :: famU obA s.asked :: prU s.bag :: R) := by
  have h1 := Has.cut3 h
  have h2 := Has.cut (h1.sub (Sub.p3 Sub.rf))
  have h3 := Has.op.mp (h2.sub (Sub.p1 Sub.rf))
  have h4 := Has.op.mp (h3.sub (Sub.p1 Sub.rf))
  exact h4.sub (Sub.p4 (Sub.p4 (Sub.p4 (Sub.p3 (Sub.p2 (Sub.p0 (Sub.p0 Sub.rf)))))))
theorem ve_in {H : Hp} {C p : Addr} {s : Ver} {R : List U} (h : Has H ([(p, .ins C s.dx (veF (.int s.hands) (.ref s.ra) (.int s.version) (.ref s.ba) (.ref s.qa)))] :: [(s.ra, .lst (fmR s.rows))] :: [(s.ba, dI (mv V.int s.begun))] :: [(s.qa, dI (mv asR s.asked))] :: fmU obRow s.rows :: famU obA s.asked :: prU s.bag :: R)) : Has H (verU C p s :: R) := by
  have h1 := Has.op.mpr (h.sub (show Sub (famU obA s.asked :: prU s.bag :: fmU obRow s.rows :: _) _ from Sub.p5 (Sub.p5 (Sub.p4 Sub.rf))))
  have h2 := Has.op.mpr (h1.sub (show Sub (fmU obRow s.rows :: (_ ++ _) :: _) _ from Sub.p1 (Sub.p0 Sub.rf)))
  have h3 := Has.glue (h2.sub (show Sub ([(s.qa, _)] :: (_ ++ _) :: _) _ from Sub.p4 (Sub.p0 Sub.rf)))
  exact Has.glue3 (h3.sub (show Sub ([(p, _)] :: [(s.ra, _)] :: [(s.ba, _)] :: _ :: R) _ from Sub.p1 (Sub.p1 (Sub.p1 (Sub.p0 Sub.rf)))))
/-- what stands in the rows -/
def absR (rows : VRows) : List (List (Int × Int)) := rows.map fun r => r.2.map (·.2)
structure Ver.wf (s : Ver) : Prop where
  l0 : 0 < s.rows.length
  l5 : s.rows.length ≤ 5
  bg : ∀ r ∈ s.rows, ∀ q ∈ r.2, q ∈ s.bag
  v0 : 0 ≤ s.version
  v9 : s.version ≤ 500
  rl : ∀ r ∈ s.rows, (r.2.length : Int) ≤ s.version + 1
  kb : s.asked.map (·.1) = s.begun.map (·.1)
  nd : (s.begun.map (·.1)).Nodup
  bl : s.begun.length ≤ 500
def sp_vinit (C : Addr) : Sp := fun vs H Q _ => ∃ (p dx : Addr) (h n : Int) (R : List U), vs = [.ref p, .int h, .int n] ∧ Has H ([(p, .ins C dx [])] :: R) ∧ 1 ≤ h ∧ h ≤ 6 ∧ 1 ≤ n ∧ n ≤ 5 ∧
  ∀ (s : Ver) H', s.hands = h → s.version = 0 → s.begun = [] → s.asked = [] → absR s.rows = List.replicate n.toNat [(0, 0)] → s.wf → Has H' (verU C p s :: R) → Q .non H'
theorem pure_vinit {K : PySem.W.Frag} {C : Addr} (hC : VeC K C) {vs : List V} {H : Hp} {Q : VK} {E : XK} (h : sp_vinit C vs H Q E) : t_Versions_init K sp_look_number ⟨fun _ H' => Q .non H', Q, fun _ _ => False, fun _ _ => False⟩ (start ["self", "hands", "cells", "cell"] vs) H := by
  obtain ⟨p, dx, h, n, R, rfl, hh, h1, h6, m1, m5, q⟩ := h
  obtain ⟨cl, n1, n2, n3, n4, n5⟩ := hC
  unfold t_Versions_init
  walk_at "go"
  refine ⟨h, 1, 6, rfl, h1, h6, ?_⟩
  walk_at "go"
  refine ⟨n, 1, 5, rfl, m1, m5, ?_⟩
  walk_at "go"
  rename_i H1 g1
  refine k_lcR (L := [(p, .ins C dx [("hands", .int h)])] :: R) g1 (fun D i H' => ∃ (rows : VRows) (bag : Prs), rows.length = i ∧ absR rows = List.replicate i [(0, 0)] ∧ (∀ r ∈ rows, ∀ q ∈ r.2, q ∈ bag) ∧ Has H' ([(D, .lst (fmR rows))] :: fmU obRow rows :: prU bag :: [(p, .ins C dx [("hands", .int h)])] :: R)) (by omega) (fun D H' h' => ⟨[], [], rfl, rfl, fun r hr => absurd hr List.not_mem_nil, ?_⟩) (fun D i H' hi h' => ?_) (fun D H' h' => ?_)
  · exact (Has.nilU.mpr (Has.nilU.mpr h')).sub (show Sub ([(D, .lst [])] :: [] :: [] :: _) _ from Sub.p2 (Sub.p0 (Sub.p0 Sub.rf)))
  · obtain ⟨rows, bag, e1, e2, e3, h'⟩ := h'
    refine x_gname ⟨rfl, x_yes (ifT ?_)⟩
    walk_at "go"
    rename_i tp H2 g2 la H3 g3
    refine ⟨_, g3.g2, by rw [sizeLine_eq]; unfold fmR; rw [List.length_map]; omega, rows ++ [(la, [(tp, (0, 0))])], bag ++ [(tp, (0, 0))], ?_, ?_, fun r hr q hq => ?_, ?_⟩
    · rw [List.length_append, e1]; rfl
    · unfold absR at e2 ⊢
      rw [List.map_append, e2, List.replicate_succ']
      rfl
    · rcases List.mem_append.mp hr with hr | hr
      · exact List.mem_append.mpr (.inl (e3 r hr q hq))
      · rw [List.mem_singleton.mp hr] at hq
        exact List.mem_append.mpr (.inr hq)
    · have g4 : Has (upd H3 D (.lst (fmR rows ++ [.ref la]))) ([(la, obRow [(tp, (0, 0))])] :: [(tp, obP (0, 0))] :: [(D, .lst (fmR rows ++ [.ref la]))] :: fmU obRow rows :: prU bag :: _) := g3.s2
      rw [fmR_snoc, fmU_snoc]
      unfold prU
      rw [fmU_snoc]
      have g5 := Has.op.mpr (g4.sub (show Sub (fmU obRow rows :: [(la, obRow [(tp, (0, 0))])] :: _) _ from Sub.p3 (Sub.p0 Sub.rf)))
      have g6 := Has.op.mpr (g5.sub (show Sub (prU bag :: [(tp, obP (0, 0))] :: _) _ from Sub.p3 (Sub.p1 Sub.rf)))
      exact g6.sub (show Sub ([(D, _)] :: (_ ++ _) :: (_ ++ _) :: _) _ from Sub.p2 (Sub.p1 (Sub.p0 Sub.rf)))
  · obtain ⟨rows, bag, e1, e2, e3, h'⟩ := h'
    walk_at "go"
    rename_i H2 g2 H3 g3 ba H4 g4 H5 g5 qa H6 g6 H7 g7
    refine q ⟨dx, D, ba, qa, h, 0, rows, [], [], bag⟩ H7 rfl rfl rfl rfl e2 ⟨?_, ?_, e3, Int.le_refl _, (by show (0 : Int) ≤ 500; omega), fun r hr => ?_, rfl, List.nodup_nil, Nat.zero_le _⟩ (ve_in ?_)
    · show 0 < rows.length; omega
    · show rows.length ≤ 5; omega
    · have hm : r.2.map (·.2) ∈ absR rows := List.mem_map.mpr ⟨r, hr, rfl⟩
      rw [e2] at hm
      have := congrArg List.length (List.eq_of_mem_replicate hm)
      rw [List.length_map] at this
      show (r.2.length : Int) ≤ 0 + 1
      rw [this]
      show (1 : Int) ≤ 0 + 1
      omega
    · have g8 := Has.nilU.mpr g7
      exact g8.sub (show Sub ([(p, _)] :: [(D, _)] :: [(ba, dI (mv V.int []))] :: [(qa, dI (mv asR []))] :: fmU obRow rows :: famU obA [] :: prU bag :: R) _ by walk_at "sub")
def sp_vlook_hand (C : Addr) : Sp := fun vs H Q _ => ∃ (p : Addr) (s : Ver) (k : Int) (R : List U), vs = [.ref p, .int k] ∧ Has H (verU C p s :: R) ∧ 0 ≤ k ∧ k < s.hands ∧ Q .non H
theorem pure_vlook_hand {K : PySem.W.Frag} {C : Addr} (hC : VeC K C) {vs : List V} {H : Hp} {Q : VK} {E : XK} (h : sp_vlook_hand C vs H Q E) : t_Versions_look_hand K sp_is_whole ⟨fun _ H' => Q .non H', Q, fun _ _ => False, fun _ _ => False⟩ (start ["self", "hand"] vs) H := by
  obtain ⟨p, s, k, R, rfl, hh, c0, c1, q⟩ := h
  obtain ⟨cl, n1, n2, n3, n4, n5⟩ := hC
  replace hh := ve_cut hh
  unfold t_Versions_look_hand
  walk_at "go"
  refine ⟨k, 0, _, rfl, ?_⟩
  rw [decide_eq_true (by omega)]
  walk_at "go"
  exact q
def sp_vlook_in (C : Addr) : Sp := fun vs H Q _ => ∃ (p : Addr) (s : Ver) (k : Int) (R : List U), vs = [.ref p, .int k] ∧ Has H (verU C p s :: R) ∧ 0 ≤ k ∧ k < s.hands ∧ (fd s.begun k).isSome = true ∧ Q .non H
theorem pure_vlook_in {K : PySem.W.Frag} {C : Addr} (hC : VeC K C) {vs : List V} {H : Hp} {Q : VK} {E : XK} (h : sp_vlook_in C vs H Q E) : t_Versions_look_in K C (sp_vlook_hand C) ⟨fun _ H' => Q .non H', Q, fun _ _ => False, fun _ _ => False⟩ (start ["self", "hand"] vs) H := by
  obtain ⟨p, s, k, R, rfl, h0, c0, c1, hf, q⟩ := h
  obtain ⟨cl, n1, n2, n3, n4, n5⟩ := hC
  have hh := ve_cut h0
  unfold t_Versions_look_in
  walk_at "go"
  refine ⟨p, s, k, R, rfl, h0, c0, c1, ?_⟩
  walk_at "go"
  rw [mv_isSome, hf]
  walk_at "go"
  exact q
def sp_vlook_cell (C : Addr) : Sp := fun vs H Q _ => ∃ (p : Addr) (s : Ver) (c : Int) (R : List U), vs = [.ref p, .int c] ∧ Has H (verU C p s :: R) ∧ 0 ≤ c ∧ c < s.rows.length ∧ Q .non H
theorem fmR_len {β : Type} (m : List (Addr × β)) : (fmR m).length = m.length := List.length_map ..
theorem pure_vlook_cell {K : PySem.W.Frag} {C : Addr} (hC : VeC K C) {vs : List V} {H : Hp} {Q : VK} {E : XK} (h : sp_vlook_cell C vs H Q E) : t_Versions_look_cell K sp_is_whole ⟨fun _ H' => Q .non H', Q, fun _ _ => False, fun _ _ => False⟩ (start ["self", "cell"] vs) H := by
  obtain ⟨p, s, c, R, rfl, hh, c0, c1, q⟩ := h
  obtain ⟨cl, n1, n2, n3, n4, n5⟩ := hC
  replace hh := ve_cut hh
  unfold t_Versions_look_cell
  walk_at "go"
  refine ⟨c, 0, _, rfl, ?_⟩
  rw [decide_eq_true (by rw [fmR_len]; omega)]
  walk_at "go"
  exact q
/-- pairs of cells and values, rising -/
structure PrOk (ps : Prs) (n : Nat) : Prop where
  ne : ps ≠ []
  l : ps.length ≤ 50
  rise : (ps.map (·.2.1)).Pairwise (· < ·)
  cr : ∀ q ∈ ps, 0 ≤ q.2.1 ∧ q.2.1 < n
  vr : ∀ q ∈ ps, 0 ≤ q.2.2 ∧ q.2.2 ≤ 999
def sp_vlook_pairs (C : Addr) : Sp := fun vs H Q _ => ∃ (p pa : Addr) (s : Ver) (ps : Prs) (R : List U), vs = [.ref p, .ref pa] ∧ Has H (verU C p s :: [(pa, .lst (prR ps))] :: prU ps :: R) ∧ PrOk ps s.rows.length ∧
  ∀ H', Has H' (verU C p s :: [(pa, .lst (prR ps))] :: prU ps :: R) → Q .non H'
theorem all_true {α : Type} (l : List α) : ((l.map fun _ => true).all id) = true := by rw [List.all_map]; exact List.all_eq_true.mpr fun _ _ => rfl
theorem pure_vlook_pairs {K : PySem.W.Frag} {C : Addr} (hC : VeC K C) {vs : List V} {H : Hp} {Q : VK} {E : XK} (h : sp_vlook_pairs C vs H Q E) : t_Versions_look_pairs K sp_is_whole ⟨fun _ H' => Q .non H', Q, fun _ _ => False, fun _ _ => False⟩ (start ["self", "pairs", "fine", "one", "cells", "cell", "value"] vs) H := by
  obtain ⟨p, pa, s, ps, R, rfl, hh, ok, q⟩ := h
  obtain ⟨cl, n1, n2, n3, n4, n5⟩ := hC
  have hl := ok.l
  have fin : ∀ H', Has H' ([(p, .ins C s.dx (veF (.int s.hands) (.ref s.ra) (.int s.version) (.ref s.ba) (.ref s.qa)))] :: [(s.ra, .lst (fmR s.rows))] :: [(s.ba, dI (mv V.int s.begun))] :: [(s.qa, dI (mv asR s.asked))] :: fmU obRow s.rows :: famU obA s.asked :: prU s.bag :: [(pa, .lst (prR ps))] :: prU ps :: R) → Q .non H' := fun H' h' => q H' (ve_in h')
  replace hh := ve_cut hh
  clear q
  unfold t_Versions_look_pairs
  walk_at "go"
  rename_i d0 H0 h0
  refine k_neLP (zs := ps) (ws := []) (by walk_at "hp") (by walk_at "hp") (Has.prs (h0.sub (show Sub (prU ps :: _) _ by walk_at "sub"))) (fun q hq => absurd hq List.not_mem_nil) ?_
  have ene : (!decide (ps.map (·.2) = ([] : Prs).map (·.2))) = true := by
    have : ¬ ps.map (·.2) = ([] : Prs).map (·.2) := fun e => ok.ne (List.map_eq_nil_iff.mp e)
    simp [this, ok.ne]
  rw [ene]
  have h0 := h0.sub (Sub.skip Sub.rf)
  clear hh
  walk_at "go"
  refine k_lcM ps (fun q => V.ref q.1) (fun _ => V.bl true) h0 (fun H' h' => by walk_at "hp") (by omega) (fun z hz D M H' Q' h' q' => ?_) fun D H1 h1 => ?_
  · have hz2 : H' z.1 = some (.tup [.int z.2.1, .int z.2.2]) := Has.prs (h'.sub (show Sub (prU ps :: _) _ by walk_at "sub")) z hz
    walk_at "go"
    exact q' H' h'
  rw [show ps.map (fun _ => V.bl true) = (ps.map fun _ => true).map V.bl by rw [List.map_map]; rfl] at h1
  walk_at "go"
  rw [all_true]
  walk_at "go"
  have h1 := h1.sub (Sub.skip Sub.rf)
  clear h0
  refine k_lcM ps (fun q => V.ref q.1) (fun _ => V.bl true) h1 (fun H' h' => by walk_at "hp") (by omega) (fun z hz D M H' Q' h' q' => ?_) fun D2 H2 h2 => ?_
  · have hz2 : H' z.1 = some (.tup [.int z.2.1, .int z.2.2]) := Has.prs (h'.sub (show Sub (prU ps :: _) _ by walk_at "sub")) z hz
    obtain ⟨c0, c1⟩ := ok.cr z hz
    obtain ⟨v0, v1⟩ := ok.vr z hz
    walk_at "go"
    refine ⟨z.2.1, 0, _, rfl, ?_⟩
    rw [decide_eq_true (by rw [fmR_len]; omega)]
    walk_at "go"
    refine ⟨z.2.2, 0, _, rfl, ?_⟩
    rw [decide_eq_true (by omega)]
    exact q' H' h'
  rw [show ps.map (fun _ => V.bl true) = (ps.map fun _ => true).map V.bl by rw [List.map_map]; rfl] at h2
  walk_at "go"
  rw [all_true]
  walk_at "go"
  have h2 := h2.sub (Sub.skip Sub.rf)
  clear h1
  refine k_lcG ps (fun q => V.ref q.1) (fun q => V.int q.2.1) (fun _ => true) (fun q => [some (.ref p), some (.ref pa), some (.bl true), none, none, some (.int q.2.1), some (.int q.2.2)]) h2 (fun H' h' => by walk_at "hp") (by omega) (fun z hz => rfl) (fun z hz D M H' Q' h' q' => ?_) (fun z hz D M H' Q' h' q' => ?_) (fun z hz _ D M H' Q' h' q' => ?_) fun D3 H3 h3 => ?_
  · have hz2 : H' z.1 = some (.tup [.int z.2.1, .int z.2.2]) := Has.prs (h'.sub (show Sub (prU ps :: _) _ by walk_at "sub")) z hz
    walk_at "go"
    exact q'
  · walk_at "go"
    exact q' H' h'
  · walk_at "go"
    exact q' H' h'
  rw [filt_true, show ps.map (fun q => V.int q.2.1) = (ps.map (·.2.1)).map V.int by rw [List.map_map]; rfl] at h3
  have hl3 : (ps.map (·.2.1)).length < 64 := by rw [List.length_map]; omega
  walk_at "go"
  rename_i w4 ys d4 H4 y1 y2 h4
  have ey : ys = ps.map (·.2.1) := rise_eq y1 ok.rise y2
  subst ey
  walk_at "go"
  refine ifN (by simp) ?_
  walk_at "go"
  exact fin _ (h4.sub (Sub.skip (Sub.skip Sub.rf)))
theorem Ver.wf.ask {s : Ver} (w : s.wf) (k : Int) : (fd s.asked k).isSome = (fd s.begun k).isSome := by
  rw [Bool.eq_iff_iff, fd_isSome, fd_isSome, w.kb]
theorem Ver.wf.nda {s : Ver} (w : s.wf) : (s.asked.map (·.1)).Nodup := by rw [w.kb]; exact w.nd
theorem isNone_of {α : Type} {o : Option α} (h : o.isSome = false) : o = none := by
  cases o with
  | none => rfl
  | some x => cases h
def Ver.begin (s : Ver) (k : Int) (l : Addr) : Ver := { s with begun := pu s.begun k s.version, asked := pu s.asked k (l, []) }
def sp_vbegin (C : Addr) : Sp := fun vs H Q _ => ∃ (p : Addr) (s : Ver) (k : Int) (R : List U), vs = [.ref p, .int k] ∧ Has H (verU C p s :: R) ∧ s.wf ∧ 0 ≤ k ∧ k < s.hands ∧ fd s.begun k = none ∧
  ∀ l H', Has H' (verU C p (s.begin k l) :: R) → Q (.int s.version) H'
theorem pure_vbegin {K : PySem.W.Frag} {C : Addr} (hC : VeC K C) {vs : List V} {H : Hp} {Q : VK} {E : XK} (h : sp_vbegin C vs H Q E) : t_Versions_begin K C (sp_vlook_hand C) ⟨fun _ H' => Q .non H', Q, fun _ _ => False, fun _ _ => False⟩ (start ["self", "hand"] vs) H := by
  obtain ⟨p, s, k, R, rfl, h0, w, c0, c1, hf, q⟩ := h
  obtain ⟨cl, n1, n2, n3, n4, n5⟩ := hC
  have hbl := w.bl
  have hal : s.asked.length = s.begun.length := by have := congrArg List.length w.kb; rw [List.length_map, List.length_map] at this; exact this
  have e1 : (mv V.int s.begun).length < sizeLine := by rw [mv_len, sizeLine_eq]; omega
  have e2 : (mv asR s.asked).length < sizeLine := by rw [mv_len, sizeLine_eq]; omega
  have hfa : fd s.asked k = none := isNone_of (by rw [w.ask, hf]; rfl)
  have hh := ve_cut h0
  unfold t_Versions_begin
  walk_at "go"
  refine ⟨p, s, k, R, rfl, h0, c0, c1, ?_⟩
  walk_at "go"
  rw [mv_isSome, hf]
  refine ifF ?_
  clear h0
  walk_at "go"
  rename_i H1 h1 l H2 h2 H3 h3
  rw [mv_put, show V.ref l = asR (l, []) from rfl, mv_put] at h3
  clear hh h1 h2
  walk_at "go"
  refine q l H3 (ve_in ?_)
  have h4 := fam_snoc (k := k) (b := (l, ([] : List Int))) (h3.sub (show Sub (obA (l, []) :: famU obA s.asked :: _) _ by walk_at "sub"))
  rw [← pu_new (m := s.asked) (k := k) (l, []) hfa] at h4
  exact h4.sub (show Sub ([(p, _)] :: [(s.ra, _)] :: [(s.ba, _)] :: [(s.qa, _)] :: fmU obRow s.rows :: famU obA (pu s.asked k (l, [])) :: prU s.bag :: R) _ by walk_at "sub")
theorem Ver.wf.begin {s : Ver} (w : s.wf) {k : Int} {l : Addr} (hf : fd s.begun k = none) (hl : s.begun.length < 500) : (s.begin k l).wf where
  l0 := w.l0
  l5 := w.l5
  bg := w.bg
  v0 := w.v0
  v9 := w.v9
  rl := w.rl
  kb := by
    show (pu s.asked k (l, [])).map (·.1) = (pu s.begun k s.version).map (·.1)
    rw [pu_new _ hf, pu_new _ (isNone_of (by rw [w.ask, hf]; rfl)), List.map_append, List.map_append, w.kb]
    rfl
  nd := pu_nd _ w.nd
  bl := by have := pu_len' s.begun k s.version; show (pu s.begun k s.version).length ≤ 500; omega
def Ver.finish (s : Ver) (k : Int) : Ver := { s with begun := rm s.begun k, asked := rm s.asked k }
theorem rm_keysV {κ α β : Type} [DecidableEq κ] {m : List (κ × α)} {n : List (κ × β)} (k : κ) (h : m.map (·.1) = n.map (·.1)) : (rm m k).map (·.1) = (rm n k).map (·.1) := by
  have key : ∀ {γ : Type} (l : List (κ × γ)), (rm l k).map (·.1) = (l.map (·.1)).filter fun z => decide (z ≠ k) := fun l => by unfold rm; rw [List.filter_map]; rfl
  rw [key, key, h]
theorem Ver.wf.finish {s : Ver} (w : s.wf) (k : Int) : (s.finish k).wf where
  l0 := w.l0
  l5 := w.l5
  bg := w.bg
  v0 := w.v0
  v9 := w.v9
  rl := w.rl
  kb := rm_keysV k w.kb
  nd := rm_nodup w.nd
  bl := Nat.le_trans (rm_len _ _) w.bl
def sp_vfinish (C : Addr) : Sp := fun vs H Q _ => ∃ (p : Addr) (s : Ver) (k : Int) (R : List U), vs = [.ref p, .int k] ∧ Has H (verU C p s :: R) ∧ s.wf ∧ 0 ≤ k ∧ k < s.hands ∧ (fd s.begun k).isSome = true ∧
  ∀ H', Has H' (verU C p (s.finish k) :: R) → Q .non H'
theorem pure_vfinish {K : PySem.W.Frag} {C : Addr} (hC : VeC K C) {vs : List V} {H : Hp} {Q : VK} {E : XK} (h : sp_vfinish C vs H Q E) : t_Versions_finish K C (sp_vlook_in C) ⟨fun _ H' => Q .non H', Q, fun _ _ => False, fun _ _ => False⟩ (start ["self", "hand"] vs) H := by
  obtain ⟨p, s, k, R, rfl, h0, w, c0, c1, hf, q⟩ := h
  obtain ⟨cl, n1, n2, n3, n4, n5⟩ := hC
  obtain ⟨b, hb⟩ := Option.isSome_iff_exists.mp hf
  obtain ⟨e, he⟩ := Option.isSome_iff_exists.mp (show (fd s.asked k).isSome = true by rw [w.ask]; exact hf)
  have hv1 : valV (mv V.int s.begun) k = some (.int b) := mv_some hb
  have hv2 : valV (mv asR s.asked) k = some (.ref e.1) := mv_some he
  obtain ⟨A, B, em, ep, er⟩ := pu_split w.nda he
  have hh := ve_cut h0
  unfold t_Versions_finish
  walk_at "go"
  refine ⟨p, s, k, R, rfl, h0, c0, c1, hf, ?_⟩
  clear h0
  walk_at "go"
  rename_i H1 h1 H2 h2
  rw [mv_drop, mv_drop] at h2
  refine q H2 (ve_in ?_)
  rw [show famU obA s.asked = famU obA (A ++ (k, e) :: B) by rw [em]] at h2
  have h3 := fam_out (h2.sub (show Sub (famU obA (A ++ (k, e) :: B) :: _) _ by walk_at "sub"))
  have h4 := fam_two (h3.sub (show Sub (famU obA A :: famU obA B :: _) _ from Sub.skip Sub.rf))
  rw [← er] at h4
  exact h4.sub (show Sub ([(p, _)] :: [(s.ra, _)] :: [(s.ba, _)] :: [(s.qa, _)] :: fmU obRow s.rows :: famU obA (rm s.asked k) :: prU s.bag :: R) _ by walk_at "sub")
/-- the last of a row at a version -/
def lastAt (row : List (Int × Int)) (v : Int) : Int := ((row.filter fun q => decide (q.1 ≤ v)).map (·.2)).getLastD 0
theorem at_last {α : Type} {l : List α} (h : l ≠ []) : atI l (-1) = l.getLast? := by
  unfold atI ixN
  have h1 : 0 < l.length := List.length_pos_iff.mpr h
  rw [if_neg (by omega), if_pos (by omega)]
  rw [List.getLast?_eq_getElem?]
  show l[((l.length : Int) + -1).toNat]? = _
  congr 1
  omega
theorem k_uneg {i : Int} {H : Hp} {Q : VK} (q : Q (.int (-i)) H) : rU (fun i => .int (-i)) (.int i) H Q := ⟨i, rfl, q⟩
def sp_value_at (C : Addr) : Sp := fun vs H Q _ => ∃ (p : Addr) (s : Ver) (c v : Int) (r : Addr × Prs) (R : List U), vs = [.ref p, .int c, .int v] ∧ Has H (verU C p s :: R) ∧ s.wf ∧ 0 ≤ c ∧ s.rows[c.toNat]? = some r ∧ (∃ q ∈ r.2, q.2.1 ≤ v) ∧
  ∀ H', Has H' (verU C p s :: R) → Q (.int (lastAt (r.2.map (·.2)) v)) H'
theorem pure_value_at {K : PySem.W.Frag} {C : Addr} (hC : VeC K C) {vs : List V} {H : Hp} {Q : VK} {E : XK} (h : sp_value_at C vs H Q E) : t_Versions_value_at K ⟨fun _ H' => Q .non H', Q, fun _ _ => False, fun _ _ => False⟩ (start ["self", "cell", "version", "made", "value"] vs) H := by
  obtain ⟨p, s, c, v, r, R, rfl, h0, w, c0, hr, hex, q⟩ := h
  obtain ⟨cl, n1, n2, n3, n4, n5⟩ := hC
  have hm : r ∈ s.rows := List.mem_of_getElem? hr
  have hrl := w.rl r hm
  have hv9 := w.v9
  have hh := ve_cut h0
  have hrp : ∀ H', Has H' ([(p, .ins C s.dx (veF (.int s.hands) (.ref s.ra) (.int s.version) (.ref s.ba) (.ref s.qa)))] :: [(s.ra, .lst (fmR s.rows))] :: [(s.ba, dI (mv V.int s.begun))] :: [(s.qa, dI (mv asR s.asked))] :: fmU obRow s.rows :: famU obA s.asked :: prU s.bag :: R) → H' r.1 = some (.lst (r.2.map fun q => V.ref q.1)) := fun H' h' => Has.fms (h'.sub (show Sub (fmU obRow s.rows :: _) _ by walk_at "sub")) r hm
  have ea : atI (fmR s.rows) c = some (.ref r.1) := at_n c0 (by unfold fmR; rw [List.getElem?_map, hr]; rfl)
  unfold t_Versions_value_at
  walk_at "go"
  refine k_lcG r.2 (fun q => V.ref q.1) (fun q => V.int q.2.2) (fun q => decide (q.2.1 ≤ v)) (fun q => [some (.ref p), some (.int c), some (.int v), some (.int q.2.1), some (.int q.2.2)]) hh hrp (by omega) (fun z hz => rfl) (fun z hz D M H' Q' h' q' => ?_) (fun z hz D M H' Q' h' q' => ?_) (fun z hz _ D M H' Q' h' q' => ?_) fun D H1 h1 => ?_
  · have hz2 : H' z.1 = some (.tup [.int z.2.1, .int z.2.2]) := Has.prs (h'.sub (show Sub (prU s.bag :: _) _ by walk_at "sub")) z (w.bg r hm z hz)
    walk_at "go"
    exact q'
  · walk_at "go"
    exact q' H' h'
  · walk_at "go"
    exact q' H' h'
  have e : ((r.2.filter fun q => decide (q.2.1 ≤ v)).map fun q => V.int q.2.2) = ((((r.2.map (·.2)).filter fun q => decide (q.1 ≤ v)).map (·.2)).map V.int) := by
    rw [List.filter_map, List.map_map, List.map_map]
    rfl
  rw [e] at h1
  have hne : (((r.2.map (·.2)).filter fun q => decide (q.1 ≤ v)).map (·.2)) ≠ [] := fun e0 => by
    obtain ⟨x, hx, hxv⟩ := hex
    have : x.2 ∈ (r.2.map (·.2)).filter fun q => decide (q.1 ≤ v) := List.mem_filter.mpr ⟨List.mem_map.mpr ⟨x, hx, rfl⟩, decide_eq_true hxv⟩
    rw [List.map_eq_nil_iff.mp e0] at this
    exact absurd this List.not_mem_nil
  have el : atI ((((r.2.map (·.2)).filter fun q => decide (q.1 ≤ v)).map (·.2)).map V.int) (-1) = some (.int (lastAt (r.2.map (·.2)) v)) := by
    rw [at_last (fun e0 => hne (List.map_eq_nil_iff.mp e0)), List.getLast?_map]
    unfold lastAt
    rw [List.getLastD_eq_getLast?]
    cases hg : (((r.2.map (·.2)).filter fun q => decide (q.1 ≤ v)).map (·.2)).getLast? with
    | none => exact absurd (List.getLast?_eq_none_iff.mp hg) hne
    | some z => rfl
  clear hh
  walk_at "go"
  refine k_uneg ?_
  refine k_ixL h1.g0 el ?_
  exact q H1 (ve_in (h1.sub (Sub.skip Sub.rf)))
def Ver.ask (s : Ver) (k c : Int) (l : Addr) (xs : List Int) : Ver := { s with asked := pu s.asked k (l, xs ++ [c]) }
theorem mvA_same {A B : List (Int × (Addr × List Int))} {k : Int} {l : Addr} {xs ys : List Int} : mv asR (A ++ (k, (l, xs)) :: B) = mv asR (A ++ (k, (l, ys)) :: B) := by unfold mv; rw [List.map_append, List.map_append]; rfl
def sp_vread (C : Addr) : Sp := fun vs H Q _ => ∃ (p : Addr) (s : Ver) (k c b : Int) (l : Addr) (xs : List Int) (r : Addr × Prs) (R : List U), vs = [.ref p, .int k, .int c] ∧ Has H (verU C p s :: R) ∧ s.wf ∧ 0 ≤ k ∧ k < s.hands ∧ fd s.begun k = some b ∧ fd s.asked k = some (l, xs) ∧ xs.length < 1000 ∧ 0 ≤ c ∧ s.rows[c.toNat]? = some r ∧ (∃ q ∈ r.2, q.2.1 ≤ b) ∧
  ∀ H', Has H' (verU C p (s.ask k c l xs) :: R) → Q (.int (lastAt (r.2.map (·.2)) b)) H'
theorem Ver.wf.ask' {s : Ver} (w : s.wf) {k : Int} (c : Int) (l : Addr) {xs : List Int} (h : (fd s.asked k).isSome = true) : (s.ask k c l xs).wf := ⟨w.l0, w.l5, w.bg, w.v0, w.v9, w.rl, (by show (pu s.asked k (l, xs ++ [c])).map (·.1) = _; rw [pu_keys_old _ h]; exact w.kb), w.nd, w.bl⟩
theorem pure_vread {K : PySem.W.Frag} {C : Addr} (hC : VeC K C) {vs : List V} {H : Hp} {Q : VK} {E : XK} (h : sp_vread C vs H Q E) : t_Versions_read K C (sp_vlook_in C) (sp_vlook_cell C) (sp_value_at C) ⟨fun _ H' => Q .non H', Q, fun _ _ => False, fun _ _ => False⟩ (start ["self", "hand", "cell"] vs) H := by
  obtain ⟨p, s, k, c, b, l, xs, r, R, rfl, h0, w, k0, k1, hb, ha, hx, c0, hr, hex, q⟩ := h
  obtain ⟨cl, n1, n2, n3, n4, n5⟩ := hC
  have hcl : c.toNat < s.rows.length := by
    rcases Nat.lt_or_ge c.toNat s.rows.length with h | h
    · exact h
    · rw [List.getElem?_eq_none h] at hr; cases hr
  have hv1 : valV (mv V.int s.begun) k = some (.int b) := mv_some hb
  have hv2 : valV (mv asR s.asked) k = some (.ref l) := mv_some ha
  obtain ⟨A, B, em, ep, er⟩ := pu_split w.nda ha
  have hh := ve_cut h0
  unfold t_Versions_read
  walk_at "go"
  refine ⟨p, s, k, R, rfl, h0, k0, k1, by rw [hb]; rfl, ?_⟩
  walk_at "go"
  refine ⟨p, s, c, R, rfl, h0, c0, by omega, ?_⟩
  clear h0
  rw [show famU obA s.asked = famU obA (A ++ (k, (l, xs)) :: B) by rw [em]] at hh
  have h1 := fam_out (hh.sub (show Sub (famU obA (A ++ (k, (l, xs)) :: B) :: _) _ by walk_at "sub"))
  have h1 : Has H ([(l, .lst (xs.map V.int))] :: _) := h1
  clear hh
  walk_at "go"
  rename_i H2 h2
  rw [show xs.map V.int ++ [.int c] = (xs ++ [c]).map V.int by rw [List.map_append]; rfl] at h2
  have h3 := fam_in (k := k) (b := (l, xs ++ [c])) (h2.sub (show Sub (obA (l, xs ++ [c]) :: famU obA A :: famU obA B :: _) _ by walk_at "sub"))
  rw [em, mvA_same (ys := xs ++ [c])] at h3
  rw [← ep] at h3
  have h4 := h3.sub (show Sub ([(p, _)] :: [(s.ra, _)] :: [(s.ba, _)] :: [(s.qa, _)] :: fmU obRow s.rows :: famU obA (pu s.asked k (l, xs ++ [c])) :: prU s.bag :: R) _ by walk_at "sub")
  have h5 := ve_in (s := s.ask k c l xs) h4
  clear h1 h2 h3
  walk_at "go"
  refine ⟨p, s.ask k c l xs, c, b, r, R, rfl, h5, w.ask' c l (by rw [ha]; rfl), c0, hr, hex, fun H' h' => ?_⟩
  walk_at "go"
  exact q H' h'
def sp_version_now (C : Addr) : Sp := fun vs H Q _ => ∃ (p : Addr) (s : Ver) (R : List U), vs = [.ref p] ∧ Has H (verU C p s :: R) ∧ Q (.int s.version) H
theorem pure_version_now {K : PySem.W.Frag} {C : Addr} (hC : VeC K C) {vs : List V} {H : Hp} {Q : VK} {E : XK} (h : sp_version_now C vs H Q E) : t_Versions_version_now K ⟨fun _ H' => Q .non H', Q, fun _ _ => False, fun _ _ => False⟩ (start ["self"] vs) H := by
  obtain ⟨p, s, R, rfl, hh, q⟩ := h
  obtain ⟨cl, n1, n2, n3, n4, n5⟩ := hC
  replace hh := ve_cut hh
  unfold t_Versions_version_now
  walk_at "go"
  exact q
/-- the newest values -/
def newest (rows : VRows) : List Int := rows.map fun r => (r.2.map (·.2.2)).getLastD 0
def sp_vnow (C : Addr) : Sp := fun vs H Q _ => ∃ (p : Addr) (s : Ver) (R : List U), vs = [.ref p] ∧ Has H (verU C p s :: R) ∧ s.wf ∧ (∀ r ∈ s.rows, r.2 ≠ []) ∧
  ∀ d H', Has H' ([(d, .lst ((newest s.rows).map V.int))] :: verU C p s :: R) → Q (.ref d) H'
theorem pure_vnow {K : PySem.W.Frag} {C : Addr} (hC : VeC K C) {vs : List V} {H : Hp} {Q : VK} {E : XK} (h : sp_vnow C vs H Q E) : t_Versions_now K ⟨fun _ H' => Q .non H', Q, fun _ _ => False, fun _ _ => False⟩ (start ["self", "row"] vs) H := by
  obtain ⟨p, s, R, rfl, hh, w, hne, q⟩ := h
  obtain ⟨cl, n1, n2, n3, n4, n5⟩ := hC
  have h5 := w.l5
  replace hh := ve_cut hh
  unfold t_Versions_now
  walk_at "go"
  refine k_lcM s.rows (fun r => V.ref r.1) (fun r => V.int ((r.2.map (·.2.2)).getLastD 0)) hh (fun H' h' => by walk_at "hp") (by omega) (fun r hr D M H' Q' h' q' => ?_) fun D H1 h1 => ?_
  · have hrp : H' r.1 = some (.lst (fmR r.2)) := Has.fms (h'.sub (show Sub (fmU obRow s.rows :: _) _ by walk_at "sub")) r hr
    have h0 := hne r hr
    have hg : r.2.getLast? = some (r.2.getLast h0) := List.getLast?_eq_some_getLast h0
    have hz := w.bg r hr _ (List.getLast_mem h0)
    have hz2 : H' (r.2.getLast h0).1 = some (.tup [.int (r.2.getLast h0).2.1, .int (r.2.getLast h0).2.2]) := Has.prs (h'.sub (show Sub (prU s.bag :: _) _ by walk_at "sub")) _ hz
    have el : atI (fmR r.2) (-1) = some (.ref (r.2.getLast h0).1) := by
      unfold fmR
      rw [at_last (fun e0 => h0 (List.map_eq_nil_iff.mp e0)), List.getLast?_map, hg]
      rfl
    have ev : (r.2.map (·.2.2)).getLastD 0 = (r.2.getLast h0).2.2 := by rw [List.getLastD_eq_getLast?, List.getLast?_map, hg]; rfl
    rw [ev] at q'
    walk_at "go"
    refine k_uneg ?_
    walk_at "go"
    exact q' H' h'
  rw [show s.rows.map (fun r => V.int ((r.2.map (·.2.2)).getLastD 0)) = (newest s.rows).map V.int by unfold newest; rw [List.map_map]; rfl] at h1
  refine q D H1 ?_
  have h2 := ve_in (C := C) (p := p) (s := s) (h1.sub (show Sub ([(p, _)] :: [(s.ra, _)] :: [(s.ba, _)] :: [(s.qa, _)] :: fmU obRow s.rows :: famU obA s.asked :: prU s.bag :: _) _ by walk_at "sub"))
  exact h2.sub (show Sub ([(D, _)] :: verU C p s :: R) _ by walk_at "sub")
def sp_vkept (C : Addr) : Sp := fun vs H Q _ => ∃ (p : Addr) (s : Ver) (c : Int) (r : Addr × Prs) (R : List U), vs = [.ref p, .int c] ∧ Has H (verU C p s :: R) ∧ s.wf ∧ 0 ≤ c ∧ s.rows[c.toNat]? = some r ∧
  ∀ d H', Has H' ([(d, .lst ((r.2.map (·.2.1)).map V.int))] :: verU C p s :: R) → Q (.ref d) H'
theorem pure_vkept {K : PySem.W.Frag} {C : Addr} (hC : VeC K C) {vs : List V} {H : Hp} {Q : VK} {E : XK} (h : sp_vkept C vs H Q E) : t_Versions_kept K C (sp_vlook_cell C) ⟨fun _ H' => Q .non H', Q, fun _ _ => False, fun _ _ => False⟩ (start ["self", "cell", "made", "value"] vs) H := by
  obtain ⟨p, s, c, r, R, rfl, h0, w, c0, hr, q⟩ := h
  obtain ⟨cl, n1, n2, n3, n4, n5⟩ := hC
  have hcl : c.toNat < s.rows.length := by
    rcases Nat.lt_or_ge c.toNat s.rows.length with h | h
    · exact h
    · rw [List.getElem?_eq_none h] at hr; cases hr
  have hm : r ∈ s.rows := List.mem_of_getElem? hr
  have hrl := w.rl r hm
  have hv9 := w.v9
  have hh := ve_cut h0
  have hrp : ∀ H', Has H' ([(p, .ins C s.dx (veF (.int s.hands) (.ref s.ra) (.int s.version) (.ref s.ba) (.ref s.qa)))] :: [(s.ra, .lst (fmR s.rows))] :: [(s.ba, dI (mv V.int s.begun))] :: [(s.qa, dI (mv asR s.asked))] :: fmU obRow s.rows :: famU obA s.asked :: prU s.bag :: R) → H' r.1 = some (.lst (r.2.map fun q => V.ref q.1)) := fun H' h' => Has.fms (h'.sub (show Sub (fmU obRow s.rows :: _) _ by walk_at "sub")) r hm
  have ea : atI (fmR s.rows) c = some (.ref r.1) := at_n c0 (by unfold fmR; rw [List.getElem?_map, hr]; rfl)
  unfold t_Versions_kept
  walk_at "go"
  refine ⟨p, s, c, R, rfl, h0, c0, by omega, ?_⟩
  clear h0
  walk_at "go"
  refine k_lcG r.2 (fun q => V.ref q.1) (fun q => V.int q.2.1) (fun _ => true) (fun q => [some (.ref p), some (.int c), some (.int q.2.1), some (.int q.2.2)]) hh hrp (by omega) (fun z hz => rfl) (fun z hz D M H' Q' h' q' => ?_) (fun z hz D M H' Q' h' q' => ?_) (fun z hz _ D M H' Q' h' q' => ?_) fun D H1 h1 => ?_
  · have hz2 : H' z.1 = some (.tup [.int z.2.1, .int z.2.2]) := Has.prs (h'.sub (show Sub (prU s.bag :: _) _ by walk_at "sub")) z (w.bg r hm z hz)
    walk_at "go"
    exact q'
  · walk_at "go"
    exact q' H' h'
  · walk_at "go"
    exact q' H' h'
  rw [filt_true, show r.2.map (fun q => V.int q.2.1) = (r.2.map (·.2.1)).map V.int by rw [List.map_map]; rfl] at h1
  refine q D H1 ?_
  have h2 := ve_in (C := C) (p := p) (s := s) (h1.sub (show Sub ([(p, _)] :: [(s.ra, _)] :: [(s.ba, _)] :: [(s.qa, _)] :: fmU obRow s.rows :: famU obA s.asked :: prU s.bag :: _) _ by walk_at "sub"))
  exact h2.sub (show Sub ([(D, _)] :: verU C p s :: R) _ by walk_at "sub")
end La
namespace La
open PySem L2 Sy
local macro_rules | `(tactic| walk_at "fl") => `(tactic| first | assumption | exact ve_hands | exact ve_rows | exact ve_version | exact ve_begun | exact ve_asked | kernel_rfl)
local macro_rules | `(tactic| walk_at "put") => `(tactic| first | exact ve_put_hands | exact ve_put_rows | exact ve_put_version | exact ve_put_begun | exact ve_put_asked | exact ve_p1 | exact ve_p2 | exact ve_p3 | exact ve_p4 | exact ve_p5)
local macro_rules | `(tactic| walk_at "fsl") => `(tactic| first | assumption | exact ve_len | (show 0 < 1000; decide) | (show 1 < 1000; decide) | (show 2 < 1000; decide) | (show 3 < 1000; decide) | (show 4 < 1000; decide))
/-- rows that were written: each cell's pairs behind it -/
def addOf (ps : List (Int × Int)) (v : Int) (i : Nat) : List (Int × Int) := (ps.filter fun q => decide (q.1 = (i : Int))).map fun q => (v, q.2)
def WRel (R0 R : VRows) (ps : List (Int × Int)) (v : Int) : Prop := R.length = R0.length ∧ ∀ (i : Nat) r, R[i]? = some r → ∃ r0, R0[i]? = some r0 ∧ r.2.map (·.2) = r0.2.map (·.2) ++ addOf ps v i
theorem WRel.refl (R : VRows) (v : Int) : WRel R R [] v := ⟨rfl, fun i r h => ⟨r, h, (List.append_nil _).symm⟩⟩
theorem WRel.step {R0 : VRows} {ps : List (Int × Int)} {v y : Int} {A B : VRows} {a t : Addr} {m : Prs} (h : WRel R0 (A ++ (a, m) :: B) ps v) : WRel R0 (A ++ (a, m ++ [(t, (v, y))]) :: B) (ps ++ [((A.length : Int), y)]) v := by
  obtain ⟨h1, h2⟩ := h
  refine ⟨by rw [List.length_append, List.length_cons] at h1 ⊢; exact h1, fun i r hr => ?_⟩
  by_cases e : i = A.length
  · subst e
    rw [List.getElem?_append_right (Nat.le_refl _), Nat.sub_self] at hr
    have hr : (a, m ++ [(t, (v, y))]) = r := Option.some.inj hr
    obtain ⟨r0, g1, g2⟩ := h2 A.length (a, m) (by rw [List.getElem?_append_right (Nat.le_refl _), Nat.sub_self]; rfl)
    refine ⟨r0, g1, ?_⟩
    rw [← hr]
    show (m ++ [(t, (v, y))]).map (·.2) = _
    have g2 : m.map (·.2) = _ := g2
    unfold addOf at g2 ⊢
    rw [List.map_append, g2, List.filter_append, List.map_append, ← List.append_assoc]
    simp
  · have hr2 : (A ++ (a, m) :: B)[i]? = some r := by
      by_cases hk : i < A.length
      · rw [List.getElem?_append_left hk] at hr ⊢
        exact hr
      · have hd : i - A.length = (i - A.length - 1) + 1 := by omega
        rw [List.getElem?_append_right (by omega), hd] at hr ⊢
        exact hr
    obtain ⟨r0, g1, g2⟩ := h2 i r hr2
    refine ⟨r0, g1, ?_⟩
    rw [g2]
    unfold addOf
    rw [List.filter_append, show [((A.length : Int), y)].filter (fun q => decide (q.1 = (i : Int))) = [] from by rw [List.filter_cons, if_neg (by simpa using fun h : (A.length : Int) = (i : Int) => e (by omega))]; rfl, List.append_nil]
def sp_vwrite (C : Addr) : Sp := fun vs H Q _ => ∃ (p pa : Addr) (s : Ver) (ps : Prs) (R : List U), vs = [.ref p, .ref pa] ∧ Has H (verU C p s :: [(pa, .lst (prR ps))] :: prU ps :: R) ∧ s.wf ∧ s.version < 500 ∧ PrOk ps s.rows.length ∧
  ∀ (rows : VRows) (bag : Prs) H', WRel s.rows rows (ps.map (·.2)) (s.version + 1) → (∀ r ∈ rows, ∀ q ∈ r.2, q ∈ bag) → Has H' (verU C p { s with version := s.version + 1, rows := rows, bag := bag } :: [(pa, .lst (prR ps))] :: prU ps :: R) → Q (.int (s.version + 1)) H'
theorem add_len {ps : List (Int × Int)} {v : Int} {i : Nat} (h : (ps.map (·.1)).Pairwise (· < ·)) : (addOf ps v i).length ≤ 1 := by
  unfold addOf
  rw [List.length_map]
  induction ps with
  | nil => exact Nat.zero_le _
  | cons q r ih =>
    rw [List.map_cons] at h
    obtain ⟨h1, h2⟩ := List.pairwise_cons.mp h
    by_cases e : q.1 = (i : Int)
    · rw [List.filter_cons, if_pos (decide_eq_true e)]
      have : r.filter (fun q => decide (q.1 = (i : Int))) = [] := List.filter_eq_nil_iff.mpr fun x hx hc => by
        have := h1 x.1 (List.mem_map.mpr ⟨x, hx, rfl⟩)
        have := of_decide_eq_true hc
        omega
      rw [this]
      exact Nat.le_refl _
    · rw [List.filter_cons, if_neg (by simpa using e)]
      exact ih h2
theorem Ver.wf.write {s : Ver} (w : s.wf) (hv : s.version < 500) {rows : VRows} {bag : Prs} {ps : List (Int × Int)} (hw : WRel s.rows rows ps (s.version + 1)) (hr : (ps.map (·.1)).Pairwise (· < ·)) (hb : ∀ r ∈ rows, ∀ q ∈ r.2, q ∈ bag) : ({ s with version := s.version + 1, rows := rows, bag := bag } : Ver).wf where
  l0 := by show 0 < rows.length; rw [hw.1]; exact w.l0
  l5 := by show rows.length ≤ 5; rw [hw.1]; exact w.l5
  bg := hb
  v0 := by have := w.v0; show 0 ≤ s.version + 1; omega
  v9 := by show s.version + 1 ≤ 500; omega
  rl := fun r hm => by
    obtain ⟨i, hi⟩ := List.getElem?_of_mem hm
    obtain ⟨r0, g1, g2⟩ := hw.2 i r hi
    have h1 := w.rl r0 (List.mem_of_getElem? g1)
    have h2 := congrArg List.length g2
    rw [List.length_append, List.length_map, List.length_map] at h2
    have h3 := add_len (v := s.version + 1) (i := i) hr
    show (r.2.length : Int) ≤ s.version + 1 + 1
    omega
  kb := w.kb
  nd := w.nd
  bl := w.bl
theorem pure_vwrite {K : PySem.W.Frag} {C : Addr} (hC : VeC K C) {vs : List V} {H : Hp} {Q : VK} {E : XK} (h : sp_vwrite C vs H Q E) : t_Versions_write K C (sp_vlook_pairs C) ⟨fun _ H' => Q .non H', Q, fun _ _ => False, fun _ _ => False⟩ (start ["self", "pairs", "cell", "value"] vs) H := by
  obtain ⟨p, pa, s, ps, R, rfl, h0, w, hv, ok, q⟩ := h
  obtain ⟨cl, n1, n2, n3, n4, n5⟩ := hC
  have hp := (ve_cut h0).g0
  have hv0 := w.v0
  unfold t_Versions_write
  walk_at "go"
  refine ⟨p, pa, s, ps, R, rfl, h0, ok, fun H1 h1 => ?_⟩
  have hh := ve_cut h1
  clear h0 h1 hp
  walk_at "go"
  rename_i H2 h2
  clear hh
  refine k_forL (xs := prR ps) (fun j σ H' => ∃ (rows : VRows) (bag : Prs) (w2 w3 : Option V), σ = [some (.ref p), some (.ref pa), w2, w3] ∧ WRel s.rows rows ((ps.map (·.2)).take j) (s.version + 1) ∧ (∀ r ∈ rows, ∀ q ∈ r.2, q ∈ bag) ∧
    Has H' ([(p, .ins C s.dx (veF (.int s.hands) (.ref s.ra) (.int (s.version + 1)) (.ref s.ba) (.ref s.qa)))] :: [(s.ra, .lst (fmR rows))] :: [(s.ba, dI (mv V.int s.begun))] :: [(s.qa, dI (mv asR s.asked))] :: fmU obRow rows :: famU obA s.asked :: prU bag :: [(pa, .lst (prR ps))] :: prU ps :: R)) h2.g7 ⟨s.rows, s.bag, none, none, rfl, WRel.refl _ _, w.bg, h2⟩ (fun j σ H' h' => by obtain ⟨_, _, _, _, _, _, _, h'⟩ := h'; exact h'.g7) (fun j x σ H' hx h' => ?_) (fun σ H' h' => ?_)
  · obtain ⟨rows, bag, w2, w3, rfl, hw, hb, h'⟩ := h'
    unfold prR fmR at hx
    rw [List.getElem?_map] at hx
    obtain ⟨z, hz, rfl⟩ := Option.map_eq_some_iff.mp hx
    have hzm := List.mem_of_getElem? hz
    have hz2 : H' z.1 = some (.tup [.int z.2.1, .int z.2.2]) := Has.prs (h'.sub (show Sub (prU ps :: _) _ by walk_at "sub")) z hzm
    obtain ⟨c0, c1⟩ := ok.cr z hzm
    have hcl : z.2.1.toNat < rows.length := by rw [hw.1]; omega
    obtain ⟨A, B, erow, eA⟩ := split_at (List.getElem?_eq_getElem hcl)
    generalize rows[z.2.1.toNat] = rr at erow
    obtain ⟨la, m⟩ := rr
    subst erow
    have hml : (m.length : Int) ≤ 600 := by
      obtain ⟨r0, g1, g2⟩ := hw.2 A.length (la, m) (by rw [List.getElem?_append_right (Nat.le_refl _), Nat.sub_self]; rfl)
      have h1 := w.rl r0 (List.mem_of_getElem? g1)
      have h2 := congrArg List.length g2
      rw [List.length_append, List.length_map, List.length_map] at h2
      have h3 : (addOf ((ps.map (·.2)).take j) (s.version + 1) A.length).length ≤ 50 := by
        unfold addOf
        rw [List.length_map]
        have a1 := List.length_filter_le (fun q : Int × Int => decide (q.1 = (A.length : Int))) ((ps.map (·.2)).take j)
        have a2 := List.length_take_le' j (ps.map (·.2))
        rw [List.length_map] at a2
        have := ok.l
        omega
      have h2 : m.length = r0.2.length + _ := h2
      omega
    have ea : atI (fmR (A ++ (la, m) :: B)) z.2.1 = some (.ref la) := fmR_at c0 eA
    have e1 : (fmR m).length < sizeLine := by rw [fmR_len, sizeLine_eq]; omega
    have h3 := fm_out (h'.sub (show Sub (fmU obRow (A ++ (la, m) :: B) :: _) _ by walk_at "sub"))
    have h3 : Has H' ([(la, .lst (fmR m))] :: _) := h3
    clear h'
    walk_at "go"
    rename_i tp H3 h4 H4 h5
    refine ⟨A ++ (la, m ++ [(tp, (s.version + 1, z.2.2))]) :: B, bag ++ [(tp, (s.version + 1, z.2.2))], _, _, rfl, ?_, fun r hr q hq => ?_, ?_⟩
    · have e2 : (ps.map (·.2)).take (j + 1) = (ps.map (·.2)).take j ++ [((A.length : Int), z.2.2)] := by
        rw [List.take_add_one, List.getElem?_map, hz]
        show _ ++ [z.2] = _
        rw [show z.2 = ((A.length : Int), z.2.2) from Prod.ext (by show z.2.1 = (A.length : Int); omega) rfl]
      rw [e2]
      exact hw.step
    · rcases List.mem_append.mp hr with hr | hr
      · exact List.mem_append.mpr (.inl (hb r (List.mem_append.mpr (.inl hr)) q hq))
      · rcases List.mem_cons.mp hr with hr | hr
        · rw [hr] at hq
          rcases List.mem_append.mp hq with hq | hq
          · exact List.mem_append.mpr (.inl (hb (la, m) (List.mem_append.mpr (.inr (List.mem_cons.mpr (.inl rfl)))) q hq))
          · exact List.mem_append.mpr (.inr hq)
        · exact List.mem_append.mpr (.inl (hb r (List.mem_append.mpr (.inr (List.mem_cons_of_mem _ hr))) q hq))
    · rw [← fmR_snoc (b := (s.version + 1, z.2.2))] at h5
      have h6 := fm_in (ob := obRow) (b := m ++ [(tp, (s.version + 1, z.2.2))]) (h5.sub (show Sub ([(la, obRow (m ++ [(tp, (s.version + 1, z.2.2))]))] :: fmU obRow A :: fmU obRow B :: _) _ by walk_at "sub"))
      rw [fmR_mid (c := m ++ [(tp, (s.version + 1, z.2.2))])] at h6
      have h7 := Has.op.mpr (h6.sub (show Sub (prU bag :: [(tp, obP (s.version + 1, z.2.2))] :: _) _ by walk_at "sub"))
      rw [← fmU_snoc] at h7
      exact h7.sub (show Sub ([(p, _)] :: [(s.ra, _)] :: [(s.ba, _)] :: [(s.qa, _)] :: fmU obRow (A ++ (la, m ++ [(tp, (s.version + 1, z.2.2))]) :: B) :: famU obA s.asked :: prU (bag ++ [(tp, (s.version + 1, z.2.2))]) :: [(pa, _)] :: prU ps :: R) _ by walk_at "sub")
  · obtain ⟨rows, bag, w2, w3, rfl, hw, hb, h'⟩ := h'
    rw [show (prR ps).length = (ps.map (·.2)).length by rw [List.length_map]; exact fmR_len ps, List.take_length] at hw
    walk_at "go"
    exact q rows bag H' hw hb (ve_in (s := { s with version := s.version + 1, rows := rows, bag := bag }) h')
end La
namespace La
open PySem L2 Sy
local macro_rules | `(tactic| walk_at "fl") => `(tactic| first | assumption | exact ve_hands | exact ve_rows | exact ve_version | exact ve_begun | exact ve_asked | kernel_rfl)
local macro_rules | `(tactic| walk_at "put") => `(tactic| first | exact ve_put_hands | exact ve_put_rows | exact ve_put_version | exact ve_put_begun | exact ve_put_asked | exact ve_p1 | exact ve_p2 | exact ve_p3 | exact ve_p4 | exact ve_p5)
local macro_rules | `(tactic| walk_at "fsl") => `(tactic| first | assumption | exact ve_len | (show 0 < 1000; decide) | (show 1 < 1000; decide) | (show 2 < 1000; decide) | (show 3 < 1000; decide) | (show 4 < 1000; decide))
/-! ### trim -/
theorem rise_last {l : List Int} (h : l.Pairwise (· < ·)) (hne : l ≠ []) : ∀ y ∈ l, y ≤ l.getLastD 0 := by
  intro y hy
  rw [List.getLastD_eq_getLast?, List.getLast?_eq_some_getLast hne]
  show y ≤ l.getLast hne
  have e := List.dropLast_concat_getLast hne
  rw [← e] at hy h
  rcases List.mem_append.mp hy with h1 | h1
  · exact Int.le_of_lt ((List.pairwise_append.mp h).2.2 y h1 _ (List.mem_singleton.mpr rfl))
  · rw [List.mem_singleton.mp h1]; exact Int.le_refl _
theorem last_mem {l : List Int} (hne : l ≠ []) : l.getLastD 0 ∈ l := by
  rw [List.getLastD_eq_getLast?, List.getLast?_eq_some_getLast hne]
  exact List.getLast_mem hne
theorem k_maxR {K : PySem.W.Frag} {a : Addr} {H : Hp} {Q : VK} {ns : List Int} (hp : H a = some (.lst (ns.map V.int))) (hne : ns ≠ []) (hr : ns.Pairwise (· < ·)) (q : Q (.int (ns.getLastD 0)) H) : rMax K [.ref a] H Q :=
  ⟨a, ns, rfl, SqL.of hp, List.length_pos_iff.mpr hne, fun m hm hy => by rw [show m = ns.getLastD 0 from Int.le_antisymm (rise_last hr hne m hm) (hy _ (last_mem hne))]; exact q⟩
def maxLe (row : List (Int × Int)) (v : Int) : Int := ((row.filter fun q => decide (q.1 ≤ v)).map (·.1)).getLastD 0
def trimR (zs : List Int) (m : Prs) : Prs := m.filter fun q => decide (q.2.1 ∈ zs.map (maxLe (m.map (·.2))))
def TRel (R0 R : VRows) (zs : List Int) (j : Nat) : Prop := R.length = R0.length ∧ ∀ (i : Nat) r, R[i]? = some r → ∃ r0, R0[i]? = some r0 ∧ (i < j → r.2 = trimR zs r0.2) ∧ (¬ i < j → r = r0)
def lens (R : VRows) : Int := (R.map fun r => (r.2.length : Int)).sum
theorem lens_mid (A B : VRows) (a : Addr) (m : Prs) : lens (A ++ (a, m) :: B) = lens A + ((m.length : Int) + lens B) := by unfold lens; rw [List.map_append, List.sum_append]; rfl
theorem TRel.refl (R : VRows) (zs : List Int) : TRel R R zs 0 := ⟨rfl, fun i r h => ⟨r, h, fun h => absurd h (Nat.not_lt_zero _), fun _ => rfl⟩⟩
theorem TRel.step {R0 : VRows} {zs : List Int} {A B : VRows} {a D : Addr} {m : Prs} (h : TRel R0 (A ++ (a, m) :: B) zs A.length) : TRel R0 (A ++ (D, trimR zs m) :: B) zs (A.length + 1) := by
  obtain ⟨h1, h2⟩ := h
  refine ⟨by rw [List.length_append, List.length_cons] at h1 ⊢; exact h1, fun i r hr => ?_⟩
  by_cases e : i = A.length
  · subst e
    rw [List.getElem?_append_right (Nat.le_refl _), Nat.sub_self] at hr
    have hr : (D, trimR zs m) = r := Option.some.inj hr
    obtain ⟨r0, g1, g2, g3⟩ := h2 A.length (a, m) (by rw [List.getElem?_append_right (Nat.le_refl _), Nat.sub_self]; rfl)
    refine ⟨r0, g1, fun _ => ?_, fun hn => absurd (Nat.lt_succ_self _) hn⟩
    rw [← hr, ← g3 (Nat.lt_irrefl _)]
  · have hr2 : (A ++ (a, m) :: B)[i]? = some r := by
      by_cases hk : i < A.length
      · rw [List.getElem?_append_left hk] at hr ⊢
        exact hr
      · have hd : i - A.length = (i - A.length - 1) + 1 := by omega
        rw [List.getElem?_append_right (by omega), hd] at hr ⊢
        exact hr
    obtain ⟨r0, g1, g2, g3⟩ := h2 i r hr2
    exact ⟨r0, g1, fun hi => g2 (by omega), fun hi => g3 (by omega)⟩
theorem fmR_set {β : Type} {A B : List (Addr × β)} {a D : Addr} {m m' : β} : (fmR (A ++ (a, m) :: B)).set A.length (.ref D) = fmR (A ++ (D, m') :: B) := by
  unfold fmR
  rw [List.map_append, List.map_append, List.set_append_right _ _ (by rw [List.length_map]; exact Nat.le_refl _), List.length_map, Nat.sub_self]
  rfl
structure TrOk (s : Ver) : Prop where
  wf : s.wf
  rise : ∀ r ∈ s.rows, (r.2.map (·.2.1)).Pairwise (· < ·)
  has : ∀ r ∈ s.rows, ∀ z ∈ s.begun.map (·.2) ++ [s.version], ∃ q ∈ r.2, q.2.1 ≤ z
  few : s.begun.length < 60
def sp_vtrim (C : Addr) : Sp := fun vs H Q _ => ∃ (p : Addr) (s : Ver) (R : List U), vs = [.ref p] ∧ Has H (verU C p s :: R) ∧ TrOk s ∧
  ∀ (zs : List Int) (rows : VRows) H', zs.Pairwise (· < ·) → (∀ z, z ∈ zs ↔ z ∈ s.begun.map (·.2) ++ [s.version]) → TRel s.rows rows zs s.rows.length → Has H' (verU C p { s with rows := rows } :: R) → Q (.int (lens s.rows - lens rows)) H'
theorem Ver.wf.trim {s : Ver} (w : s.wf) {rows : VRows} {zs : List Int} (h : TRel s.rows rows zs s.rows.length) : ({ s with rows := rows } : Ver).wf := by
  have key : ∀ r ∈ rows, ∃ r0 ∈ s.rows, r.2 = trimR zs r0.2 := fun r hr => by
    obtain ⟨i, hi⟩ := List.getElem?_of_mem hr
    obtain ⟨r0, g1, g2, g3⟩ := h.2 i r hi
    have hl : i < rows.length := by
      rcases Nat.lt_or_ge i rows.length with h | h
      · exact h
      · rw [List.getElem?_eq_none h] at hi; cases hi
    exact ⟨r0, List.mem_of_getElem? g1, g2 (by rw [← h.1]; exact hl)⟩
  refine ⟨by show 0 < rows.length; rw [h.1]; exact w.l0, by show rows.length ≤ 5; rw [h.1]; exact w.l5, fun r hr q hq => ?_, w.v0, w.v9, fun r hr => ?_, w.kb, w.nd, w.bl⟩
  · obtain ⟨r0, h0, e⟩ := key r hr
    rw [e] at hq
    exact w.bg r0 h0 q (List.mem_filter.mp hq).1
  · obtain ⟨r0, h0, e⟩ := key r hr
    have h1 := w.rl r0 h0
    have h2 := List.length_filter_le (fun q : Addr × (Int × Int) => decide (q.2.1 ∈ zs.map (maxLe (r0.2.map (·.2))))) r0.2
    rw [e]
    show ((r0.2.filter _).length : Int) ≤ s.version + 1
    omega
theorem pure_vtrim {K : PySem.W.Frag} {C : Addr} (hC : VeC K C) {vs : List V} {H : Hp} {Q : VK} {E : XK} (h : sp_vtrim C vs H Q E) : t_Versions_trim K ⟨fun _ H' => Q .non H', Q, fun _ _ => False, fun _ _ => False⟩ (start ["self", "seen", "many", "cell", "row", "needed", "made", "value", "version", "one"] vs) H := by
  obtain ⟨p, s, R, rfl, h0, ⟨w, hrise, hhas, hfew⟩, q⟩ := h
  obtain ⟨cl, n1, n2, n3, n4, n5⟩ := hC
  have hv9 := w.v9
  have hl5 := w.l5
  have hh := ve_cut h0
  clear h0
  have ebl : ((mv V.int s.begun).map (·.2)).length = s.begun.length := by rw [List.length_map, mv_len]
  have szb : ((mv V.int s.begun).map (·.2)).length + [V.int s.version].length ≤ sizeLine := by rw [ebl, sizeLine_eq]; show s.begun.length + 1 ≤ _; omega
  unfold t_Versions_trim
  walk_at "go"
  rename_i wd d1 H1 h1 d2 H2 h2 d3 H3 h3
  have e0 : (mv V.int s.begun).map (·.2) ++ [V.int s.version] = (s.begun.map (·.2) ++ [s.version]).map V.int := by
    unfold mv
    rw [List.map_map, List.map_append, List.map_map]
    rfl
  rw [e0] at h3
  have hsz : (s.begun.map (·.2) ++ [s.version]).length < 64 := by rw [List.length_append, List.length_map]; show s.begun.length + 1 < 64; omega
  clear hh h1 h2
  walk_at "go"
  rename_i zs d4 H4 z1 z2 h4
  have h4 := h4.sub (show Sub ([(p, .ins C s.dx (veF (.int s.hands) (.ref s.ra) (.int s.version) (.ref s.ba) (.ref s.qa)))] :: [(s.ra, .lst (fmR s.rows))] :: [(s.ba, dI (mv V.int s.begun))] :: [(s.qa, dI (mv asR s.asked))] :: fmU obRow s.rows :: famU obA s.asked :: prU s.bag :: [(d4, .lst (zs.map V.int))] :: R) _ by walk_at "sub")
  clear h3
  have hzl : zs.length ≤ 100 := by
    have : zs.length ≤ (s.begun.map (·.2) ++ [s.version]).length := nodup_sub_len (rise_nodup z1) fun z hz => (z2 z).mp hz
    omega
  walk_at "go"
  refine k_forR (n := ((fmR s.rows).length : Int)) (fun j σ H' => ∃ (rows : VRows) (w3 w4 w5 w6 w7 w8 w9 : Option V), σ = [some (.ref p), some (.ref d4), some (.int (lens s.rows - lens rows)), w3, w4, w5, w6, w7, w8, w9] ∧ TRel s.rows rows zs j ∧
    Has H' ([(p, .ins C s.dx (veF (.int s.hands) (.ref s.ra) (.int s.version) (.ref s.ba) (.ref s.qa)))] :: [(s.ra, .lst (fmR rows))] :: [(s.ba, dI (mv V.int s.begun))] :: [(s.qa, dI (mv asR s.asked))] :: fmU obRow rows :: famU obA s.asked :: prU s.bag :: [(d4, .lst (zs.map V.int))] :: R)) ⟨s.rows, none, none, none, none, none, none, none, by rw [Int.sub_self]; rfl, TRel.refl _ _, h4⟩ (by rw [fmR_len]; omega) (fun j σ H' hj h' => ?_) (fun σ H' h' => ?_)
  · obtain ⟨rows, w3, w4, w5, w6, w7, w8, w9, rfl, ht, h'⟩ := h'
    rw [fmR_len] at hj
    have hjl : j < rows.length := by rw [ht.1]; omega
    obtain ⟨A, B, erow, eA⟩ := split_at (List.getElem?_eq_getElem hjl)
    generalize rows[j] = rr at erow
    obtain ⟨la, m⟩ := rr
    subst erow
    subst eA
    obtain ⟨r0, g1, g2, g3⟩ := ht.2 A.length (la, m) (by rw [List.getElem?_append_right (Nat.le_refl _), Nat.sub_self]; rfl)
    have er0 : (la, m) = r0 := g3 (Nat.lt_irrefl _)
    subst er0
    have hm : (la, m) ∈ s.rows := List.mem_of_getElem? g1
    have hrl := w.rl _ hm
    have hrl : (m.length : Int) ≤ s.version + 1 := hrl
    have hri := hrise _ hm
    have ea : atI (fmR (A ++ (la, m) :: B)) (A.length : Int) = some (.ref la) := fmR_at (by omega) (by omega)
    have h3 := fm_out (h'.sub (show Sub (fmU obRow (A ++ (la, m) :: B) :: _) _ by walk_at "sub"))
    have h3 : Has H' ([(la, .lst (fmR m))] :: _) := h3
    clear h'
    walk_at "go"
    refine k_lcM zs V.int (fun z => V.int (maxLe (m.map (·.2)) z)) h3 (fun H'' h'' => by walk_at "hp") (by omega) (fun z hz D M H'' Q' h'' q' => ?_) fun d5 H5 h5 => ?_
    · have hex := hhas _ hm z ((z2 z).mp hz)
      walk_at "go"
      refine k_lcG m (fun q => V.ref q.1) (fun q => V.int q.2.1) (fun q => decide (q.2.1 ≤ z)) (fun q => [some (.ref p), some (.ref d4), some (.int (lens s.rows - lens (A ++ (la, m) :: B))), some (.int (A.length : Int)), some (.ref la), w5, some (.int q.2.1), some (.int q.2.2), some (.int z), w9]) h'' (fun H0 h0 => by walk_at "hp") (by omega) (fun x hx => rfl) (fun x hx D' M' H0 Q0 h0 q0 => ?_) (fun x hx D' M' H0 Q0 h0 q0 => ?_) (fun x hx _ D' M' H0 Q0 h0 q0 => ?_) fun d6 H6 h6 => ?_
      · have hx2 : H0 x.1 = some (.tup [.int x.2.1, .int x.2.2]) := Has.prs (h0.sub (show Sub (prU s.bag :: _) _ by walk_at "sub")) x (w.bg _ hm x hx)
        walk_at "go"
        exact q0
      · walk_at "go"
        exact q0 H0 h0
      · walk_at "go"
        exact q0 H0 h0
      have e1 : ((m.filter fun q => decide (q.2.1 ≤ z)).map fun q => V.int q.2.1) = ((((m.map (·.2)).filter fun q => decide (q.1 ≤ z)).map (·.1)).map V.int) := by
        rw [List.filter_map, List.map_map, List.map_map]
        rfl
      rw [e1] at h6
      walk_at "go"
      refine k_maxR h6.g0 (fun e2 => ?_) ?_ ?_
      · obtain ⟨x, hx, hxz⟩ := hex
        have : x.2 ∈ (m.map (·.2)).filter fun q => decide (q.1 ≤ z) := List.mem_filter.mpr ⟨List.mem_map.mpr ⟨x, hx, rfl⟩, decide_eq_true hxz⟩
        rw [List.map_eq_nil_iff.mp e2] at this
        exact absurd this List.not_mem_nil
      · have hri2 : ((m.map (·.2)).map (·.1)).Pairwise (· < ·) := by rw [List.map_map]; exact hri
        exact hri2.sublist ((List.filter_sublist).map _)
      · exact q' H6 (h6.sub (Sub.skip Sub.rf))
    rw [show zs.map (fun z => V.int (maxLe (m.map (·.2)) z)) = (zs.map (maxLe (m.map (·.2)))).map V.int by rw [List.map_map]; rfl] at h5
    clear h3
    walk_at "go"
    refine k_lcF m (fun q => V.ref q.1) (fun q => V.ref q.1) (fun q => decide (q.2.1 ∈ zs.map (maxLe (m.map (·.2))))) h5 (fun H0 h0 => by walk_at "hp") (by omega) (fun x hx D' M' H0 Q0 h0 q0 => ?_) (fun x hx _ D' M' H0 Q0 h0 q0 => ?_) fun d7 H7 h7 => ?_
    · have hx2 : H0 x.1 = some (.tup [.int x.2.1, .int x.2.2]) := Has.prs (h0.sub (show Sub (prU s.bag :: _) _ by walk_at "sub")) x (w.bg _ hm x hx)
      walk_at "go"
      exact q0 H0 h0
    · walk_at "go"
      exact q0 H0 h0
    have h7 : Has H7 ([(d7, .lst (fmR (trimR zs m)))] :: _) := h7
    have ex : ixN (fmR (A ++ (la, m) :: B)).length (A.length : Int) = some A.length := by
      rw [fmR_len]
      exact (ix_ok (by omega) (by rw [List.length_append, List.length_cons]; omega)).trans (by rw [Int.toNat_natCast])
    clear h5
    walk_at "go"
    rename_i H8 h8
    rw [fmR_set (m' := trimR zs m)] at h8
    have ea2 : atI (fmR (A ++ (d7, trimR zs m) :: B)) (A.length : Int) = some (.ref d7) := fmR_at (by omega) (by omega)
    clear h7
    walk_at "go"
    rw [fmR_len, fmR_len]
    refine ⟨A ++ (d7, trimR zs m) :: B, some (.int (A.length : Int)), some (.ref la), some (.ref d5), w6, w7, w8, w9, ?_, ht.step, ?_⟩
    · rw [lens_mid, lens_mid]
      show [some (V.ref p), some (.ref d4), some (.int (lens s.rows - (lens A + ((m.length : Int) + lens B)) + (m.length : Int) - ((trimR zs m).length : Int))), _, _, _, _, _, _, _] = _
      rw [show lens s.rows - (lens A + ((m.length : Int) + lens B)) + (m.length : Int) - ((trimR zs m).length : Int) = lens s.rows - (lens A + (((trimR zs m).length : Int) + lens B)) by omega]
    · have h9 := fm_in (ob := obRow) (b := trimR zs m) (h8.sub (show Sub ([(d7, obRow (trimR zs m))] :: fmU obRow A :: fmU obRow B :: _) _ by walk_at "sub"))
      exact h9.sub (show Sub ([(p, _)] :: [(s.ra, _)] :: [(s.ba, _)] :: [(s.qa, _)] :: fmU obRow (A ++ (d7, trimR zs m) :: B) :: famU obA s.asked :: prU s.bag :: [(d4, _)] :: R) _ by walk_at "sub")
  · obtain ⟨rows, w3, w4, w5, w6, w7, w8, w9, rfl, ht, h'⟩ := h'
    rw [show ((fmR s.rows).length : Int).toNat = s.rows.length by rw [fmR_len]; omega] at ht
    walk_at "go"
    refine q zs rows H' z1 z2 ht (ve_in (s := { s with rows := rows }) (h'.sub (show Sub ([(p, _)] :: [(s.ra, _)] :: [(s.ba, _)] :: [(s.qa, _)] :: fmU obRow rows :: famU obA s.asked :: prU s.bag :: R) _ by walk_at "sub")))
end La
namespace La
open PySem L2 Sy
def t_Link_init (K : PySem.W.Frag) : TS :=
  tSeq (sFld K (tVar 0) (tVar 1) "key")
    (sFld K (tVar 0) (tVar 2) "after")
def t_Chain_init (K : PySem.W.Frag) (C_Link : Addr) (sp_look_number sp_mk_Link : Sp) : TS :=
  tSeq (tDrop (tCall sp_look_number [] E0 (tCons (tVar 1) (tCons (tC (.int 1)) (tCons (tC (.int 6)) (tNil))))))
    (tSeq (sFld K (tVar 0) (tVar 1) "hands")
    (tSeq (sFld K (tVar 0) (tDisp [(tC (.int 0), tMake C_Link sp_mk_Link [] E0 (tCons (tC (.int (-1))) (tCons (tC .non) (tNil))))]) "links")
    (tSeq (sFld K (tVar 0) (tC (.int 1)) "made")
    (tSeq (sFld K (tVar 0) (tC (.int 0)) "era")
    (tSeq (sFld K (tVar 0) (tDNewK) "inside")
    (tSeq (sFld K (tVar 0) (tDNewK) "at")
    (sFld K (tVar 0) (tDNewK) "waits")))))))
def t_Chain_place_of (K : PySem.W.Frag) : TS :=
  tSeq (tAsg (tC (.int 0)) (gName 2))
    (tSeq (tAsg (tFld K (tDGet (tFld K (tVar 0) "links") (tVar 2)) "after") (gName 3))
    (tSeq (tWhile (tAnd (tTest (tOp rNotNo (tVar 3) (tC .non))) (tTest (tOp rLtI (tFld K (tDGet (tFld K (tVar 0) "links") (tVar 3)) "key") (tVar 1)))) (tSeq (tAsg (tVar 3) (gName 2))
    (tAsg (tFld K (tDGet (tFld K (tVar 0) "links") (tVar 2)) "after") (gName 3))))
    (tRet (tVar 2))))
def t_Chain_has (K : PySem.W.Frag) (C_Chain : Addr) (sp_look_number sp_Chain__Chain_place_of : Sp) : TS :=
  tSeq (tDrop (tCall sp_look_number [] E0 (tCons (tVar 1) (tCons (tC (.int 0)) (tCons (tC (.int 999)) (tNil))))))
    (tSeq (tAsg (tFld K (tDGet (tFld K (tVar 0) "links") (tMeth C_Chain "place_of" sp_Chain__Chain_place_of [] E0 (tVar 0) (tCons (tVar 1) (tNil)))) "after") (gName 2))
    (tRet (tAndV (tOp rNotNo (tVar 2) (tC .non)) (tOp rEq (tFld K (tDGet (tFld K (tVar 0) "links") (tVar 2)) "key") (tVar 1)))))
def t_Chain_put (K : PySem.W.Frag) (C_Chain C_Link : Addr) (sp_Chain__Chain_has sp_Chain__Chain_place_of sp_mk_Link : Sp) : TS :=
  tSeq (tIfS (tB (tMeth C_Chain "has" sp_Chain__Chain_has [] E0 (tVar 0) (tCons (tVar 1) (tNil)))) (tRet (tC (.bl false))) (tNext))
    (tSeq (tAsg (tDGet (tFld K (tVar 0) "links") (tMeth C_Chain "place_of" sp_Chain__Chain_place_of [] E0 (tVar 0) (tCons (tVar 1) (tNil)))) (gName 2))
    (tSeq (sDPut (tFld K (tVar 0) "links") (tFld K (tVar 0) "made") (tMake C_Link sp_mk_Link [] E0 (tCons (tVar 1) (tCons (tFld K (tVar 2) "after") (tNil)))))
    (tSeq (sFld K (tVar 2) (tFld K (tVar 0) "made") "after")
    (tSeq (sFld K (tVar 0) (tOp rAddI (tFld K (tVar 0) "made") (tC (.int 1))) "made")
    (tRet (tC (.bl true)))))))
def t_Chain_take_out (K : PySem.W.Frag) (C_Chain : Addr) (sp_Chain__Chain_has sp_Chain__Chain_place_of : Sp) : TS :=
  tSeq (tIfS (tNot (tB (tMeth C_Chain "has" sp_Chain__Chain_has [] E0 (tVar 0) (tCons (tVar 1) (tNil))))) (tRet (tC (.bl false))) (tNext))
    (tSeq (tAsg (tDGet (tFld K (tVar 0) "links") (tMeth C_Chain "place_of" sp_Chain__Chain_place_of [] E0 (tVar 0) (tCons (tVar 1) (tNil)))) (gName 2))
    (tSeq (tAsg (tFld K (tVar 2) "after") (gName 3))
    (tSeq (sFld K (tVar 2) (tFld K (tDGet (tFld K (tVar 0) "links") (tVar 3)) "after") "after")
    (tSeq (sDPut (tFld K (tVar 0) "waits") (tVar 3) (tFld K (tVar 0) "era"))
    (tRet (tC (.bl true)))))))
def t_Chain_keys_in (K : PySem.W.Frag) : TS :=
  tSeq (tAsg (tLst (tNil)) (gName 1))
    (tSeq (tAsg (tFld K (tDGet (tFld K (tVar 0) "links") (tC (.int 0))) "after") (gName 2))
    (tSeq (tWhile (tTest (tOp rNotNo (tVar 2) (tC .non))) (tSeq (tDrop (tBM K "list" rAppend (tVar 1) (tCons (tFld K (tDGet (tFld K (tVar 0) "links") (tVar 2)) "key") (tNil))))
    (tAsg (tFld K (tDGet (tFld K (tVar 0) "links") (tVar 2)) "after") (gName 2))))
    (tRet (tVar 1))))
def t_Chain_go_on (K : PySem.W.Frag) : TS :=
  tSeq (tIfS (tNot (tB (tCB (rAll K) (tCons (tLockE (tLc (iKeys (tFld K (tVar 0) "inside")) (gName 1) tYes (tOp rEq (tDGet (tFld K (tVar 0) "inside") (tVar 1)) (tFld K (tVar 0) "era")) [1])) (tNil))))) (tRet (tC .non)) (tNext))
    (tSeq (sFld K (tVar 0) (tOp rAddI (tFld K (tVar 0) "era") (tC (.int 1))) "era")
    (tSeq (tLock (tAsg (tLc (iKeys (tFld K (tVar 0) "waits")) (gName 3) (tTest (tOp rLeI (tDGet (tFld K (tVar 0) "waits") (tVar 3)) (tOp rSubI (tFld K (tVar 0) "era") (tC (.int 2))))) (tVar 3) [3]) (gName 2)))
    (tSeq (tFor (iList K (tVar 2)) (gName 3) (tSeq (tDrop (tDPop1 (tFld K (tVar 0) "waits") (tVar 3)))
    (tDrop (tDPop1 (tFld K (tVar 0) "links") (tVar 3)))))
    (tRet (tCB (rLenQ K) (tCons (tVar 2) (tNil)))))))
def t_Chain_len (K : PySem.W.Frag) : TS :=
  tRet (tCB rLenK (tCons (tFld K (tVar 0) "links") (tNil)))
def t_Chain_look_hand (K : PySem.W.Frag) (sp_is_whole : Sp) : TS :=
  tIfS (tNot (tB (tCall sp_is_whole [] E0 (tCons (tVar 1) (tCons (tC (.int 0)) (tCons (tOp rSubI (tFld K (tVar 0) "hands") (tC (.int 1))) (tNil))))))) (tNever) (tNext)
def t_Chain_look_in (K : PySem.W.Frag) (C_Chain : Addr) (sp_Chain__Chain_look_hand : Sp) : TS :=
  tSeq (tDrop (tMeth C_Chain "look_hand" sp_Chain__Chain_look_hand [] E0 (tVar 0) (tCons (tVar 1) (tNil))))
    (tIfS (tB (tDNotIn (tVar 1) (tFld K (tVar 0) "inside"))) (tNever) (tNext))
def t_Chain_start (K : PySem.W.Frag) (C_Chain : Addr) (sp_Chain__Chain_look_hand : Sp) : TS :=
  tSeq (tDrop (tMeth C_Chain "look_hand" sp_Chain__Chain_look_hand [] E0 (tVar 0) (tCons (tVar 1) (tNil))))
    (tSeq (tIfS (tB (tDIn (tVar 1) (tFld K (tVar 0) "inside"))) (tNever) (tNext))
    (tSeq (sDPut (tFld K (tVar 0) "inside") (tVar 1) (tFld K (tVar 0) "era"))
    (sDPut (tFld K (tVar 0) "at") (tVar 1) (tC (.int 0)))))
def t_Chain_step (K : PySem.W.Frag) (C_Chain : Addr) (sp_Chain__Chain_look_in sp_Chain__Chain_stop : Sp) : TS :=
  tSeq (tDrop (tMeth C_Chain "look_in" sp_Chain__Chain_look_in [] E0 (tVar 0) (tCons (tVar 1) (tNil))))
    (tSeq (tAsg (tFld K (tDGet (tFld K (tVar 0) "links") (tDGet (tFld K (tVar 0) "at") (tVar 1))) "after") (gName 2))
    (tSeq (tIfS (tTest (tOp rIsNo (tVar 2) (tC .non))) (tSeq (tDrop (tMeth C_Chain "stop" sp_Chain__Chain_stop [] E0 (tVar 0) (tCons (tVar 1) (tNil))))
    (tRet (tC .non))) (tNext))
    (tSeq (tIfS (tB (tDNotIn (tVar 2) (tFld K (tVar 0) "links"))) (tNever) (tNext))
    (tSeq (sDPut (tFld K (tVar 0) "at") (tVar 1) (tVar 2))
    (tRet (tFld K (tDGet (tFld K (tVar 0) "links") (tVar 2)) "key"))))))
def t_Chain_stop (K : PySem.W.Frag) (C_Chain : Addr) (sp_Chain__Chain_look_in : Sp) : TS :=
  tSeq (tDrop (tMeth C_Chain "look_in" sp_Chain__Chain_look_in [] E0 (tVar 0) (tCons (tVar 1) (tNil))))
    (tSeq (tDrop (tDPop1 (tFld K (tVar 0) "inside") (tVar 1)))
    (tDrop (tDPop1 (tFld K (tVar 0) "at") (tVar 1))))
def t_Chain_walkers (K : PySem.W.Frag) : TS :=
  tRet (tCB rSortD (tCons (tFld K (tVar 0) "inside") (tNil)))
def lkF (v0 v1 : V) : List (Str × V) := [("key", v0), ("after", v1)]
theorem lk_key {v0 v1 : V} : (lkF v0 v1).lookup ("key" : Str) = some v0 := by kernel_rfl
theorem lk_put_key {v0 v1 u : V} : putF "key" u (lkF v0 v1) = lkF u v1 := by kernel_rfl
theorem lk_after {v0 v1 : V} : (lkF v0 v1).lookup ("after" : Str) = some v1 := by kernel_rfl
theorem lk_put_after {v0 v1 u : V} : putF "after" u (lkF v0 v1) = lkF v0 u := by kernel_rfl
theorem lk_p1 { u : V} : putF "key" u ([] : List (Str × V)) = ([("key", u)] : List (Str × V)) := by kernel_rfl
theorem lk_p2 {v0 u : V} : putF "after" u ([("key", v0)] : List (Str × V)) = ((lkF v0 u) : List (Str × V)) := by kernel_rfl
theorem lk_len {v0 v1 : V} : (lkF v0 v1).length < 1000 := by show 2 < 1000; decide
def chF (v0 v1 v2 v3 v4 v5 v6 : V) : List (Str × V) := [("hands", v0), ("links", v1), ("made", v2), ("era", v3), ("inside", v4), ("at", v5), ("waits", v6)]
theorem ch_hands {v0 v1 v2 v3 v4 v5 v6 : V} : (chF v0 v1 v2 v3 v4 v5 v6).lookup ("hands" : Str) = some v0 := by kernel_rfl
theorem ch_put_hands {v0 v1 v2 v3 v4 v5 v6 u : V} : putF "hands" u (chF v0 v1 v2 v3 v4 v5 v6) = chF u v1 v2 v3 v4 v5 v6 := by kernel_rfl
theorem ch_links {v0 v1 v2 v3 v4 v5 v6 : V} : (chF v0 v1 v2 v3 v4 v5 v6).lookup ("links" : Str) = some v1 := by kernel_rfl
theorem ch_put_links {v0 v1 v2 v3 v4 v5 v6 u : V} : putF "links" u (chF v0 v1 v2 v3 v4 v5 v6) = chF v0 u v2 v3 v4 v5 v6 := by kernel_rfl
theorem ch_made {v0 v1 v2 v3 v4 v5 v6 : V} : (chF v0 v1 v2 v3 v4 v5 v6).lookup ("made" : Str) = some v2 := by kernel_rfl
theorem ch_put_made {v0 v1 v2 v3 v4 v5 v6 u : V} : putF "made" u (chF v0 v1 v2 v3 v4 v5 v6) = chF v0 v1 u v3 v4 v5 v6 := by kernel_rfl
theorem ch_era {v0 v1 v2 v3 v4 v5 v6 : V} : (chF v0 v1 v2 v3 v4 v5 v6).lookup ("era" : Str) = some v3 := by kernel_rfl
theorem ch_put_era {v0 v1 v2 v3 v4 v5 v6 u : V} : putF "era" u (chF v0 v1 v2 v3 v4 v5 v6) = chF v0 v1 v2 u v4 v5 v6 := by kernel_rfl
theorem ch_inside {v0 v1 v2 v3 v4 v5 v6 : V} : (chF v0 v1 v2 v3 v4 v5 v6).lookup ("inside" : Str) = some v4 := by kernel_rfl
theorem ch_put_inside {v0 v1 v2 v3 v4 v5 v6 u : V} : putF "inside" u (chF v0 v1 v2 v3 v4 v5 v6) = chF v0 v1 v2 v3 u v5 v6 := by kernel_rfl
theorem ch_at {v0 v1 v2 v3 v4 v5 v6 : V} : (chF v0 v1 v2 v3 v4 v5 v6).lookup ("at" : Str) = some v5 := by kernel_rfl
theorem ch_put_at {v0 v1 v2 v3 v4 v5 v6 u : V} : putF "at" u (chF v0 v1 v2 v3 v4 v5 v6) = chF v0 v1 v2 v3 v4 u v6 := by kernel_rfl
theorem ch_waits {v0 v1 v2 v3 v4 v5 v6 : V} : (chF v0 v1 v2 v3 v4 v5 v6).lookup ("waits" : Str) = some v6 := by kernel_rfl
theorem ch_put_waits {v0 v1 v2 v3 v4 v5 v6 u : V} : putF "waits" u (chF v0 v1 v2 v3 v4 v5 v6) = chF v0 v1 v2 v3 v4 v5 u := by kernel_rfl
theorem ch_m_place_of {v0 v1 v2 v3 v4 v5 v6 : V} : (chF v0 v1 v2 v3 v4 v5 v6).lookup ("place_of" : Str) = none := by kernel_rfl
theorem ch_m_has {v0 v1 v2 v3 v4 v5 v6 : V} : (chF v0 v1 v2 v3 v4 v5 v6).lookup ("has" : Str) = none := by kernel_rfl
theorem ch_m_put {v0 v1 v2 v3 v4 v5 v6 : V} : (chF v0 v1 v2 v3 v4 v5 v6).lookup ("put" : Str) = none := by kernel_rfl
theorem ch_m_take_out {v0 v1 v2 v3 v4 v5 v6 : V} : (chF v0 v1 v2 v3 v4 v5 v6).lookup ("take_out" : Str) = none := by kernel_rfl
theorem ch_m_keys_in {v0 v1 v2 v3 v4 v5 v6 : V} : (chF v0 v1 v2 v3 v4 v5 v6).lookup ("keys_in" : Str) = none := by kernel_rfl
theorem ch_m_look_hand {v0 v1 v2 v3 v4 v5 v6 : V} : (chF v0 v1 v2 v3 v4 v5 v6).lookup ("look_hand" : Str) = none := by kernel_rfl
theorem ch_m_look_in {v0 v1 v2 v3 v4 v5 v6 : V} : (chF v0 v1 v2 v3 v4 v5 v6).lookup ("look_in" : Str) = none := by kernel_rfl
theorem ch_m_start {v0 v1 v2 v3 v4 v5 v6 : V} : (chF v0 v1 v2 v3 v4 v5 v6).lookup ("start" : Str) = none := by kernel_rfl
theorem ch_m_step {v0 v1 v2 v3 v4 v5 v6 : V} : (chF v0 v1 v2 v3 v4 v5 v6).lookup ("step" : Str) = none := by kernel_rfl
theorem ch_m_stop {v0 v1 v2 v3 v4 v5 v6 : V} : (chF v0 v1 v2 v3 v4 v5 v6).lookup ("stop" : Str) = none := by kernel_rfl
theorem ch_m_go_on {v0 v1 v2 v3 v4 v5 v6 : V} : (chF v0 v1 v2 v3 v4 v5 v6).lookup ("go_on" : Str) = none := by kernel_rfl
theorem ch_m_walkers {v0 v1 v2 v3 v4 v5 v6 : V} : (chF v0 v1 v2 v3 v4 v5 v6).lookup ("walkers" : Str) = none := by kernel_rfl
theorem ch_m___len__ {v0 v1 v2 v3 v4 v5 v6 : V} : (chF v0 v1 v2 v3 v4 v5 v6).lookup ("__len__" : Str) = none := by kernel_rfl
theorem ch_p1 { u : V} : putF "hands" u ([] : List (Str × V)) = ([("hands", u)] : List (Str × V)) := by kernel_rfl
theorem ch_p2 {v0 u : V} : putF "links" u ([("hands", v0)] : List (Str × V)) = ([("hands", v0), ("links", u)] : List (Str × V)) := by kernel_rfl
theorem ch_p3 {v0 v1 u : V} : putF "made" u ([("hands", v0), ("links", v1)] : List (Str × V)) = ([("hands", v0), ("links", v1), ("made", u)] : List (Str × V)) := by kernel_rfl
theorem ch_p4 {v0 v1 v2 u : V} : putF "era" u ([("hands", v0), ("links", v1), ("made", v2)] : List (Str × V)) = ([("hands", v0), ("links", v1), ("made", v2), ("era", u)] : List (Str × V)) := by kernel_rfl
theorem ch_p5 {v0 v1 v2 v3 u : V} : putF "inside" u ([("hands", v0), ("links", v1), ("made", v2), ("era", v3)] : List (Str × V)) = ([("hands", v0), ("links", v1), ("made", v2), ("era", v3), ("inside", u)] : List (Str × V)) := by kernel_rfl
theorem ch_p6 {v0 v1 v2 v3 v4 u : V} : putF "at" u ([("hands", v0), ("links", v1), ("made", v2), ("era", v3), ("inside", v4)] : List (Str × V)) = ([("hands", v0), ("links", v1), ("made", v2), ("era", v3), ("inside", v4), ("at", u)] : List (Str × V)) := by kernel_rfl
theorem ch_p7 {v0 v1 v2 v3 v4 v5 u : V} : putF "waits" u ([("hands", v0), ("links", v1), ("made", v2), ("era", v3), ("inside", v4), ("at", v5)] : List (Str × V)) = ((chF v0 v1 v2 v3 v4 v5 u) : List (Str × V)) := by kernel_rfl
theorem ch_len {v0 v1 v2 v3 v4 v5 v6 : V} : (chF v0 v1 v2 v3 v4 v5 v6).length < 1000 := by show 7 < 1000; decide
local macro_rules | `(tactic| walk_at "fl") => `(tactic| first | assumption | exact lk_key | exact lk_after | kernel_rfl)
local macro_rules | `(tactic| walk_at "put") => `(tactic| first | exact lk_put_key | exact lk_put_after | exact lk_p1 | exact lk_p2)
local macro_rules | `(tactic| walk_at "fsl") => `(tactic| first | assumption | exact lk_len | (show 0 < 1000; decide) | (show 1 < 1000; decide))
local macro_rules | `(tactic| walk_at "fl") => `(tactic| first | assumption | exact ch_hands | exact ch_links | exact ch_made | exact ch_era | exact ch_inside | exact ch_at | exact ch_waits | exact lk_key | exact lk_after | kernel_rfl)
local macro_rules | `(tactic| walk_at "put") => `(tactic| first | exact ch_put_hands | exact ch_put_links | exact ch_put_made | exact ch_put_era | exact ch_put_inside | exact ch_put_at | exact ch_put_waits | exact ch_p1 | exact ch_p2 | exact ch_p3 | exact ch_p4 | exact ch_p5 | exact ch_p6 | exact ch_p7)
local macro_rules | `(tactic| walk_at "fsl") => `(tactic| first | assumption | exact ch_len | (show 0 < 1000; decide) | (show 1 < 1000; decide) | (show 2 < 1000; decide) | (show 3 < 1000; decide) | (show 4 < 1000; decide) | (show 5 < 1000; decide) | (show 6 < 1000; decide))
/-! ### chains -/
structure ChC (K : PySem.W.Frag) (C CL : Addr) : Prop where
  cl : Cls K C
  n1 : NoAttr K C "hands"
  n2 : NoAttr K C "links"
  n3 : NoAttr K C "made"
  n4 : NoAttr K C "era"
  n5 : NoAttr K C "inside"
  n6 : NoAttr K C "at"
  n7 : NoAttr K C "waits"
  cll : Cls K CL
  k1 : NoAttr K CL "key"
  k2 : NoAttr K CL "after"
structure LkC (K : PySem.W.Frag) (CL : Addr) : Prop where
  cl : Cls K CL
  k1 : NoAttr K CL "key"
  k2 : NoAttr K CL "after"
structure Lk where
  ad : Addr
  dx : Addr
  key : Int
  after : Option Int
def opV : Option Int → V
  | none => .non
  | some i => .int i
def obK (CL : Addr) (l : Lk) : U := [(l.ad, .ins CL l.dx (lkF (.int l.key) (opV l.after)))]
def lkR (l : Lk) : V := .ref l.ad
abbrev Lks := List (Int × Lk)
structure Cha where
  dx : Addr
  la : Addr
  ia : Addr
  aa : Addr
  wa : Addr
  hands : Int
  made : Int
  era : Int
  links : Lks
  inside : List (Int × Int)
  wh : List (Int × Int)
  waits : List (Int × Int)
def chaU (C CL p : Addr) (s : Cha) : U := (p, .ins C s.dx (chF (.int s.hands) (.ref s.la) (.int s.made) (.int s.era) (.ref s.ia) (.ref s.aa) (.ref s.wa))) :: (s.la, dI (mv lkR s.links)) :: (s.ia, dI (mv V.int s.inside)) :: (s.aa, dI (mv V.int s.wh)) :: (s.wa, dI (mv V.int s.waits)) :: famU (obK CL) s.links
abbrev chaL (C CL p : Addr) (s : Cha) (R : List U) : List U := [(p, .ins C s.dx (chF (.int s.hands) (.ref s.la) (.int s.made) (.int s.era) (.ref s.ia) (.ref s.aa) (.ref s.wa)))] :: [(s.la, dI (mv lkR s.links))] :: [(s.ia, dI (mv V.int s.inside))] :: [(s.aa, dI (mv V.int s.wh))] :: [(s.wa, dI (mv V.int s.waits))] :: famU (obK CL) s.links :: R
theorem ch_cut {H : Hp} {C CL p : Addr} {s : Cha} {R : List U} (h : Has H (chaU C CL p s :: R)) : Has H (chaL C CL p s R) := by
  have h1 := Has.cut3 h
  have h2 := Has.cut2 (h1.sub (Sub.p3 Sub.rf))
  exact h2.sub (Sub.p3 (Sub.p3 (Sub.p3 (Sub.p0 (Sub.p0 (Sub.p0 Sub.rf))))))
theorem ch_in {H : Hp} {C CL p : Addr} {s : Cha} {R : List U} (h : Has H (chaL C CL p s R)) : Has H (chaU C CL p s :: R) := by
  have h1 := Has.glue2 (h.sub (show Sub ([(s.aa, _)] :: [(s.wa, _)] :: famU (obK CL) s.links :: _) _ from Sub.p3 (Sub.p3 (Sub.p3 Sub.rf))))
  exact Has.glue3 (h1.sub (show Sub ([(p, _)] :: [(s.la, _)] :: [(s.ia, _)] :: _ :: R) _ from Sub.p1 (Sub.p1 (Sub.p1 (Sub.p0 Sub.rf)))))
theorem fam_get {κ β : Type} {obs : β → U} {H : Hp} {m : List (κ × β)} {L : List U} (h : Has H (famU obs m :: L)) {q : κ × β} (hq : q ∈ m) {x : Addr × HO} (hx : x ∈ obs q.2) : H x.1 = some x.2 :=
  h.at' x (List.mem_append.mpr (.inl (List.mem_flatMap.mpr ⟨q, hq, hx⟩)))
theorem lk_get {H : Hp} {CL : Addr} {m : Lks} {L : List U} {n : Int} {l : Lk} (h : Has H (famU (obK CL) m :: L)) (hf : fd m n = some l) : H l.ad = some (.ins CL l.dx (lkF (.int l.key) (opV l.after))) :=
  fam_get h (fd_mem hf) (x := (l.ad, _)) (List.mem_singleton.mpr rfl)
/-! #### ways along the links -/
def Path (L : Lks) : Option Int → List (Int × Int) → Prop
  | o, [] => o = none
  | o, (n, k) :: r => o = some n ∧ ∃ l, fd L n = some l ∧ l.key = k ∧ Path L l.after r
theorem path_det {L : Lks} : ∀ {pl pl' : List (Int × Int)} {o : Option Int}, Path L o pl → Path L o pl' → pl = pl'
  | [], [], _, _, _ => rfl
  | [], (n, k) :: r, o, h, h' => by
    have h : o = none := h
    rw [h] at h'
    exact absurd h'.1 (by simp)
  | (n, k) :: r, [], o, h, h' => by
    have h' : o = none := h'
    rw [h'] at h
    exact absurd h.1 (by simp)
  | (n, k) :: r, (n', k') :: r', o, h, h' => by
    obtain ⟨e, l, f, ek, hr⟩ := h
    obtain ⟨e', l', f', ek', hr'⟩ := h'
    rw [e] at e'
    have en := Option.some.inj e'
    subst en
    rw [f] at f'
    have el := Option.some.inj f'
    subst el
    rw [path_det hr hr', ← ek, ← ek']
theorem path_at {L : Lks} : ∀ {A : List (Int × Int)} {o : Option Int} {n k : Int} {B : List (Int × Int)}, Path L o (A ++ (n, k) :: B) → Path L (some n) ((n, k) :: B)
  | [], o, n, k, B, h => by
    have h : Path L o ((n, k) :: B) := h
    rw [← h.1]
    exact h
  | (a, c) :: A, o, n, k, B, h => by
    obtain ⟨_, l, _, _, hr⟩ := h
    exact path_at hr
theorem path_mem {L : Lks} : ∀ {pl : List (Int × Int)} {o : Option Int}, Path L o pl → ∀ q ∈ pl, ∃ l, fd L q.1 = some l ∧ l.key = q.2
  | [], _, _, q, hq => absurd hq List.not_mem_nil
  | (n, k) :: r, o, h, q, hq => by
    obtain ⟨_, l, f, ek, hr⟩ := h
    rcases List.mem_cons.mp hq with e | e
    · rw [e]; exact ⟨l, f, ek⟩
    · exact path_mem hr q e
theorem path_head {L : Lks} {pl : List (Int × Int)} {o : Option Int} (h : Path L o pl) : o = pl.head?.map (·.1) := by
  cases pl with
  | nil => exact h
  | cons q r => exact h.1
theorem path_next {L : Lks} {n k : Int} {B : List (Int × Int)} {o : Option Int} (h : Path L o ((n, k) :: B)) : ∃ l, fd L n = some l ∧ l.key = k ∧ l.after = B.head?.map (·.1) ∧ Path L l.after B := by
  obtain ⟨_, l, f, ek, hr⟩ := h
  exact ⟨l, f, ek, path_head hr, hr⟩
theorem path_congr {L L' : Lks} : ∀ {pl : List (Int × Int)} {o : Option Int}, (∀ q ∈ pl, fd L' q.1 = fd L q.1) → Path L o pl → Path L' o pl
  | [], _, _, h => h
  | (n, k) :: r, o, he, h => by
    obtain ⟨e, l, f, ek, hr⟩ := h
    exact ⟨e, l, (he (n, k) (List.mem_cons.mpr (.inl rfl))).trans f, ek, path_congr (fun q hq => he q (List.mem_cons_of_mem _ hq)) hr⟩
/-- a link m put in behind n -/
def ins (n m k : Int) (pl : List (Int × Int)) : List (Int × Int) := pl.flatMap fun q => if q.1 = n then [q, (m, k)] else [q]
theorem ins_cons (n m k : Int) (q : Int × Int) (r : List (Int × Int)) : ins n m k (q :: r) = (if q.1 = n then [q, (m, k)] else [q]) ++ ins n m k r := rfl
theorem path_ins {L L' : Lks} {n m k : Int} {l new : Lk} (hn : fd L n = some l) (hm : fd L m = none) (h1 : fd L' n = some { l with after := some m }) (h2 : fd L' m = some new) (hk : new.key = k) (ha : new.after = l.after) (h3 : ∀ j, j ≠ n → j ≠ m → fd L' j = fd L j) :
    ∀ {pl : List (Int × Int)} {o : Option Int}, Path L o pl → Path L' o (ins n m k pl)
  | [], _, h => h
  | (a, c) :: r, o, h => by
    obtain ⟨e, la, f, ek, hr⟩ := h
    have ih := path_ins hn hm h1 h2 hk ha h3 hr
    rw [ins_cons]
    by_cases ea : a = n
    · subst ea
      rw [if_pos rfl]
      rw [hn] at f
      have el := Option.some.inj f
      subst el
      exact ⟨e, _, h1, ek, rfl, new, h2, hk, by rw [ha]; exact ih⟩
    · rw [if_neg (show ¬ ((a, c) : Int × Int).1 = n from ea)]
      have em : a ≠ m := fun z => by rw [z, hm] at f; cases f
      exact ⟨e, la, (h3 a ea em).trans f, ek, ih⟩
theorem ins_mem {n m k : Int} {pl : List (Int × Int)} {z : Int × Int} (h : z ∈ ins n m k pl) : z ∈ pl ∨ z = (m, k) := by
  obtain ⟨q, hq, hz⟩ := List.mem_flatMap.mp h
  by_cases e : q.1 = n
  · rw [if_pos e] at hz
    rcases List.mem_cons.mp hz with h | h
    · rw [h]; exact .inl hq
    · exact .inr (List.mem_singleton.mp h)
  · rw [if_neg e] at hz
    rw [List.mem_singleton.mp hz]; exact .inl hq
theorem mem_ins {n m k : Int} {pl : List (Int × Int)} {z : Int × Int} (h : z ∈ pl) : z ∈ ins n m k pl := by
  refine List.mem_flatMap.mpr ⟨z, h, ?_⟩
  split <;> simp
theorem ins_mid {n m k : Int} : ∀ {A B : List (Int × Int)} {c : Int}, (∀ q ∈ A, q.1 ≠ n) → (∀ q ∈ B, q.1 ≠ n) → ins n m k (A ++ (n, c) :: B) = A ++ (n, c) :: (m, k) :: B := by
  have key : ∀ {A : List (Int × Int)}, (∀ q ∈ A, q.1 ≠ n) → ins n m k A = A := by
    intro A
    induction A with
    | nil => exact fun _ => rfl
    | cons q r ih =>
      intro h
      rw [ins_cons, if_neg (h q (List.mem_cons.mpr (.inl rfl))), ih fun z hz => h z (List.mem_cons_of_mem _ hz)]
      rfl
  intro A B c hA hB
  have e : ins n m k (A ++ (n, c) :: B) = ins n m k A ++ ins n m k ((n, c) :: B) := by unfold ins; rw [List.flatMap_append]
  rw [e, key hA, ins_cons, if_pos rfl, key hB]
  rfl
/-- the link behind n taken out -/
def del (n : Int) : List (Int × Int) → List (Int × Int)
  | [] => []
  | [q] => [q]
  | q :: x :: r => if q.1 = n then q :: del n r else q :: del n (x :: r)
theorem path_del {L L' : Lks} {n m : Int} {l l2 : Lk} (hn : fd L n = some l) (hl : l.after = some m) (hm : fd L m = some l2) (h1 : fd L' n = some { l with after := l2.after }) (h3 : ∀ j, j ≠ n → fd L' j = fd L j) :
    ∀ (pl : List (Int × Int)) (o : Option Int), Path L o pl → Path L' o (del n pl)
  | [], _, h => h
  | [(a, c)], o, h => by
    obtain ⟨e, la, f, ek, hr⟩ := h
    have ea : a ≠ n := fun z => by
      rw [z, hn] at f
      have el := Option.some.inj f
      subst el
      have hr : l.after = none := hr
      rw [hl] at hr
      cases hr
    exact ⟨e, la, (h3 a ea).trans f, ek, hr⟩
  | (a, c) :: x :: r, o, h => by
    obtain ⟨e, la, f, ek, hr⟩ := h
    unfold del
    by_cases ea : a = n
    · rw [if_pos (show ((a, c) : Int × Int).1 = n from ea)]
      subst ea
      rw [hn] at f
      have el := Option.some.inj f
      subst el
      obtain ⟨e2, lb, f2, ek2, hr2⟩ := hr
      rw [hl] at e2
      have em := Option.some.inj e2
      rw [← em, hm] at f2
      have el2 := Option.some.inj f2
      subst el2
      exact ⟨e, _, h1, ek, path_del hn hl hm h1 h3 r _ hr2⟩
    · rw [if_neg (show ¬ ((a, c) : Int × Int).1 = n from ea)]
      exact ⟨e, la, (h3 a ea).trans f, ek, path_del hn hl hm h1 h3 (x :: r) _ hr⟩
theorem del_sub (n : Int) : ∀ pl : List (Int × Int), (del n pl).Sublist pl
  | [] => .slnil
  | [q] => List.Sublist.refl _
  | q :: x :: r => by
    unfold del
    split
    · exact List.Sublist.cons_cons _ ((del_sub n r).cons _)
    · exact List.Sublist.cons_cons _ (del_sub n (x :: r))
theorem mem_del {L : Lks} {n m : Int} {l : Lk} (hn : fd L n = some l) (hl : l.after = some m) : ∀ (pl : List (Int × Int)) (o : Option Int), Path L o pl → ∀ z ∈ pl, z ∈ del n pl ∨ z.1 = m
  | [], _, _, z, hz => absurd hz List.not_mem_nil
  | [q], _, _, z, hz => .inl hz
  | (a, c) :: x :: r, o, h, z, hz => by
    obtain ⟨e, la, f, ek, hr⟩ := h
    unfold del
    by_cases ea : a = n
    · rw [if_pos (show ((a, c) : Int × Int).1 = n from ea)]
      rcases List.mem_cons.mp hz with hz | hz
      · exact .inl (List.mem_cons.mpr (.inl hz))
      · subst ea
        rw [hn] at f
        have el := Option.some.inj f
        subst el
        rcases List.mem_cons.mp hz with hz | hz
        · obtain ⟨e2, _⟩ := hr
          rw [hl] at e2
          rw [hz]
          exact .inr (Option.some.inj e2).symm
        · obtain ⟨_, lb, _, _, hr2⟩ := hr
          rcases mem_del hn hl r _ hr2 z hz with h | h
          · exact .inl (List.mem_cons_of_mem _ h)
          · exact .inr h
    · rw [if_neg (show ¬ ((a, c) : Int × Int).1 = n from ea)]
      rcases List.mem_cons.mp hz with hz | hz
      · exact .inl (List.mem_cons.mpr (.inl hz))
      · rcases mem_del hn hl (x :: r) _ hr z hz with h | h
        · exact .inl (List.mem_cons_of_mem _ h)
        · exact .inr h
theorem del_mid {n : Int} : ∀ {A B : List (Int × Int)} {c : Int} {q : Int × Int}, (∀ q ∈ A, q.1 ≠ n) → (∀ q ∈ B, q.1 ≠ n) → del n (A ++ (n, c) :: q :: B) = A ++ (n, c) :: B := by
  have key : ∀ A : List (Int × Int), (∀ q ∈ A, q.1 ≠ n) → del n A = A := by
    intro A
    induction A with
    | nil => exact fun _ => rfl
    | cons q r ih =>
      intro h
      cases r with
      | nil => rfl
      | cons x r =>
        unfold del
        rw [if_neg (h q (List.mem_cons.mpr (.inl rfl))), ih fun z hz => h z (List.mem_cons_of_mem _ hz)]
  intro A
  induction A with
  | nil =>
    intro B c q _ hB
    show del n ((n, c) :: q :: B) = (n, c) :: B
    unfold del
    rw [if_pos rfl, key B hB]
  | cons a r ih =>
    intro B c q hA hB
    have h1 := ih (B := B) (c := c) (q := q) (fun z hz => hA z (List.mem_cons_of_mem _ hz)) hB
    cases r with
    | nil =>
      show del n (a :: (n, c) :: q :: B) = a :: (n, c) :: B
      unfold del
      rw [if_neg (hA a (List.mem_cons.mpr (.inl rfl)))]
      exact congrArg (a :: ·) h1
    | cons x r =>
      show del n (a :: x :: (r ++ (n, c) :: q :: B)) = a :: x :: (r ++ (n, c) :: B)
      unfold del
      rw [if_neg (hA a (List.mem_cons.mpr (.inl rfl)))]
      exact congrArg (a :: ·) h1
/-! #### the chain as a whole -/
structure ChOk (s : Cha) (live : List (Int × Int)) : Prop where
  pa : Path s.links (some 0) ((0, -1) :: live)
  so : (live.map (·.2)).Pairwise (· < ·)
  kr : ∀ q ∈ live, 0 ≤ q.2 ∧ q.2 ≤ 999
  nd : (s.links.map (·.1)).Nodup
  nm : ∀ z ∈ s.links.map (·.1), z < s.made
  nw : (s.waits.map (·.1)).Nodup
  lw : ∀ q ∈ (0, -1) :: live, q.1 ∉ s.waits.map (·.1)
  wl : ∀ z ∈ s.waits.map (·.1), z ∈ s.links.map (·.1)
  ln : s.links.length = 1 + live.length + s.waits.length
  bd : s.links.length ≤ 5000
/-- where a number is, or would be -/
structure At (live : List (Int × Int)) (key : Int) (A : List (Int × Int)) (n c : Int) (B : List (Int × Int)) : Prop where
  e : (0, -1) :: live = A ++ (n, c) :: B
  lo : ∀ q ∈ A ++ [(n, c)], q.2 < key
  hi : ∀ q ∈ B, key ≤ q.2
theorem ChOk.so2 {s : Cha} {live : List (Int × Int)} (w : ChOk s live) : (((0, -1) :: live : List (Int × Int)).map (·.2)).Pairwise (· < ·) := by
  rw [List.map_cons]
  refine List.pairwise_cons.mpr ⟨fun z hz => ?_, w.so⟩
  obtain ⟨q, hq, rfl⟩ := List.mem_map.mp hz
  have := (w.kr q hq).1
  show (-1 : Int) < q.2
  omega
theorem At.not_in {s : Cha} {live : List (Int × Int)} {key : Int} {A B : List (Int × Int)} {n c : Int} (w : ChOk s live) (h : At live key A n c B) (k0 : 0 ≤ key) : key ∈ live.map (·.2) ↔ ∃ q r, B = q :: r ∧ q.2 = key := by
  have e := h.e
  have so := w.so2
  rw [e, List.map_append, List.map_cons] at so
  have hB := (List.pairwise_cons.mp (List.pairwise_append.mp so).2.1).2
  have e1 : key ∈ live.map (·.2) ↔ key ∈ ((0, -1) :: live : List (Int × Int)).map (·.2) := by
    rw [List.map_cons, List.mem_cons]
    refine ⟨fun h => .inr h, fun h => h.resolve_left fun z => ?_⟩
    have z : key = -1 := z
    omega
  rw [e1, e, List.map_append, List.map_cons]
  constructor
  · intro hk
    rcases List.mem_append.mp hk with hk | hk
    · obtain ⟨q, hq, e2⟩ := List.mem_map.mp hk
      have := h.lo q (List.mem_append.mpr (.inl hq))
      omega
    · rcases List.mem_cons.mp hk with hk | hk
      · have := h.lo (n, c) (List.mem_append.mpr (.inr (List.mem_singleton.mpr rfl)))
        have : c < key := this
        have hk : key = c := hk
        omega
      · cases B with
        | nil => exact absurd hk List.not_mem_nil
        | cons q r =>
          refine ⟨q, r, rfl, ?_⟩
          rcases List.mem_cons.mp hk with e2 | e2
          · exact e2.symm
          · rw [List.map_cons] at hB
            have h1 := (List.pairwise_cons.mp hB).1 key e2
            have h2 := h.hi q (List.mem_cons.mpr (.inl rfl))
            omega
  · rintro ⟨q, r, rfl, e2⟩
    exact List.mem_append.mpr (.inr (List.mem_cons_of_mem _ (by rw [List.map_cons, ← e2]; exact List.mem_cons.mpr (.inl rfl))))
def sp_lkinit (CL : Addr) : Sp := fun vs H Q _ => ∃ (p dx : Addr) (k : Int) (o : Option Int) (R : List U), vs = [.ref p, .int k, opV o] ∧ Has H ([(p, .ins CL dx [])] :: R) ∧ ∀ H', Has H' ([(p, .ins CL dx (lkF (.int k) (opV o)))] :: R) → Q .non H'
theorem pure_lkinit {K : PySem.W.Frag} {CL : Addr} (hC : LkC K CL) {vs : List V} {H : Hp} {Q : VK} {E : XK} (h : sp_lkinit CL vs H Q E) : t_Link_init K ⟨fun _ H' => Q .non H', Q, fun _ _ => False, fun _ _ => False⟩ (start ["self", "key", "after"] vs) H := by
  obtain ⟨p, dx, k, o, R, rfl, hh, q⟩ := h
  obtain ⟨cl, k1, k2⟩ := hC
  unfold t_Link_init
  walk_at "go"
  rename_i H1 h1 H2 h2
  exact q H2 h2
def sp_chinit (C CL : Addr) : Sp := fun vs H Q _ => ∃ (p dx : Addr) (h : Int) (R : List U), vs = [.ref p, .int h] ∧ Has H ([(p, .ins C dx [])] :: R) ∧ 1 ≤ h ∧ h ≤ 6 ∧
  ∀ la ia aa wa x xd H', Has H' (chaU C CL p ⟨dx, la, ia, aa, wa, h, 1, 0, [(0, ⟨x, xd, -1, none⟩)], [], [], []⟩ :: R) → Q .non H'
theorem pure_chinit {K : PySem.W.Frag} {C CL : Addr} (hC : ChC K C CL) {vs : List V} {H : Hp} {Q : VK} {E : XK} (h : sp_chinit C CL vs H Q E) : t_Chain_init K CL sp_look_number (sp_lkinit CL) ⟨fun _ H' => Q .non H', Q, fun _ _ => False, fun _ _ => False⟩ (start ["self", "hands"] vs) H := by
  obtain ⟨p, dx, h, R, rfl, hh, h1, h6, q⟩ := h
  obtain ⟨cl, n1, n2, n3, n4, n5, n6, n7, cll, k1, k2⟩ := hC
  unfold t_Chain_init
  walk_at "go"
  refine ⟨h, 1, 6, rfl, h1, h6, ?_⟩
  walk_at "go"
  rename_i H1 g1 la H2 g2 x xd H3 g3
  refine ⟨x, xd, -1, none, _, rfl, g3, fun H4 g4 => ⟨rfl, ?_⟩⟩
  clear hh g1 g2 g3
  walk_at "go"
  rename_i H5 g5 H6 g6 H7 g7 H8 g8 ia H9 g9 H10 g10 aa H11 g11 H12 g12 wa H13 g13 H14 g14
  exact q la ia aa wa x xd H14 (ch_in (g14.sub (show Sub ([(p, _)] :: [(la, dI (mv lkR [(0, ⟨x, xd, -1, none⟩)]))] :: [(ia, dI (mv V.int []))] :: [(aa, dI (mv V.int []))] :: [(wa, dI (mv V.int []))] :: famU (obK CL) [(0, ⟨x, xd, -1, none⟩)] :: R) _ by walk_at "sub")))
def sp_place_of (C CL : Addr) : Sp := fun vs H Q _ => ∃ (p : Addr) (s : Cha) (live : List (Int × Int)) (key : Int) (R : List U), vs = [.ref p, .int key] ∧ Has H (chaU C CL p s :: R) ∧ ChOk s live ∧ 0 ≤ key ∧ ∀ A n c B, At live key A n c B → Q (.int n) H
theorem pure_place_of {K : PySem.W.Frag} {C CL : Addr} (hC : ChC K C CL) {vs : List V} {H : Hp} {Q : VK} {E : XK} (h : sp_place_of C CL vs H Q E) : t_Chain_place_of K ⟨fun _ H' => Q .non H', Q, fun _ _ => False, fun _ _ => False⟩ (start ["self", "key", "here", "after"] vs) H := by
  obtain ⟨p, s, live, key, R, rfl, hh, w, kk, q⟩ := h
  obtain ⟨cl, n1, n2, n3, n4, n5, n6, n7, cll, k1, k2⟩ := hC
  replace hh := ch_cut hh
  obtain ⟨l0, f0, _, a0, _⟩ := path_next w.pa
  have v0 : valV (mv lkR s.links) 0 = some (.ref l0.ad) := mv_some f0
  have g0 : H l0.ad = some (.ins CL l0.dx (lkF (.int l0.key) (opV l0.after))) := lk_get (hh.sub (show Sub (famU (obK CL) s.links :: _) _ by walk_at "sub")) f0
  have so := w.so2
  unfold t_Chain_place_of
  walk_at "go"
  refine k_while (fun m σ H' => H' = H ∧ ∃ A n c B, (0, -1) :: live = A ++ (n, c) :: B ∧ (∀ q ∈ A ++ [(n, c)], q.2 < key) ∧ m = B.length ∧ ∃ vo, vo = opV (B.head?.map (·.1)) ∧ σ = [some (.ref p), some (.int key), some (.int n), some vo]) live.length ⟨rfl, [], 0, -1, live, rfl, fun z hz => by rw [List.mem_singleton.mp hz]; show (-1 : Int) < key; omega, rfl, _, by rw [a0], rfl⟩ (fun m σ H' hw => ?_)
  obtain ⟨rfl, A, n, c, B, eB, lo, rfl, vo, ev, rfl⟩ := hw
  cases B with
  | nil =>
    have ev : vo = .non := ev
    subst ev
    refine x_and ?_
    walk_at "go"
    exact q A n c [] ⟨eB, lo, fun z hz => absurd hz List.not_mem_nil⟩
  | cons z B =>
    obtain ⟨m2, c2⟩ := z
    have hp2 : Path s.links (some m2) ((m2, c2) :: B) := path_at (A := A ++ [(n, c)]) (by have := w.pa; rw [eB] at this; simpa using this)
    obtain ⟨l2, f2, e2, a2, _⟩ := path_next hp2
    have v2 : valV (mv lkR s.links) m2 = some (.ref l2.ad) := mv_some f2
    have g2 : H' l2.ad = some (.ins CL l2.dx (lkF (.int l2.key) (opV l2.after))) := lk_get (hh.sub (show Sub (famU (obK CL) s.links :: _) _ by walk_at "sub")) f2
    have ev : vo = .int m2 := ev
    subst ev
    refine x_and ?_
    walk_at "go"
    refine ifD (fun hb => ?_) (fun hb => ?_)
    · rw [e2] at hb
      refine k_wb ?_
      walk_at "go"
      refine ⟨B.length, by simp, rfl, A ++ [(n, c)], m2, c2, B, by rw [eB]; simp, fun z hz => ?_, rfl, _, by rw [a2], rfl⟩
      rcases List.mem_append.mp hz with h | h
      · exact lo z h
      · rw [List.mem_singleton.mp h]; exact hb
    · rw [e2] at hb
      walk_at "go"
      refine q A n c _ ⟨eB, lo, fun z hz => ?_⟩
      rcases List.mem_cons.mp hz with h | h
      · rw [h]; show key ≤ c2; omega
      · rw [eB, List.map_append, List.map_cons, List.map_cons] at so
        have h1 := (List.pairwise_cons.mp (List.pairwise_cons.mp (List.pairwise_append.mp so).2.1).2).1 z.2 (List.mem_map.mpr ⟨z, h, rfl⟩)
        have h1 : c2 < z.2 := h1
        omega
end La
namespace La
open PySem L2 Sy
local macro_rules | `(tactic| walk_at "fl") => `(tactic| first | assumption | exact lk_key | exact lk_after | kernel_rfl)
local macro_rules | `(tactic| walk_at "put") => `(tactic| first | exact lk_put_key | exact lk_put_after | exact lk_p1 | exact lk_p2)
local macro_rules | `(tactic| walk_at "fsl") => `(tactic| first | assumption | exact lk_len | (show 0 < 1000; decide) | (show 1 < 1000; decide))
local macro_rules | `(tactic| walk_at "fl") => `(tactic| first | assumption | exact ch_hands | exact ch_links | exact ch_made | exact ch_era | exact ch_inside | exact ch_at | exact ch_waits | exact lk_key | exact lk_after | kernel_rfl)
local macro_rules | `(tactic| walk_at "put") => `(tactic| first | exact ch_put_hands | exact ch_put_links | exact ch_put_made | exact ch_put_era | exact ch_put_inside | exact ch_put_at | exact ch_put_waits | exact ch_p1 | exact ch_p2 | exact ch_p3 | exact ch_p4 | exact ch_p5 | exact ch_p6 | exact ch_p7)
local macro_rules | `(tactic| walk_at "fsl") => `(tactic| first | assumption | exact ch_len | (show 0 < 1000; decide) | (show 1 < 1000; decide) | (show 2 < 1000; decide) | (show 3 < 1000; decide) | (show 4 < 1000; decide) | (show 5 < 1000; decide) | (show 6 < 1000; decide))
def sp_chhas (C CL : Addr) : Sp := fun vs H Q _ => ∃ (p : Addr) (s : Cha) (live : List (Int × Int)) (key : Int) (R : List U), vs = [.ref p, .int key] ∧ Has H (chaU C CL p s :: R) ∧ ChOk s live ∧ 0 ≤ key ∧ key ≤ 999 ∧ Q (.bl (decide (key ∈ live.map (·.2)))) H
theorem pure_chhas {K : PySem.W.Frag} {C CL : Addr} (hC : ChC K C CL) {vs : List V} {H : Hp} {Q : VK} {E : XK} (h : sp_chhas C CL vs H Q E) : t_Chain_has K C sp_look_number (sp_place_of C CL) ⟨fun _ H' => Q .non H', Q, fun _ _ => False, fun _ _ => False⟩ (start ["self", "key", "after"] vs) H := by
  obtain ⟨p, s, live, key, R, rfl, h0, w, kk, k9, q⟩ := h
  obtain ⟨cl, n1, n2, n3, n4, n5, n6, n7, cll, k1, k2⟩ := hC
  have hh := ch_cut h0
  unfold t_Chain_has
  walk_at "go"
  refine ⟨key, 0, 999, rfl, kk, k9, ?_⟩
  walk_at "go"
  refine ⟨p, s, live, key, R, rfl, h0, w, kk, fun A n c B hA => ?_⟩
  have hni := hA.not_in w kk
  have hpn : Path s.links (some n) ((n, c) :: B) := path_at (A := A) (by have := w.pa; rw [hA.e] at this; exact this)
  obtain ⟨l, f, _, ha, hpB⟩ := path_next hpn
  have v1 : valV (mv lkR s.links) n = some (.ref l.ad) := mv_some f
  have g1 := lk_get (hh.sub (show Sub (famU (obK CL) s.links :: _) _ by walk_at "sub")) f
  rw [ha] at g1 hpB
  cases B with
  | nil =>
    have g1 : H l.ad = some (.ins CL l.dx (lkF (.int l.key) .non)) := g1
    rw [decide_eq_false (fun h => by obtain ⟨_, _, e, _⟩ := hni.mp h; cases e)] at q
    walk_at "go"
    exact q
  | cons z B =>
    obtain ⟨m2, c2⟩ := z
    have g1 : H l.ad = some (.ins CL l.dx (lkF (.int l.key) (.int m2))) := g1
    obtain ⟨l2, f2, e2, _, _⟩ := path_next hpB
    have v2 : valV (mv lkR s.links) m2 = some (.ref l2.ad) := mv_some f2
    have g2 := lk_get (hh.sub (show Sub (famU (obK CL) s.links :: _) _ by walk_at "sub")) f2
    have eq : decide (key ∈ live.map (·.2)) = decide (l2.key = key) := by
      rw [e2]
      exact decide_eq_decide.mpr (hni.trans ⟨fun ⟨q, r, e, h⟩ => by cases e; exact h, fun h => ⟨_, _, rfl, h⟩⟩)
    rw [eq] at q
    walk_at "go"
    exact q
def Cha.put (s : Cha) (n key : Int) (l : Lk) (x xd : Addr) : Cha := { s with links := pu (pu s.links n { l with after := some s.made }) s.made ⟨x, xd, key, l.after⟩, made := s.made + 1 }
def sp_chput (C CL : Addr) : Sp := fun vs H Q _ => ∃ (p : Addr) (s : Cha) (live : List (Int × Int)) (key : Int) (R : List U), vs = [.ref p, .int key] ∧ Has H (chaU C CL p s :: R) ∧ ChOk s live ∧ 0 ≤ key ∧ key ≤ 999 ∧
  (key ∈ live.map (·.2) → Q (.bl false) H) ∧ (¬ key ∈ live.map (·.2) → ∀ A n c B l x xd H', At live key A n c B → fd s.links n = some l → Has H' (chaU C CL p (s.put n key l x xd) :: R) → Q (.bl true) H')
theorem mvL_same {m : Lks} {n : Int} {l l' : Lk} (nd : (m.map (·.1)).Nodup) (h : fd m n = some l) (e : l'.ad = l.ad) : mv lkR (pu m n l') = mv lkR m := by
  obtain ⟨A, B, em, ep, _⟩ := pu_split nd h
  rw [ep, em]
  unfold mv
  rw [List.map_append, List.map_append, List.map_cons, List.map_cons]
  show _ ++ (n, V.ref l'.ad) :: _ = _ ++ (n, V.ref l.ad) :: _
  rw [e]
theorem made_new {s : Cha} {live : List (Int × Int)} (w : ChOk s live) : fd s.links s.made = none := fd_none.mpr fun h => by have := w.nm _ h; omega
theorem pure_chput {K : PySem.W.Frag} {C CL : Addr} (hC : ChC K C CL) {vs : List V} {H : Hp} {Q : VK} {E : XK} (h : sp_chput C CL vs H Q E) : t_Chain_put K C CL (sp_chhas C CL) (sp_place_of C CL) (sp_lkinit CL) ⟨fun _ H' => Q .non H', Q, fun _ _ => False, fun _ _ => False⟩ (start ["self", "key", "ahead"] vs) H := by
  obtain ⟨p, s, live, key, R, rfl, h0, w, kk, k9, q1, q2⟩ := h
  obtain ⟨cl, n1, n2, n3, n4, n5, n6, n7, cll, k1, k2⟩ := hC
  have hp := (ch_cut h0).g0
  have hbd := w.bd
  unfold t_Chain_put
  walk_at "go"
  refine ⟨p, s, live, key, R, rfl, h0, w, kk, k9, ?_⟩
  walk_at "go"
  refine ifD (fun hb => ?_) (fun hb => ?_)
  · walk_at "go"
    exact q1 hb
  have hh := ch_cut h0
  walk_at "go"
  refine ⟨p, s, live, key, R, rfl, h0, w, kk, fun A n c B hA => ?_⟩
  have hpn : Path s.links (some n) ((n, c) :: B) := path_at (A := A) (by have := w.pa; rw [hA.e] at this; exact this)
  obtain ⟨l, f, _, ha, hpB⟩ := path_next hpn
  have v1 : valV (mv lkR s.links) n = some (.ref l.ad) := mv_some f
  obtain ⟨A2, B2, em, ep, _⟩ := pu_split w.nd f
  have e1 : (mv lkR s.links).length < sizeLine := by rw [mv_len, sizeLine_eq]; omega
  unfold chaL at hh
  rw [show famU (obK CL) s.links = famU (obK CL) (A2 ++ (n, l) :: B2) by rw [em]] at hh
  have h1 := fam_out (hh.sub (show Sub (famU (obK CL) (A2 ++ (n, l) :: B2) :: _) _ by walk_at "sub"))
  have h1 : Has H ([(l.ad, .ins CL l.dx (lkF (.int l.key) (opV l.after)))] :: _) := h1
  clear hh hp h0
  walk_at "go"
  rename_i x xd H1 h2
  refine ⟨x, xd, key, l.after, _, rfl, h2, fun H2 h3 => ⟨rfl, ?_⟩⟩
  clear h1 h2
  walk_at "go"
  rename_i H4 h4 H5 h5 H6 h6
  refine q2 hb A n c B l x xd H6 hA f ?_
  rw [show V.ref x = lkR ⟨x, xd, key, l.after⟩ from rfl, mv_put, pu_new _ (made_new w)] at h6
  have hn2 : fd (pu s.links n { l with after := some s.made }) s.made = none := by
    rw [fd_pu, if_neg (fun e => by have := made_new w; rw [e, f] at this; cases this)]
    exact made_new w
  have e2 : mv lkR (s.links ++ [(s.made, (⟨x, xd, key, l.after⟩ : Lk))]) = mv lkR (pu (pu s.links n { l with after := some s.made }) s.made ⟨x, xd, key, l.after⟩) := by
    rw [pu_new _ hn2]
    show (s.links ++ _).map _ = (pu s.links n _ ++ _).map _
    rw [List.map_append, List.map_append]
    exact congrArg (· ++ _) (mvL_same (l' := { l with after := some s.made }) w.nd f rfl).symm
  rw [e2] at h6
  have h7 := fam_in (obs := obK CL) (k := n) (b := { l with after := some s.made }) (h6.sub (show Sub (obK CL { l with after := some s.made } :: famU (obK CL) A2 :: famU (obK CL) B2 :: _) _ by walk_at "sub"))
  have h8 := fam_snoc (obs := obK CL) (k := s.made) (b := ⟨x, xd, key, l.after⟩) (h7.sub (show Sub (obK CL ⟨x, xd, key, l.after⟩ :: famU (obK CL) (A2 ++ (n, { l with after := some s.made }) :: B2) :: _) _ by walk_at "sub"))
  rw [← ep, ← pu_new _ hn2] at h8
  exact ch_in (s := s.put n key l x xd) (h8.sub (show Sub ([(p, _)] :: [(s.la, _)] :: [(s.ia, _)] :: [(s.aa, _)] :: [(s.wa, _)] :: famU (obK CL) (pu (pu s.links n { l with after := some s.made }) s.made ⟨x, xd, key, l.after⟩) :: R) _ by walk_at "sub"))
def Cha.out (s : Cha) (n m : Int) (l l2 : Lk) : Cha := { s with links := pu s.links n { l with after := l2.after }, waits := pu s.waits m s.era }
def sp_chout (C CL : Addr) : Sp := fun vs H Q _ => ∃ (p : Addr) (s : Cha) (live : List (Int × Int)) (key : Int) (R : List U), vs = [.ref p, .int key] ∧ Has H (chaU C CL p s :: R) ∧ ChOk s live ∧ 0 ≤ key ∧ key ≤ 999 ∧
  (¬ key ∈ live.map (·.2) → Q (.bl false) H) ∧ (key ∈ live.map (·.2) → ∀ A n c m B l l2 H', At live key A n c ((m, key) :: B) → fd s.links n = some l → l.after = some m → fd s.links m = some l2 → Has H' (chaU C CL p (s.out n m l l2) :: R) → Q (.bl true) H')
theorem pure_chout {K : PySem.W.Frag} {C CL : Addr} (hC : ChC K C CL) {vs : List V} {H : Hp} {Q : VK} {E : XK} (h : sp_chout C CL vs H Q E) : t_Chain_take_out K C (sp_chhas C CL) (sp_place_of C CL) ⟨fun _ H' => Q .non H', Q, fun _ _ => False, fun _ _ => False⟩ (start ["self", "key", "ahead", "name"] vs) H := by
  obtain ⟨p, s, live, key, R, rfl, h0, w, kk, k9, q1, q2⟩ := h
  obtain ⟨cl, n1, n2, n3, n4, n5, n6, n7, cll, k1, k2⟩ := hC
  have hp := (ch_cut h0).g0
  have hbd := w.bd
  have hln := w.ln
  unfold t_Chain_take_out
  walk_at "go"
  refine ⟨p, s, live, key, R, rfl, h0, w, kk, k9, ?_⟩
  walk_at "go"
  refine ifE (fun hb => ?_) (fun hb => ?_)
  · walk_at "go"
    exact q1 hb
  have hh := ch_cut h0
  walk_at "go"
  refine ⟨p, s, live, key, R, rfl, h0, w, kk, fun A n c B hA => ?_⟩
  obtain ⟨⟨m, c2⟩, B, rfl, hk2⟩ := (hA.not_in w kk).mp hb
  have hk2 : c2 = key := hk2
  subst hk2
  have hpn : Path s.links (some n) ((n, c) :: (m, c2) :: B) := path_at (A := A) (by have := w.pa; rw [hA.e] at this; exact this)
  obtain ⟨l, f, _, ha, hpB⟩ := path_next hpn
  have ha : l.after = some m := ha
  rw [ha] at hpB
  obtain ⟨l2, f2, e2, _, _⟩ := path_next hpB
  have v1 : valV (mv lkR s.links) n = some (.ref l.ad) := mv_some f
  have v2 : valV (mv lkR s.links) m = some (.ref l2.ad) := mv_some f2
  obtain ⟨A2, B2, em, ep, _⟩ := pu_split w.nd f
  have e1 : (mv V.int s.waits).length < sizeLine := by rw [mv_len, sizeLine_eq]; omega
  have g2 := lk_get (hh.sub (show Sub (famU (obK CL) s.links :: _) _ by walk_at "sub")) f2
  unfold chaL at hh
  rw [show famU (obK CL) s.links = famU (obK CL) (A2 ++ (n, l) :: B2) by rw [em]] at hh
  have h1 := fam_out (hh.sub (show Sub (famU (obK CL) (A2 ++ (n, l) :: B2) :: _) _ by walk_at "sub"))
  have h1 : Has H ([(l.ad, .ins CL l.dx (lkF (.int l.key) (opV l.after)))] :: _) := h1
  rw [ha] at h1
  have h1 : Has H ([(l.ad, .ins CL l.dx (lkF (.int l.key) (.int m)))] :: _) := h1
  clear hh hp h0
  walk_at "go"
  rename_i H2 h2 H3 h3
  rw [mv_put] at h3
  refine q2 hb A n c m B l l2 H3 hA f ha f2 ?_
  have h7 := fam_in (obs := obK CL) (k := n) (b := { l with after := l2.after }) (h3.sub (show Sub (obK CL { l with after := l2.after } :: famU (obK CL) A2 :: famU (obK CL) B2 :: _) _ by walk_at "sub"))
  rw [← ep] at h7
  rw [← mvL_same (l' := { l with after := l2.after }) w.nd f rfl] at h7
  exact ch_in (s := s.out n m l l2) (h7.sub (show Sub ([(p, _)] :: [(s.la, _)] :: [(s.ia, _)] :: [(s.aa, _)] :: [(s.wa, _)] :: famU (obK CL) (pu s.links n { l with after := l2.after }) :: R) _ by walk_at "sub"))
def sp_keys_in (C CL : Addr) : Sp := fun vs H Q _ => ∃ (p : Addr) (s : Cha) (live : List (Int × Int)) (R : List U), vs = [.ref p] ∧ Has H (chaU C CL p s :: R) ∧ ChOk s live ∧ ∀ d H', Has H' ([(d, .lst ((live.map (·.2)).map V.int))] :: chaU C CL p s :: R) → Q (.ref d) H'
theorem pure_keys_in {K : PySem.W.Frag} {C CL : Addr} (hC : ChC K C CL) {vs : List V} {H : Hp} {Q : VK} {E : XK} (h : sp_keys_in C CL vs H Q E) : t_Chain_keys_in K ⟨fun _ H' => Q .non H', Q, fun _ _ => False, fun _ _ => False⟩ (start ["self", "found", "here"] vs) H := by
  obtain ⟨p, s, live, R, rfl, h0, w, q⟩ := h
  obtain ⟨cl, n1, n2, n3, n4, n5, n6, n7, cll, k1, k2⟩ := hC
  have hbd := w.bd
  have hln := w.ln
  have hh := ch_cut h0
  clear h0
  obtain ⟨l0, f0, _, a0, _⟩ := path_next w.pa
  have v0 : valV (mv lkR s.links) 0 = some (.ref l0.ad) := mv_some f0
  unfold t_Chain_keys_in
  walk_at "go"
  rename_i d H1 h1
  have g0 := lk_get (h1.sub (show Sub (famU (obK CL) s.links :: _) _ by walk_at "sub")) f0
  clear hh
  walk_at "go"
  refine k_while (fun m σ H' => ∃ A B, live = A ++ B ∧ m = B.length ∧ (∃ vo, vo = opV (B.head?.map (·.1)) ∧ σ = [some (.ref p), some (.ref d), some vo]) ∧ Has H' ([(d, .lst ((A.map (·.2)).map V.int))] :: chaL C CL p s R)) live.length ⟨[], live, rfl, rfl, ⟨_, by rw [a0], rfl⟩, h1⟩ (fun m σ H' hw => ?_)
  obtain ⟨A, B, eB, rfl, ⟨vo, ev, rfl⟩, h'⟩ := hw
  clear h1 g0
  cases B with
  | nil =>
    have ev : vo = .non := ev
    subst ev
    walk_at "go"
    rw [show A = live by rw [eB, List.append_nil]] at h'
    exact q d H' ((ch_in (h'.sub (Sub.p1 (Sub.p1 (Sub.p1 (Sub.p1 (Sub.p1 (Sub.p1 Sub.rf)))))))).sub (Sub.p1 (Sub.p0 Sub.rf)))
  | cons z B =>
    obtain ⟨m2, c2⟩ := z
    have ev : vo = .int m2 := ev
    subst ev
    have hp2 : Path s.links (some m2) ((m2, c2) :: B) := path_at (A := (0, -1) :: A) (by have := w.pa; rw [eB] at this; exact this)
    obtain ⟨l2, f2, e2, a2, _⟩ := path_next hp2
    have v2 : valV (mv lkR s.links) m2 = some (.ref l2.ad) := mv_some f2
    have hl : A.length ≤ live.length := by rw [eB, List.length_append]; omega
    have e1 : ((A.map (·.2)).map V.int).length < sizeLine := by rw [List.length_map, List.length_map, sizeLine_eq]; omega
    walk_at "go"
    refine k_wb ?_
    have g2 := lk_get (h'.sub (show Sub (famU (obK CL) s.links :: _) _ by walk_at "sub")) f2
    walk_at "go"
    rename_i H2 h2
    have g2 := lk_get (h2.sub (show Sub (famU (obK CL) s.links :: _) _ by walk_at "sub")) f2
    clear h'
    walk_at "go"
    refine ⟨B.length, by simp, A ++ [(m2, c2)], B, by rw [eB]; simp, rfl, ⟨_, by rw [a2], rfl⟩, ?_⟩
    rw [show (A.map (·.2)).map V.int ++ [V.int l2.key] = ((A ++ [(m2, c2)]).map (·.2)).map V.int by rw [List.map_append, List.map_append, e2]; rfl] at h2
    exact h2
def sp_chlook_hand (C CL : Addr) : Sp := fun vs H Q _ => ∃ (p : Addr) (s : Cha) (k : Int) (R : List U), vs = [.ref p, .int k] ∧ Has H (chaU C CL p s :: R) ∧ 0 ≤ k ∧ k < s.hands ∧ Q .non H
theorem pure_chlook_hand {K : PySem.W.Frag} {C CL : Addr} (hC : ChC K C CL) {vs : List V} {H : Hp} {Q : VK} {E : XK} (h : sp_chlook_hand C CL vs H Q E) : t_Chain_look_hand K sp_is_whole ⟨fun _ H' => Q .non H', Q, fun _ _ => False, fun _ _ => False⟩ (start ["self", "hand"] vs) H := by
  obtain ⟨p, s, k, R, rfl, hh, c0, c1, q⟩ := h
  obtain ⟨cl, n1, n2, n3, n4, n5, n6, n7, cll, k1, k2⟩ := hC
  replace hh := ch_cut hh
  unfold t_Chain_look_hand
  walk_at "go"
  refine ⟨k, 0, _, rfl, ?_⟩
  rw [decide_eq_true (by omega)]
  walk_at "go"
  exact q
def sp_chlook_in (C CL : Addr) : Sp := fun vs H Q _ => ∃ (p : Addr) (s : Cha) (k : Int) (R : List U), vs = [.ref p, .int k] ∧ Has H (chaU C CL p s :: R) ∧ 0 ≤ k ∧ k < s.hands ∧ (fd s.inside k).isSome = true ∧ Q .non H
theorem pure_chlook_in {K : PySem.W.Frag} {C CL : Addr} (hC : ChC K C CL) {vs : List V} {H : Hp} {Q : VK} {E : XK} (h : sp_chlook_in C CL vs H Q E) : t_Chain_look_in K C (sp_chlook_hand C CL) ⟨fun _ H' => Q .non H', Q, fun _ _ => False, fun _ _ => False⟩ (start ["self", "hand"] vs) H := by
  obtain ⟨p, s, k, R, rfl, h0, c0, c1, hf, q⟩ := h
  obtain ⟨cl, n1, n2, n3, n4, n5, n6, n7, cll, k1, k2⟩ := hC
  have hh := ch_cut h0
  unfold t_Chain_look_in
  walk_at "go"
  refine ⟨p, s, k, R, rfl, h0, c0, c1, ?_⟩
  walk_at "go"
  rw [mv_isSome, hf]
  walk_at "go"
  exact q
def Cha.start (s : Cha) (k : Int) : Cha := { s with inside := pu s.inside k s.era, wh := pu s.wh k 0 }
def sp_chstart (C CL : Addr) : Sp := fun vs H Q _ => ∃ (p : Addr) (s : Cha) (k : Int) (R : List U), vs = [.ref p, .int k] ∧ Has H (chaU C CL p s :: R) ∧ 0 ≤ k ∧ k < s.hands ∧ fd s.inside k = none ∧ s.inside.length ≤ 500 ∧ s.wh.length ≤ 500 ∧ ∀ H', Has H' (chaU C CL p (s.start k) :: R) → Q .non H'
theorem pure_chstart {K : PySem.W.Frag} {C CL : Addr} (hC : ChC K C CL) {vs : List V} {H : Hp} {Q : VK} {E : XK} (h : sp_chstart C CL vs H Q E) : t_Chain_start K C (sp_chlook_hand C CL) ⟨fun _ H' => Q .non H', Q, fun _ _ => False, fun _ _ => False⟩ (start ["self", "hand"] vs) H := by
  obtain ⟨p, s, k, R, rfl, h0, c0, c1, hf, l1, l2, q⟩ := h
  obtain ⟨cl, n1, n2, n3, n4, n5, n6, n7, cll, k1, k2⟩ := hC
  have e1 : (mv V.int s.inside).length < sizeLine := by rw [mv_len, sizeLine_eq]; omega
  have e2 : (mv V.int s.wh).length < sizeLine := by rw [mv_len, sizeLine_eq]; omega
  have hh := ch_cut h0
  unfold t_Chain_start
  walk_at "go"
  refine ⟨p, s, k, R, rfl, h0, c0, c1, ?_⟩
  clear h0
  walk_at "go"
  rw [mv_isSome, hf]
  refine ifF ?_
  walk_at "go"
  rename_i H1 h1 H2 h2
  rw [mv_put, mv_put] at h2
  exact q H2 (ch_in (s := s.start k) h2)
def Cha.stop (s : Cha) (k : Int) : Cha := { s with inside := rm s.inside k, wh := rm s.wh k }
def sp_chstop (C CL : Addr) : Sp := fun vs H Q _ => ∃ (p : Addr) (s : Cha) (k : Int) (R : List U), vs = [.ref p, .int k] ∧ Has H (chaU C CL p s :: R) ∧ 0 ≤ k ∧ k < s.hands ∧ (fd s.inside k).isSome = true ∧ (fd s.wh k).isSome = true ∧ ∀ H', Has H' (chaU C CL p (s.stop k) :: R) → Q .non H'
theorem pure_chstop {K : PySem.W.Frag} {C CL : Addr} (hC : ChC K C CL) {vs : List V} {H : Hp} {Q : VK} {E : XK} (h : sp_chstop C CL vs H Q E) : t_Chain_stop K C (sp_chlook_in C CL) ⟨fun _ H' => Q .non H', Q, fun _ _ => False, fun _ _ => False⟩ (start ["self", "hand"] vs) H := by
  obtain ⟨p, s, k, R, rfl, h0, c0, c1, hf, hg, q⟩ := h
  obtain ⟨cl, n1, n2, n3, n4, n5, n6, n7, cll, k1, k2⟩ := hC
  obtain ⟨b, hb⟩ := Option.isSome_iff_exists.mp hf
  obtain ⟨a, ha⟩ := Option.isSome_iff_exists.mp hg
  have v1 : valV (mv V.int s.inside) k = some (.int b) := mv_some hb
  have v2 : valV (mv V.int s.wh) k = some (.int a) := mv_some ha
  have hh := ch_cut h0
  unfold t_Chain_stop
  walk_at "go"
  refine ⟨p, s, k, R, rfl, h0, c0, c1, hf, ?_⟩
  clear h0
  walk_at "go"
  rename_i H1 h1 H2 h2
  rw [mv_drop, mv_drop] at h2
  exact q H2 (ch_in (s := s.stop k) h2)
def sp_chstep (C CL : Addr) : Sp := fun vs H Q _ => ∃ (p : Addr) (s : Cha) (k a c : Int) (pl : List (Int × Int)) (R : List U), vs = [.ref p, .int k] ∧ Has H (chaU C CL p s :: R) ∧ 0 ≤ k ∧ k < s.hands ∧ (fd s.inside k).isSome = true ∧ fd s.wh k = some a ∧ s.wh.length ≤ 500 ∧ Path s.links (some a) ((a, c) :: pl) ∧
  (pl = [] → ∀ H', Has H' (chaU C CL p (s.stop k) :: R) → Q .non H') ∧ (∀ m c2 r, pl = (m, c2) :: r → ∀ H', Has H' (chaU C CL p { s with wh := pu s.wh k m } :: R) → Q (.int c2) H')
theorem pure_chstep {K : PySem.W.Frag} {C CL : Addr} (hC : ChC K C CL) {vs : List V} {H : Hp} {Q : VK} {E : XK} (h : sp_chstep C CL vs H Q E) : t_Chain_step K C (sp_chlook_in C CL) (sp_chstop C CL) ⟨fun _ H' => Q .non H', Q, fun _ _ => False, fun _ _ => False⟩ (start ["self", "hand", "after"] vs) H := by
  obtain ⟨p, s, k, a, c, pl, R, rfl, h0, c0, c1, hf, ha, l1, hpa, q1, q2⟩ := h
  obtain ⟨cl, n1, n2, n3, n4, n5, n6, n7, cll, k1, k2⟩ := hC
  obtain ⟨l, f, _, hla, hpB⟩ := path_next hpa
  have v1 : valV (mv V.int s.wh) k = some (.int a) := mv_some ha
  have v2 : valV (mv lkR s.links) a = some (.ref l.ad) := mv_some f
  have e1 : (mv V.int s.wh).length < sizeLine := by rw [mv_len, sizeLine_eq]; omega
  have hh := ch_cut h0
  have g1 := lk_get (hh.sub (show Sub (famU (obK CL) s.links :: _) _ by walk_at "sub")) f
  rw [hla] at g1 hpB
  unfold t_Chain_step
  walk_at "go"
  refine ⟨p, s, k, R, rfl, h0, c0, c1, hf, ?_⟩
  cases pl with
  | nil =>
    have g1 : H l.ad = some (.ins CL l.dx (lkF (.int l.key) .non)) := g1
    walk_at "go"
    refine ⟨p, s, k, R, rfl, h0, c0, c1, hf, by rw [ha]; rfl, fun H1 h1 => ?_⟩
    walk_at "go"
    exact q1 rfl H1 h1
  | cons z r =>
    obtain ⟨m, c2⟩ := z
    have g1 : H l.ad = some (.ins CL l.dx (lkF (.int l.key) (.int m))) := g1
    obtain ⟨l2, f2, e2, _, _⟩ := path_next hpB
    have v3 : valV (mv lkR s.links) m = some (.ref l2.ad) := mv_some f2
    clear h0
    walk_at "go"
    rw [mv_isSome, f2]
    refine ifF ?_
    walk_at "go"
    rename_i H1 h1
    rw [mv_put] at h1
    have g2 := lk_get (h1.sub (show Sub (famU (obK CL) s.links :: _) _ by walk_at "sub")) f2
    clear hh
    walk_at "go"
    rw [e2]
    exact q2 m c2 r rfl H1 (ch_in (s := { s with wh := pu s.wh k m }) h1)
def sp_walkers (C CL : Addr) : Sp := fun vs H Q _ => ∃ (p : Addr) (s : Cha) (R : List U), vs = [.ref p] ∧ Has H (chaU C CL p s :: R) ∧ s.inside.length < 64 ∧ ∀ d H', Has H' ([(d, .lst ((srtI (s.inside.map (·.1))).map V.int))] :: chaU C CL p s :: R) → Q (.ref d) H'
theorem pure_walkers {K : PySem.W.Frag} {C CL : Addr} (hC : ChC K C CL) {vs : List V} {H : Hp} {Q : VK} {E : XK} (h : sp_walkers C CL vs H Q E) : t_Chain_walkers K ⟨fun _ H' => Q .non H', Q, fun _ _ => False, fun _ _ => False⟩ (start ["self"] vs) H := by
  obtain ⟨p, s, R, rfl, h0, l1, q⟩ := h
  obtain ⟨cl, n1, n2, n3, n4, n5, n6, n7, cll, k1, k2⟩ := hC
  have hh := ch_cut h0
  have e1 : (mv V.int s.inside).length < 64 := by rw [mv_len]; exact l1
  clear h0
  unfold t_Chain_walkers
  walk_at "go"
  rename_i ys d H1 y1 y2 h1
  rw [mv_keys] at y1
  rw [srtI_eq y1 y2] at h1
  exact q d H1 ((ch_in (h1.sub (Sub.p1 (Sub.p1 (Sub.p1 (Sub.p1 (Sub.p1 (Sub.p1 Sub.rf)))))))).sub (Sub.p1 (Sub.p0 Sub.rf)))
def sp_chlen (C CL : Addr) : Sp := fun vs H Q _ => ∃ (p : Addr) (s : Cha) (R : List U), vs = [.ref p] ∧ Has H (chaU C CL p s :: R) ∧ Q (.int s.links.length) H
theorem pure_chlen {K : PySem.W.Frag} {C CL : Addr} (hC : ChC K C CL) {vs : List V} {H : Hp} {Q : VK} {E : XK} (h : sp_chlen C CL vs H Q E) : t_Chain_len K ⟨fun _ H' => Q .non H', Q, fun _ _ => False, fun _ _ => False⟩ (start ["self"] vs) H := by
  obtain ⟨p, s, R, rfl, h0, q⟩ := h
  obtain ⟨cl, n1, n2, n3, n4, n5, n6, n7, cll, k1, k2⟩ := hC
  have hh := ch_cut h0
  unfold t_Chain_len
  walk_at "go"
  rw [mk_len, mv_len]
  exact q
/-- rounds go on -/
def Cha.free (s : Cha) : Prop := ∀ q ∈ s.inside, q.2 = s.era
def Cha.gone (s : Cha) : List Int := (s.waits.map (·.1)).filter fun z => decide ((fd s.waits z).getD 0 ≤ s.era + 1 - 2)
def Cha.went (s : Cha) : Cha := { s with era := s.era + 1, waits := rms s.waits s.gone, links := rms s.links s.gone }
def sp_chgo (C CL : Addr) : Sp := fun vs H Q _ => ∃ (p : Addr) (s : Cha) (R : List U), vs = [.ref p] ∧ Has H (chaU C CL p s :: R) ∧ (s.inside.map (·.1)).Nodup ∧ (s.waits.map (·.1)).Nodup ∧ (s.links.map (·.1)).Nodup ∧ (∀ z ∈ s.waits.map (·.1), z ∈ s.links.map (·.1)) ∧ s.inside.length ≤ 500 ∧ s.waits.length ≤ 5000 ∧
  (¬ s.free → ∀ H', Has H' (chaU C CL p s :: R) → Q .non H') ∧ (s.free → ∀ H', Has H' (chaU C CL p s.went :: R) → Q (.int s.gone.length) H')
theorem rms_has {β : Type} {m : List (Int × β)} {ks : List Int} {k : Int} (h : k ∈ m.map (·.1)) (hk : k ∉ ks) : (fd (rms m ks) k).isSome = true := by
  rw [fd_isSome]
  obtain ⟨q, hq, e⟩ := List.mem_map.mp h
  exact List.mem_map.mpr ⟨q, List.mem_filter.mpr ⟨hq, by rw [e]; simpa using hk⟩, e⟩
theorem rms_sub {β : Type} (m : List (Int × β)) (ks : List Int) : (rms m ks).Sublist m := List.filter_sublist
theorem pure_chgo {K : PySem.W.Frag} {C CL : Addr} (hC : ChC K C CL) {vs : List V} {H : Hp} {Q : VK} {E : XK} (h : sp_chgo C CL vs H Q E) : t_Chain_go_on K ⟨fun _ H' => Q .non H', Q, fun _ _ => False, fun _ _ => False⟩ (start ["self", "hand", "found", "name"] vs) H := by
  obtain ⟨p, s, R, rfl, h0, ni, nw, nl, wl, l1, l2, q1, q2⟩ := h
  obtain ⟨cl, n1, n2, n3, n4, n5, n6, n7, cll, k1, k2⟩ := hC
  have hh := ch_cut h0
  clear h0
  unfold t_Chain_go_on
  walk_at "go"
  refine x_lcD (d := s.ia) (fun z => .bl (decide ((fd s.inside z).getD 0 = s.era))) (fun _ => true) (hh.sub (show Sub ([(s.ia, _)] :: _) _ by walk_at "sub")) (by rw [mv_len]; omega) (fun o H' Q' h' q' => ?_) (fun o z hz D M H' Q' h' q' => q' H' h') (fun o z hz _ D M H' Q' h' q' => ?_) fun D H1 h1 => ?_
  · walk_at "go"
    exact q'
  · rw [mv_keys] at hz
    obtain ⟨e, he⟩ := Option.isSome_iff_exists.mp (fd_isSome.mpr hz)
    have hv : valV (mv V.int s.inside) z = some (.int e) := mv_some he
    rw [he] at q'
    walk_at "go"
    exact q' H' h'
  have eb : ((mv V.int s.inside).map (·.1)).filter (fun _ => true) = s.inside.map (·.1) := by rw [filt_true, mv_keys]
  have eb2 : (s.inside.map (·.1)).map (fun z => V.bl (decide ((fd s.inside z).getD 0 = s.era))) = ((s.inside.map (·.1)).map fun z => decide ((fd s.inside z).getD 0 = s.era)).map V.bl := by rw [List.map_map (g := V.bl)]; rfl
  rw [eb, eb2] at h1
  clear hh
  walk_at "go"
  have ef : (((s.inside.map (·.1)).map fun z => decide ((fd s.inside z).getD 0 = s.era)).all id = true) ↔ s.free := by
    rw [List.all_map, List.all_map, List.all_eq_true]
    constructor
    · intro hA q hq
      have h4 : decide ((fd s.inside q.1).getD 0 = s.era) = true := hA q hq
      rw [fd_of ni (show (q.1, q.2) ∈ s.inside from hq)] at h4
      simpa using h4
    · intro hA q hq
      show decide ((fd s.inside q.1).getD 0 = s.era) = true
      rw [fd_of ni (show (q.1, q.2) ∈ s.inside from hq)]
      simpa using hA q hq
  refine ifB (fun hb => ?_) (fun hb => ?_)
  · have hnf : ¬ s.free := fun z => by rw [ef.mpr z] at hb; cases hb
    walk_at "go"
    exact q1 hnf H1 (ch_in (h1.sub (show Sub ([(p, _)] :: [(s.la, _)] :: [(s.ia, _)] :: [(s.aa, _)] :: [(s.wa, _)] :: famU (obK CL) s.links :: R) _ by walk_at "sub")))
  · have hf : s.free := ef.mp (by simpa using hb)
    walk_at "go"
    rename_i H2 h2
    clear h1
    refine x_asgD (d := s.wa) (fun z => .int z) (fun z => decide ((fd s.waits z).getD 0 ≤ s.era + 1 - 2)) (h2.sub (show Sub ([(s.wa, dI (mv V.int s.waits))] :: _) _ by walk_at "sub")) (by rw [mv_len]; omega) (fun o H' Q' h' q' => ?_) (fun o z hz D M H' Q' h' q' => ?_) (fun o z hz _ D M H' Q' h' q' => ?_) fun f H4 h4 => ?_
    · walk_at "go"
      exact q'
    · rw [mv_keys] at hz
      obtain ⟨e, he⟩ := Option.isSome_iff_exists.mp (fd_isSome.mpr hz)
      have hv : valV (mv V.int s.waits) z = some (.int e) := mv_some he
      rw [he] at q'
      walk_at "go"
      exact q' H' h'
    · walk_at "go"
      exact q' H' h'
    · rw [mv_keys] at h4
      have eg : (s.waits.map (·.1)).filter (fun z => decide ((fd s.waits z).getD 0 ≤ s.era + 1 - 2)) = s.gone := rfl
      rw [eg] at h4
      have hgn : s.gone.Nodup := (List.filter_sublist).nodup nw
      have hgm : ∀ k ∈ s.gone, k ∈ s.waits.map (·.1) := fun k hk => (List.mem_filter.mp hk).1
      clear h2
      walk_at "go"
      refine k_forL (fun i σ H' => ∃ v : Option V, σ = [some (.ref p), none, some (.ref f), v] ∧ Has H' ([(f, .lst (s.gone.map V.int))] :: chaL C CL p { s with era := s.era + 1, waits := rms s.waits (s.gone.take i), links := rms s.links (s.gone.take i) } R)) (by walk_at "hp") ⟨none, rfl, ?_⟩ ?_ ?_ ?_
      · rw [List.take_zero]
        show Has H4 ([(f, .lst (s.gone.map V.int))] :: [(p, _)] :: [(s.la, dI (mv lkR (rms s.links [])))] :: [(s.ia, _)] :: [(s.aa, _)] :: [(s.wa, dI (mv V.int (rms s.waits [])))] :: famU (obK CL) (rms s.links []) :: R)
        rw [rms_nil, rms_nil]
        exact h4.sub (show Sub ([(f, _)] :: [(p, _)] :: [(s.la, _)] :: [(s.ia, _)] :: [(s.aa, _)] :: [(s.wa, _)] :: famU (obK CL) s.links :: R) _ by walk_at "sub")
      · rintro i σ H' ⟨v, rfl, h'⟩
        walk_at "hp"
      · rintro i y σ H' hi ⟨v, rfl, h'⟩
        rw [List.getElem?_map] at hi
        obtain ⟨k, hk1, rfl⟩ := Option.map_eq_some_iff.mp hi
        have hm : k ∈ s.gone := List.mem_of_getElem? hk1
        have et : s.gone.take (i + 1) = s.gone.take i ++ [k] := by rw [List.take_add_one, hk1]; rfl
        have hnt : k ∉ s.gone.take i := fun z => by
          have h2 : (s.gone.take i ++ [k]).Nodup := et ▸ ((List.take_sublist (i + 1) s.gone).nodup hgn)
          rw [List.nodup_append] at h2
          exact h2.2.2 k z k (List.mem_singleton.mpr rfl) rfl
        obtain ⟨b, hb2⟩ := Option.isSome_iff_exists.mp (rms_has (m := s.waits) (hgm k hm) hnt)
        obtain ⟨l, hl2⟩ := Option.isSome_iff_exists.mp (rms_has (m := s.links) (wl k (hgm k hm)) hnt)
        have hv : valV (mv V.int (rms s.waits (s.gone.take i))) k = some (.int b) := mv_some hb2
        have hv2 : valV (mv lkR (rms s.links (s.gone.take i))) k = some (.ref l.ad) := mv_some hl2
        obtain ⟨A, B, em, _, er⟩ := pu_split (((rms_sub s.links _).map _).nodup nl) hl2
        have h' : Has H' ([(f, .lst (s.gone.map V.int))] :: [(p, .ins C s.dx (chF (.int s.hands) (.ref s.la) (.int s.made) (.int (s.era + 1)) (.ref s.ia) (.ref s.aa) (.ref s.wa)))] :: [(s.la, dI (mv lkR (rms s.links (s.gone.take i))))] :: [(s.ia, dI (mv V.int s.inside))] :: [(s.aa, dI (mv V.int s.wh))] :: [(s.wa, dI (mv V.int (rms s.waits (s.gone.take i))))] :: famU (obK CL) (rms s.links (s.gone.take i)) :: R) := h'
        walk_at "go"
        rename_i H5 h5 H6 h6
        refine ⟨_, rfl, ?_⟩
        rw [mv_drop, mv_drop, rms_snoc, rms_snoc, ← et, show famU (obK CL) (rms s.links (s.gone.take i)) = famU (obK CL) (A ++ (k, l) :: B) by rw [em]] at h6
        have h7 := fam_out (h6.sub (show Sub (famU (obK CL) (A ++ (k, l) :: B) :: _) _ by walk_at "sub"))
        have h8 := fam_two (h7.sub (show Sub (famU (obK CL) A :: famU (obK CL) B :: _) _ from Sub.skip Sub.rf))
        rw [← er, rms_snoc, ← et] at h8
        exact h8.sub (show Sub ([(f, _)] :: [(p, _)] :: [(s.la, _)] :: [(s.ia, _)] :: [(s.aa, _)] :: [(s.wa, _)] :: famU (obK CL) (rms s.links (s.gone.take (i + 1))) :: R) _ by walk_at "sub")
      · rintro σ H' ⟨v, rfl, h'⟩
        have e : s.gone.take (s.gone.map V.int).length = s.gone := List.take_of_length_le (by rw [List.length_map]; exact Nat.le_refl _)
        rw [e] at h'
        walk_at "go"
        rw [List.length_map]
        exact q2 hf H' (ch_in (s := s.went) (h'.sub (Sub.skip Sub.rf)))
end La
namespace La
open PySem L2 Sy
local macro_rules | `(tactic| walk_at "fl") => `(tactic| first | assumption | exact lk_key | exact lk_after | kernel_rfl)
local macro_rules | `(tactic| walk_at "put") => `(tactic| first | exact lk_put_key | exact lk_put_after | exact lk_p1 | exact lk_p2)
local macro_rules | `(tactic| walk_at "fsl") => `(tactic| first | assumption | exact lk_len | (show 0 < 1000; decide) | (show 1 < 1000; decide))
local macro_rules | `(tactic| walk_at "fl") => `(tactic| first | assumption | exact ch_hands | exact ch_links | exact ch_made | exact ch_era | exact ch_inside | exact ch_at | exact ch_waits | exact lk_key | exact lk_after | kernel_rfl)
local macro_rules | `(tactic| walk_at "put") => `(tactic| first | exact ch_put_hands | exact ch_put_links | exact ch_put_made | exact ch_put_era | exact ch_put_inside | exact ch_put_at | exact ch_put_waits | exact ch_p1 | exact ch_p2 | exact ch_p3 | exact ch_p4 | exact ch_p5 | exact ch_p6 | exact ch_p7)
local macro_rules | `(tactic| walk_at "fsl") => `(tactic| first | assumption | exact ch_len | (show 0 < 1000; decide) | (show 1 < 1000; decide) | (show 2 < 1000; decide) | (show 3 < 1000; decide) | (show 4 < 1000; decide) | (show 5 < 1000; decide) | (show 6 < 1000; decide))
/-! #### what deeds do to a chain, in numbers -/
section
variable {s : Cha} {live : List (Int × Int)} {key : Int} {A B : List (Int × Int)} {n c m : Int} {l l2 : Lk} {x xd : Addr}
theorem pu_len_old {κ β : Type} [DecidableEq κ] {m : List (κ × β)} {k : κ} {b b' : β} (h : fd m k = some b) : (pu m k b').length = m.length := by
  unfold pu
  rw [if_pos (by rw [h]; rfl), List.length_map]
theorem pu_keys_mem {β : Type} {m : List (Int × β)} {k z : Int} {b : β} (h : z ∈ (pu m k b).map (·.1)) : z ∈ m.map (·.1) ∨ z = k := by
  obtain ⟨q, hq, e⟩ := List.mem_map.mp h
  rcases pu_mem hq with h1 | h1
  · exact .inl (List.mem_map.mpr ⟨q, h1, e⟩)
  · rw [h1] at e; exact .inr e.symm
theorem keys_pu_mem {β : Type} {m : List (Int × β)} {k z : Int} {b : β} (h : z ∈ m.map (·.1) ∨ z = k) : z ∈ (pu m k b).map (·.1) := by
  rw [← fd_isSome, fd_pu]
  by_cases e : z = k
  · rw [if_pos e]; rfl
  · rw [if_neg e]; exact fd_isSome.mpr (h.resolve_right e)
/-- the same name, the same number -/
theorem ChOk.same (w : ChOk s live) {q r : Int × Int} (hq : q ∈ (0, -1) :: live) (hr : r ∈ (0, -1) :: live) (e : q.1 = r.1) : q.2 = r.2 := by
  obtain ⟨l1, f1, e1⟩ := path_mem w.pa q hq
  obtain ⟨l2, f2, e2⟩ := path_mem w.pa r hr
  rw [e, f2] at f1
  have := Option.some.inj f1
  subst this
  rw [← e1, ← e2]
theorem At.names (w : ChOk s live) (h : At live key A n c B) : (∀ q ∈ A, q.1 ≠ n) ∧ (∀ q ∈ B, q.1 ≠ n) := by
  have so := w.so2
  have hm : ∀ q ∈ A ++ (n, c) :: B, q ∈ ((0, -1) :: live : List (Int × Int)) := fun q hq => by rw [h.e]; exact hq
  have hn := hm (n, c) (List.mem_append.mpr (.inr (List.mem_cons.mpr (.inl rfl))))
  rw [h.e, List.map_append, List.map_cons] at so
  have h1 := List.pairwise_append.mp so
  refine ⟨fun q hq e => ?_, fun q hq e => ?_⟩
  · have h2 := h1.2.2 q.2 (List.mem_map.mpr ⟨q, hq, rfl⟩) c (List.mem_cons.mpr (.inl rfl))
    have h3 := w.same (hm q (List.mem_append.mpr (.inl hq))) hn e
    have h3 : q.2 = c := h3
    omega
  · have h2 := (List.pairwise_cons.mp h1.2.1).1 q.2 (List.mem_map.mpr ⟨q, hq, rfl⟩)
    have h2 : c < q.2 := h2
    have h3 := w.same (hm q (List.mem_append.mpr (.inr (List.mem_cons_of_mem _ hq)))) hn e
    have h3 : q.2 = c := h3
    omega
theorem fd_put (hf : fd s.links n = some l) (hm : fd s.links s.made = none) (key : Int) (x xd : Addr) : fd (s.put n key l x xd).links n = some { l with after := some s.made } ∧ fd (s.put n key l x xd).links s.made = some ⟨x, xd, key, l.after⟩ ∧ ∀ j, j ≠ n → j ≠ s.made → fd (s.put n key l x xd).links j = fd s.links j := by
  have hne : n ≠ s.made := fun e => by rw [← e, hf] at hm; cases hm
  show fd (pu (pu s.links n _) s.made _) n = _ ∧ fd (pu (pu s.links n _) s.made _) s.made = _ ∧ ∀ j, j ≠ n → j ≠ s.made → fd (pu (pu s.links n _) s.made _) j = _
  refine ⟨?_, ?_, fun j h1 h2 => ?_⟩
  · rw [fd_pu, if_neg hne, fd_pu, if_pos rfl]
  · rw [fd_pu, if_pos rfl]
  · rw [fd_pu, if_neg h2, fd_pu, if_neg h1]
theorem put_len' (hf : fd s.links n = some l) (hm : fd s.links s.made = none) (key : Int) (x xd : Addr) : (s.put n key l x xd).links.length = s.links.length + 1 := by
  have hne : s.made ≠ n := fun e => by rw [e, hf] at hm; cases hm
  show (pu (pu s.links n _) s.made _).length = _
  rw [pu_new _ (by rw [fd_pu, if_neg hne]; exact hm), List.length_append, pu_len_old hf]
  rfl
/-- what is in the chain once a number was put in -/
theorem ChOk.put (w : ChOk s live) (h : At live key A n c B) (hf : fd s.links n = some l) (k0 : 0 ≤ key) (k9 : key ≤ 999) (hk : ¬ key ∈ live.map (·.2)) (bd : s.links.length < 5000) (x xd : Addr) :
    ∃ live', (0, -1) :: live' = A ++ (n, c) :: (s.made, key) :: B ∧ ChOk (s.put n key l x xd) live' ∧ (∀ q, q ∈ live' ↔ q ∈ live ∨ q = (s.made, key)) ∧ live'.length = live.length + 1 := by
  obtain ⟨live', e'⟩ : ∃ live', (0, -1) :: live' = A ++ (n, c) :: (s.made, key) :: B := by
    have e := h.e
    cases A with
    | nil =>
      have e : (0, -1) :: live = (n, c) :: B := e
      injection e with e1 e2
      exact ⟨(s.made, key) :: B, by rw [e1]; rfl⟩
    | cons a A' =>
      have e : (0, -1) :: live = a :: (A' ++ (n, c) :: B) := e
      injection e with e1 e2
      exact ⟨A' ++ (n, c) :: (s.made, key) :: B, by rw [e1]; rfl⟩
  have hmn := made_new w
  obtain ⟨f1, f2, f3⟩ := fd_put hf hmn key x xd
  obtain ⟨nA, nB⟩ := h.names w
  have so := w.so2
  have hi : ∀ q ∈ B, key < q.2 := fun q hq => by
    have h1 := h.hi q hq
    have h2 : q.2 ≠ key := fun e => hk (by
      rw [← e]
      have : q ∈ ((0, -1) :: live : List (Int × Int)) := by rw [h.e]; exact List.mem_append.mpr (.inr (List.mem_cons_of_mem _ hq))
      rcases List.mem_cons.mp this with z | z
      · rw [z] at h1
        have h1 : key ≤ -1 := h1
        omega
      · exact List.mem_map.mpr ⟨q, z, rfl⟩)
    omega
  have hmem : ∀ q, q ∈ live' ↔ q ∈ live ∨ q = (s.made, key) := by
    have hnot : ∀ q ∈ live', q ≠ ((0, -1) : Int × Int) := by
      have so' : (((0, -1) :: live' : List (Int × Int)).map (·.2)).Pairwise (· < ·) := by
        rw [e', List.map_append, List.map_cons, List.map_cons]
        rw [h.e, List.map_append, List.map_cons] at so
        obtain ⟨p1, p2, p3⟩ := List.pairwise_append.mp so
        obtain ⟨p4, p5⟩ := List.pairwise_cons.mp p2
        refine List.pairwise_append.mpr ⟨p1, List.pairwise_cons.mpr ⟨fun z hz => ?_, List.pairwise_cons.mpr ⟨fun z hz => ?_, p5⟩⟩, fun a ha b hb => ?_⟩
        · rcases List.mem_cons.mp hz with z1 | z1
          · rw [z1]; exact h.lo (n, c) (List.mem_append.mpr (.inr (List.mem_singleton.mpr rfl)))
          · exact p4 z z1
        · obtain ⟨q, hq, rfl⟩ := List.mem_map.mp hz
          exact hi q hq
        · rcases List.mem_cons.mp hb with z1 | z1
          · exact p3 a ha b (List.mem_cons.mpr (.inl z1))
          · rcases List.mem_cons.mp z1 with z2 | z2
            · obtain ⟨q, hq, rfl⟩ := List.mem_map.mp ha
              rw [z2]
              exact h.lo q (List.mem_append.mpr (.inl hq))
            · exact p3 a ha b (List.mem_cons_of_mem _ z2)
      intro q hq e
      rw [List.map_cons] at so'
      have := (List.pairwise_cons.mp so').1 q.2 (List.mem_map.mpr ⟨q, hq, rfl⟩)
      rw [e] at this
      exact absurd this (by decide)
    have hnot0 : ∀ q ∈ live, q ≠ ((0, -1) : Int × Int) := fun q hq e => by
      have := (w.kr q hq).1
      rw [e] at this
      exact absurd this (by decide)
    have hne : ((s.made, key) : Int × Int) ≠ (0, -1) := fun e => by
      have : key = -1 := congrArg Prod.snd e
      omega
    intro q
    have a1 : q ∈ ((0, -1) :: live' : List (Int × Int)) ↔ q ∈ ((0, -1) :: live : List (Int × Int)) ∨ q = (s.made, key) := by
      rw [e', h.e]
      simp only [List.mem_append, List.mem_cons]
      constructor
      · rintro (h | h | h | h)
        · exact .inl (.inl h)
        · exact .inl (.inr (.inl h))
        · exact .inr h
        · exact .inl (.inr (.inr h))
      · rintro ((h | h | h) | h)
        · exact .inl h
        · exact .inr (.inl h)
        · exact .inr (.inr (.inr h))
        · exact .inr (.inr (.inl h))
    constructor
    · intro hq
      rcases a1.mp (List.mem_cons_of_mem _ hq) with z | z
      · rcases List.mem_cons.mp z with z | z
        · exact absurd z (hnot q hq)
        · exact .inl z
      · exact .inr z
    · intro hq
      have : q ∈ ((0, -1) :: live' : List (Int × Int)) := a1.mpr (hq.imp (List.mem_cons_of_mem _) id)
      rcases List.mem_cons.mp this with z | z
      · rcases hq with hq | hq
        · exact absurd z (hnot0 q hq)
        · rw [hq] at z; exact absurd z hne
      · exact z
  have hlen : live'.length = live.length + 1 := by
    have h1 := congrArg List.length e'
    have h2 := congrArg List.length h.e
    simp only [List.length_cons, List.length_append] at h1 h2
    omega
  refine ⟨live', e', ⟨?_, ?_, fun q hq => ?_, ?_, fun z hz => ?_, w.nw, fun q hq => ?_, fun z hz => ?_, ?_, ?_⟩, hmem, hlen⟩
  · rw [e', ← ins_mid (m := s.made) (k := key) nA nB, ← h.e]
    exact path_ins hf hmn f1 f2 rfl rfl f3 w.pa
  · have so' : (((0, -1) :: live' : List (Int × Int)).map (·.2)).Pairwise (· < ·) := by
      rw [e', List.map_append, List.map_cons, List.map_cons]
      rw [h.e, List.map_append, List.map_cons] at so
      obtain ⟨p1, p2, p3⟩ := List.pairwise_append.mp so
      obtain ⟨p4, p5⟩ := List.pairwise_cons.mp p2
      refine List.pairwise_append.mpr ⟨p1, List.pairwise_cons.mpr ⟨fun z hz => ?_, List.pairwise_cons.mpr ⟨fun z hz => ?_, p5⟩⟩, fun a ha b hb => ?_⟩
      · rcases List.mem_cons.mp hz with z1 | z1
        · rw [z1]; exact h.lo (n, c) (List.mem_append.mpr (.inr (List.mem_singleton.mpr rfl)))
        · exact p4 z z1
      · obtain ⟨q, hq, rfl⟩ := List.mem_map.mp hz
        exact hi q hq
      · rcases List.mem_cons.mp hb with z1 | z1
        · exact p3 a ha b (List.mem_cons.mpr (.inl z1))
        · rcases List.mem_cons.mp z1 with z2 | z2
          · obtain ⟨q, hq, rfl⟩ := List.mem_map.mp ha
            rw [z2]
            exact h.lo q (List.mem_append.mpr (.inl hq))
          · exact p3 a ha b (List.mem_cons_of_mem _ z2)
    rw [List.map_cons] at so'
    exact (List.pairwise_cons.mp so').2
  · rcases (hmem q).mp hq with z | z
    · exact w.kr q z
    · rw [z]; exact ⟨k0, k9⟩
  · exact pu_nd _ (pu_nd _ w.nd)
  · show z < s.made + 1
    rcases pu_keys_mem hz with z1 | z1
    · rcases pu_keys_mem z1 with z2 | z2
      · have := w.nm z z2; omega
      · have := w.nm n (fd_isSome.mp (by rw [hf]; rfl)); omega
    · omega
  · have hq2 : q ∈ ((0, -1) :: live : List (Int × Int)) ∨ q = (s.made, key) := by
      rcases List.mem_cons.mp hq with z | z
      · exact .inl (List.mem_cons.mpr (.inl z))
      · exact ((hmem q).mp z).imp (List.mem_cons_of_mem _) id
    rcases hq2 with z | z
    · exact w.lw q z
    · rw [z]
      intro z2
      have := w.nm _ (w.wl _ z2)
      have : s.made < s.made := this
      omega
  · exact keys_pu_mem (.inl (keys_pu_mem (.inl (w.wl z hz))))
  · rw [put_len' hf hmn, hlen]
    have := w.ln
    show _ = 1 + (live.length + 1) + s.waits.length
    omega
  · rw [put_len' hf hmn]; omega
/-- .. once a number was taken out -/
theorem ChOk.out (w : ChOk s live) (h : At live key A n c ((m, key) :: B)) (hf : fd s.links n = some l) (hl : l.after = some m) (hm : fd s.links m = some l2) :
    ∃ live', (0, -1) :: live' = A ++ (n, c) :: B ∧ ChOk (s.out n m l l2) live' ∧ (∀ q, q ∈ live' ↔ q ∈ live ∧ q.2 ≠ key) ∧ live.length = live'.length + 1 ∧ fd s.waits m = none := by
  obtain ⟨live', e'⟩ : ∃ live', (0, -1) :: live' = A ++ (n, c) :: B := by
    have e := h.e
    cases A with
    | nil =>
      have e : (0, -1) :: live = (n, c) :: (m, key) :: B := e
      injection e with e1 e2
      exact ⟨B, by rw [e1]; rfl⟩
    | cons a A' =>
      have e : (0, -1) :: live = a :: (A' ++ (n, c) :: (m, key) :: B) := e
      injection e with e1 e2
      exact ⟨A' ++ (n, c) :: B, by rw [e1]; rfl⟩
  obtain ⟨nA, nB⟩ := h.names w
  have so := w.so2
  have hsub : ((0, -1) :: live' : List (Int × Int)).Sublist ((0, -1) :: live) := by
    rw [e', h.e]
    exact List.Sublist.append_left (List.Sublist.cons_cons _ (List.sublist_cons_self _ _)) A
  have hsub2 : live'.Sublist live := hsub.of_cons_cons
  have hmw : m ∉ s.waits.map (·.1) := w.lw (m, key) (by rw [h.e]; simp)
  have hk0 : (m, key) ∈ live := by
    have : ((m, key) : Int × Int) ∈ ((0, -1) :: live : List (Int × Int)) := by rw [h.e]; simp
    rcases List.mem_cons.mp this with z | z
    · have e1 : key = -1 := congrArg Prod.snd z
      have := h.lo (n, c) (by simp)
      have : c < key := this
      have hc : (n, c) ∈ ((0, -1) :: live : List (Int × Int)) := by rw [h.e]; simp
      rcases List.mem_cons.mp hc with z2 | z2
      · have : c = -1 := congrArg Prod.snd z2
        omega
      · have := (w.kr _ z2).1
        have : 0 ≤ c := this
        omega
    · exact z
  have hkr := (w.kr _ hk0).1
  have hkr : 0 ≤ key := hkr
  have so3 := so
  rw [h.e, List.map_append, List.map_cons, List.map_cons] at so3
  obtain ⟨p1, p2, p3⟩ := List.pairwise_append.mp so3
  obtain ⟨p4, p5⟩ := List.pairwise_cons.mp p2
  obtain ⟨p6, p7⟩ := List.pairwise_cons.mp p5
  have hmem : ∀ q, q ∈ live' ↔ q ∈ live ∧ q.2 ≠ key := fun q => by
    constructor
    · intro hq
      refine ⟨hsub2.subset hq, fun e => ?_⟩
      have : q ∈ ((0, -1) :: live' : List (Int × Int)) := List.mem_cons_of_mem _ hq
      rw [e'] at this
      rcases List.mem_append.mp this with z | z
      · have := h.lo q (List.mem_append.mpr (.inl z)); omega
      · rcases List.mem_cons.mp z with z | z
        · have := h.lo (n, c) (by simp)
          have : c < key := this
          rw [z] at e
          have e : c = key := e
          omega
        · have := p6 q.2 (List.mem_map.mpr ⟨q, z, rfl⟩)
          have : key < q.2 := this
          omega
    · rintro ⟨hq, e⟩
      have : q ∈ ((0, -1) :: live : List (Int × Int)) := List.mem_cons_of_mem _ hq
      rw [h.e] at this
      have h2 : q ∈ ((0, -1) :: live' : List (Int × Int)) := by
        rw [e']
        rcases List.mem_append.mp this with z | z
        · exact List.mem_append.mpr (.inl z)
        · rcases List.mem_cons.mp z with z | z
          · exact List.mem_append.mpr (.inr (List.mem_cons.mpr (.inl z)))
          · rcases List.mem_cons.mp z with z | z
            · rw [z] at e; exact absurd rfl e
            · exact List.mem_append.mpr (.inr (List.mem_cons_of_mem _ z))
      rcases List.mem_cons.mp h2 with z | z
      · have := (w.kr q hq).1
        rw [z] at this
        exact absurd this (by decide)
      · exact z
  have hlen : live.length = live'.length + 1 := by
    have h1 := congrArg List.length e'
    have h2 := congrArg List.length h.e
    simp only [List.length_cons, List.length_append] at h1 h2
    omega
  have fw : fd s.waits m = none := fd_none.mpr hmw
  have f1 : fd (s.out n m l l2).links n = some { l with after := l2.after } := by show fd (pu s.links n _) n = _; rw [fd_pu, if_pos rfl]
  have f3 : ∀ j, j ≠ n → fd (s.out n m l l2).links j = fd s.links j := fun j hj => by show fd (pu s.links n _) j = _; rw [fd_pu, if_neg hj]
  have hwk : ∀ z, z ∈ (s.out n m l l2).waits.map (·.1) ↔ z ∈ s.waits.map (·.1) ∨ z = m := fun z => ⟨pu_keys_mem, keys_pu_mem⟩
  refine ⟨live', e', ⟨?_, w.so.sublist (hsub2.map _), fun q hq => w.kr q (hsub2.subset hq), pu_nd _ w.nd, fun z hz => ?_, pu_nd _ w.nw, fun q hq hz => ?_, fun z hz => ?_, ?_, ?_⟩, hmem, hlen, fw⟩
  · rw [e', ← del_mid (q := (m, key)) nA (fun q hq => nB q (List.mem_cons_of_mem _ hq)), ← h.e]
    exact path_del hf hl hm f1 f3 _ _ w.pa
  · rcases pu_keys_mem hz with z1 | z1
    · exact w.nm z z1
    · rw [z1]; exact w.nm n (fd_isSome.mp (by rw [hf]; rfl))
  · rcases (hwk q.1).mp hz with z | z
    · exact w.lw q (hsub.subset hq) z
    · have h1 := w.same (hsub.subset hq) (List.mem_cons_of_mem _ hk0) z
      have h1 : q.2 = key := h1
      rcases List.mem_cons.mp hq with z2 | z2
      · rw [z2] at h1
        have h1 : (-1 : Int) = key := h1
        omega
      · exact ((hmem q).mp z2).2 h1
  · refine keys_pu_mem (.inl ?_)
    rcases (hwk z).mp hz with z1 | z1
    · exact w.wl z z1
    · rw [z1]; exact fd_isSome.mp (by rw [hm]; rfl)
  · show (pu s.links n _).length = 1 + live'.length + (pu s.waits m s.era).length
    rw [pu_len_old hf, pu_new _ fw, List.length_append]
    have := w.ln
    show _ = _ + (s.waits.length + 1)
    omega
  · show (pu s.links n _).length ≤ _
    rw [pu_len_old hf]
    exact w.bd
theorem rms_len {β : Type} {m : List (Int × β)} {ks : List Int} (nd : (m.map (·.1)).Nodup) (nk : ks.Nodup) (h : ∀ k ∈ ks, k ∈ m.map (·.1)) : (rms m ks).length + ks.length = m.length := by
  have h1 := List.length_eq_countP_add_countP (l := m) (fun q : Int × β => decide (q.1 ∉ ks))
  rw [List.countP_eq_length_filter, List.countP_eq_length_filter] at h1
  have h2 : ((m.filter fun q => decide ¬ (decide (q.1 ∉ ks) = true)).map (·.1)).Perm ks := perm_mem ((List.filter_sublist.map _).nodup nd) nk fun z => by
    constructor
    · intro hz
      obtain ⟨q, hq, e⟩ := List.mem_map.mp hz
      have h3 := (List.mem_filter.mp hq).2
      rw [← e]
      simpa using h3
    · intro hz
      obtain ⟨q, hq, e⟩ := List.mem_map.mp (h z hz)
      exact List.mem_map.mpr ⟨q, List.mem_filter.mpr ⟨hq, by rw [e]; simpa using hz⟩, e⟩
  have h3 := h2.length_eq
  rw [List.length_map] at h3
  unfold rms
  omega
theorem gone_mem {z : Int} (h : z ∈ s.gone) : z ∈ s.waits.map (·.1) := (List.mem_filter.mp h).1
theorem rms_keys {β : Type} {m : List (Int × β)} {ks : List Int} {z : Int} : z ∈ (rms m ks).map (·.1) ↔ z ∈ m.map (·.1) ∧ z ∉ ks := by
  constructor
  · intro h
    obtain ⟨q, hq, e⟩ := List.mem_map.mp h
    have := List.mem_filter.mp hq
    exact ⟨List.mem_map.mpr ⟨q, this.1, e⟩, by rw [← e]; simpa using this.2⟩
  · rintro ⟨h, h2⟩
    obtain ⟨q, hq, e⟩ := List.mem_map.mp h
    exact List.mem_map.mpr ⟨q, List.mem_filter.mpr ⟨hq, by rw [e]; simpa using h2⟩, e⟩
theorem fd_rms' {β : Type} {m : List (Int × β)} {ks : List Int} {k : Int} (h : k ∉ ks) : fd (rms m ks) k = fd m k := by
  induction m with
  | nil => rfl
  | cons p r ih =>
    have ih : fd (List.filter (fun q => decide (q.1 ∉ ks)) r) k = fd r k := ih
    unfold rms
    by_cases e : p.1 = k
    · rw [List.filter_cons, if_pos (by rw [e]; simpa using h), fd_pos e, fd_pos e]
    · rw [fd_neg e, List.filter_cons]
      split
      · rw [fd_neg e, ih]
      · exact ih
theorem ChOk.went (w : ChOk s live) : ChOk s.went live where
  pa := path_congr (fun q hq => fd_rms' fun z => w.lw q hq (gone_mem z)) w.pa
  so := w.so
  kr := w.kr
  nd := ((rms_sub _ _).map _).nodup w.nd
  nm := fun z hz => w.nm z (rms_keys.mp hz).1
  nw := ((rms_sub _ _).map _).nodup w.nw
  lw := fun q hq hz => w.lw q hq (rms_keys.mp hz).1
  wl := fun z hz => rms_keys.mpr ⟨w.wl z (rms_keys.mp hz).1, (rms_keys.mp hz).2⟩
  ln := by
    have gn : s.gone.Nodup := List.filter_sublist.nodup w.nw
    have h1 := rms_len w.nd gn fun k hk => w.wl k (gone_mem hk)
    have h2 := rms_len w.nw gn fun k hk => gone_mem hk
    have h3 := w.ln
    show (rms s.links s.gone).length = 1 + live.length + (rms s.waits s.gone).length
    omega
  bd := by have h1 := (rms_sub s.links s.gone).length_le; have := w.bd; show (rms s.links s.gone).length ≤ _; omega
theorem ChOk.zero {dx la ia aa wa x xd : Addr} {h : Int} : ChOk ⟨dx, la, ia, aa, wa, h, 1, 0, [(0, ⟨x, xd, -1, none⟩)], [], [], []⟩ [] where
  pa := ⟨rfl, ⟨x, xd, -1, none⟩, rfl, rfl, rfl⟩
  so := .nil
  kr := fun q hq => absurd hq List.not_mem_nil
  nd := List.pairwise_singleton _ _
  nm := fun z hz => by have hz : z ∈ [(0 : Int)] := hz; rw [List.mem_singleton.mp hz]; show (0 : Int) < 1; decide
  nw := .nil
  lw := fun q hq => List.not_mem_nil
  wl := fun z hz => absurd hz List.not_mem_nil
  ln := rfl
  bd := by show 1 ≤ 5000; decide
end
end La
namespace La
open PySem L2 Sy
def t__law_made (K : PySem.W.Frag) (C_Rounds C_Marks C_Counts C_Versions C_Chain : Addr) (sp_mk_Rounds sp_mk_Marks sp_mk_Counts sp_mk_Versions sp_mk_Chain : Sp) : TS :=
  tSeq (tIfS (tTest (tOp rEq (tVar 0) (tC (.int 0)))) (tRet (tMake C_Rounds sp_mk_Rounds [] E0 (tCons (tC (.int 2)) (tCons (tC (.int 2)) (tNil))))) (tNext))
    (tSeq (tIfS (tTest (tOp rEq (tVar 0) (tC (.int 1)))) (tRet (tMake C_Marks sp_mk_Marks [] E0 (tCons (tC (.int 2)) (tCons (tC (.int 2)) (tNil))))) (tNext))
    (tSeq (tIfS (tTest (tOp rEq (tVar 0) (tC (.int 2)))) (tRet (tMake C_Counts sp_mk_Counts [] E0 (tCons (tC (.int 2)) (tCons (tC (.int 2)) (tNil))))) (tNext))
    (tRet (tIf (tTest (tOp rEq (tVar 0) (tC (.int 3)))) (tMake C_Versions sp_mk_Versions [.int 3] E0 (tCons (tC (.int 2)) (tNil))) (tMake C_Chain sp_mk_Chain [] E0 (tCons (tC (.int 2)) (tNil)))))))
def t__law_tell (K : PySem.W.Frag) (C_Rounds C_Marks C_Counts C_Versions C_Chain : Addr) (sp_Rounds__Rounds_go_on sp_Rounds__Store_now sp_Rounds__Store_kept sp_Rounds__Store_swap sp_Marks__Store_kept sp_Marks__Marks_sweep sp_Marks__Marks_marked sp_Marks__Store_swap sp_Marks__Marks_set_mark sp_Marks__Marks_fetch sp_Counts__Store_kept sp_Counts__Counts_holds sp_Counts__Store_swap sp_Counts__Counts_hold sp_Versions__Versions_version_now sp_Versions__Versions_trim sp_Versions__Versions_kept sp_Versions__Versions_now sp_Versions__Versions_write sp_Chain__Chain_go_on sp_Chain__Chain_len sp_Chain__Chain_take_out sp_Chain__Chain_keys_in sp_Chain__Chain_put : Sp) : TS :=
  tSeq (tIfS (tTest (tOp rEq (tVar 0) (tC (.int 0)))) (tRet (tLst (tCons (tMeth C_Rounds "swap" sp_Rounds__Store_swap [] E0 (tVar 1) (tCons (tC (.int 0)) (tCons (tVar 2) (tNil)))) (tCons (tMeth C_Rounds "kept" sp_Rounds__Store_kept [] E0 (tVar 1) tNil) (tCons (tMeth C_Rounds "now" sp_Rounds__Store_now [] E0 (tVar 1) tNil) (tCons (tMeth C_Rounds "go_on" sp_Rounds__Rounds_go_on [] E0 (tVar 1) tNil) (tNil))))))) (tNext))
    (tSeq (tIfS (tTest (tOp rEq (tVar 0) (tC (.int 1)))) (tRet (tLst (tCons (tMeth C_Marks "fetch" sp_Marks__Marks_fetch [] E0 (tVar 1) (tCons (tC (.int 0)) (tCons (tC (.int 1)) (tCons (tC (.int 0)) (tNil))))) (tCons (tMeth C_Marks "set_mark" sp_Marks__Marks_set_mark [] E0 (tVar 1) (tCons (tC (.int 0)) (tCons (tC (.int 1)) (tNil)))) (tCons (tMeth C_Marks "swap" sp_Marks__Store_swap [] E0 (tVar 1) (tCons (tC (.int 0)) (tCons (tVar 2) (tNil)))) (tCons (tMeth C_Marks "marked" sp_Marks__Marks_marked [] E0 (tVar 1) tNil) (tCons (tMeth C_Marks "sweep" sp_Marks__Marks_sweep [] E0 (tVar 1) tNil) (tCons (tMeth C_Marks "kept" sp_Marks__Store_kept [] E0 (tVar 1) tNil) (tNil))))))))) (tNext))
    (tSeq (tIfS (tTest (tOp rEq (tVar 0) (tC (.int 2)))) (tRet (tLst (tCons (tMeth C_Counts "hold" sp_Counts__Counts_hold [] E0 (tVar 1) (tCons (tC (.int 1)) (tCons (tC (.int 0)) (tNil)))) (tCons (tMeth C_Counts "swap" sp_Counts__Store_swap [] E0 (tVar 1) (tCons (tC (.int 0)) (tCons (tVar 2) (tNil)))) (tCons (tMeth C_Counts "holds" sp_Counts__Counts_holds [] E0 (tVar 1) (tCons (tC (.int 1)) (tNil))) (tCons (tMeth C_Counts "kept" sp_Counts__Store_kept [] E0 (tVar 1) tNil) (tNil))))))) (tNext))
    (tSeq (tIfS (tTest (tOp rEq (tVar 0) (tC (.int 3)))) (tRet (tLst (tCons (tMeth C_Versions "write" sp_Versions__Versions_write [] E0 (tVar 1) (tCons (tLst (tCons (tTup (tCons (tC (.int 0)) (tCons (tVar 2) (tNil)))) (tNil))) (tNil))) (tCons (tMeth C_Versions "now" sp_Versions__Versions_now [] E0 (tVar 1) tNil) (tCons (tMeth C_Versions "kept" sp_Versions__Versions_kept [] E0 (tVar 1) (tCons (tC (.int 0)) (tNil))) (tCons (tMeth C_Versions "trim" sp_Versions__Versions_trim [] E0 (tVar 1) tNil) (tCons (tMeth C_Versions "version_now" sp_Versions__Versions_version_now [] E0 (tVar 1) tNil) (tNil)))))))) (tNext))
    (tRet (tLst (tCons (tMeth C_Chain "put" sp_Chain__Chain_put [] E0 (tVar 1) (tCons (tVar 2) (tNil))) (tCons (tMeth C_Chain "keys_in" sp_Chain__Chain_keys_in [] E0 (tVar 1) tNil) (tCons (tMeth C_Chain "take_out" sp_Chain__Chain_take_out [] E0 (tVar 1) (tCons (tOp rSubI (tVar 2) (tOp rModI (tVar 2) (tC (.int 3)))) (tNil))) (tCons (tCB (rLenO C_Chain sp_Chain__Chain_len E0) (tCons (tVar 1) (tNil))) (tCons (tMeth C_Chain "go_on" sp_Chain__Chain_go_on [] E0 (tVar 1) tNil) (tNil)))))))))))
def t_law_b0 (K : PySem.W.Frag) (sp__law_town sp__law_draw sp__law_made sp__law_value sp__law_tell : Sp) : TS :=
  tSeq (tDrop (tBM K "list" rAppend (tVar 9) (tCons (tC (.str "late")) (tNil))))
    (tDrop (tBM K "list" rAppend (tVar 9) (tCons (tC (.int 0)) (tNil))))
def t_law_b1 (K : PySem.W.Frag) (sp__law_town sp__law_draw sp__law_made sp__law_value sp__law_tell : Sp) : TS :=
  tSeq (tAsg (tCall sp__law_draw [] E0 (tCons (tVar 1) (tCons (tC (.int 2)) (tNil)))) (gName 7))
    (tSeq (tDrop (tBM K "list" rAppend (tOp (rIxL K) (tVar 4) (tVar 7)) (tCons (tCall sp__law_value [] E0 (tCons (tVar 1) (tNil))) (tNil))))
    (tSeq (tAsg (tCall sp__law_tell [] E0 (tCons (tVar 2) (tCons (tOp (rIxL K) (tVar 3) (tVar 7)) (tCons (tOp (rIxL K) (tOp (rIxL K) (tVar 4) (tVar 7)) (tUn (rU fun i => .int (-i)) (tC (.int 1)))) (tNil))))) (gName 8))
    (tSeq (tDrop (tBM K "list" rAppend (tOp (rIxL K) (tVar 5) (tVar 7)) (tCons (tLc (iList K (tVar 8)) (gName 9) tYes (tIf (tB (tCB (rIsi K) (tCons (tVar 9) (tCons (tC (.ty "list")) (tNil))))) (tCB (rListOf K) (tCons (tVar 9) (tNil))) (tVar 9)) [9]) (tNil))))
    (tFor (iList K (tVar 8)) (gName 9) (tIfS (tB (tCB (rIsi K) (tCons (tVar 9) (tCons (tC (.ty "list")) (tNil))))) (t_law_b0 K sp__law_town sp__law_draw sp__law_made sp__law_value sp__law_tell) (tNext))))))
def t_law_b2 (K : PySem.W.Frag) (sp__law_town sp__law_draw sp__law_made sp__law_value sp__law_tell : Sp) : TS :=
  tSeq (tAsg (tCall sp__law_made [] E0 (tCons (tVar 2) (tNil))) (gName 10))
    (tIfS (tTest (tOp (rNeD K) (tLc (iList K (tOp (rIxL K) (tVar 4) (tVar 7))) (gName 11) tYes (tCall sp__law_tell [] E0 (tCons (tVar 2) (tCons (tVar 10) (tCons (tVar 11) (tNil))))) [11]) (tOp (rIxL K) (tVar 5) (tVar 7)))) (tRet (tC (.bl false))) (tNext))
def t_law (K : PySem.W.Frag) (sp__law_town sp__law_draw sp__law_made sp__law_value sp__law_tell : Sp) : TS :=
  tSeq (tAsg (tCall sp__law_town [] E0 (tCons (tVar 0) (tNil))) (gName 1))
    (tSeq (tAsg (tCall sp__law_draw [] E0 (tCons (tVar 1) (tCons (tC (.int 5)) (tNil)))) (gName 2))
    (tSeq (tAsg (tLst (tCons (tCall sp__law_made [] E0 (tCons (tVar 2) (tNil))) (tCons (tCall sp__law_made [] E0 (tCons (tVar 2) (tNil))) (tNil)))) (gName 3))
    (tSeq (tAsg (tLst (tCons (tLst (tNil)) (tCons (tLst (tNil)) (tNil)))) (gName 4))
    (tSeq (tAsg (tLst (tCons (tLst (tNil)) (tCons (tLst (tNil)) (tNil)))) (gName 5))
    (tSeq (tFor (iRng1 (tCons (tC (.int 14)) (tNil))) (gName 6) (t_law_b1 K sp__law_town sp__law_draw sp__law_made sp__law_value sp__law_tell))
    (tSeq (tFor (iRng1 (tCons (tC (.int 2)) (tNil))) (gName 7) (t_law_b2 K sp__law_town sp__law_draw sp__law_made sp__law_value sp__law_tell))
    (tRet (tC (.bl true)))))))))
end La
namespace La
open PySem L2 Sy
local macro_rules | `(tactic| walk_at "fl") => `(tactic| first | assumption | exact stF_hands | exact stF_worth | exact stF_cells | exact stF_made | exact StX.f1 (by assumption) | exact StX.f2 (by assumption) | exact StX.f3 (by assumption) | exact StX.f4 (by assumption) | exact StX.f5 (by assumption) | exact StX.f6 (by assumption) | exact StX.f7 (by assumption) | exact StX.f8 (by assumption) | exact StX.f9 (by assumption))
local macro_rules | `(tactic| walk_at "fsl") => `(tactic| first | assumption | exact StX.fl (by assumption))
local macro_rules | `(tactic| walk_at "put") => `(tactic| first | exact stF_put_made | exact stF_put_cells | exact stF_put_worth | exact stF_put_hands)
local macro_rules | `(tactic| walk_at "fl") => `(tactic| first | assumption | exact stF_hands | exact stF_worth | exact stF_cells | exact stF_made | exact rd_era | exact rd_inside | exact rd_saw | exact rd_waits | exact rd_m_enter | exact rd_m_look_in | exact rd_m_leave | exact rd_m_look | exact rd_m_read | exact rd_m_go_on | exact rd_m_round_now | exact rd_m_hands_in | exact StX.f1 rdX_ok | exact StX.f2 rdX_ok | exact StX.f3 rdX_ok | exact StX.f4 rdX_ok | exact StX.f5 rdX_ok | exact StX.f6 rdX_ok | exact StX.f7 rdX_ok | exact StX.f8 rdX_ok | exact StX.f9 rdX_ok)
local macro_rules | `(tactic| walk_at "put") => `(tactic| first | exact rd_put_era | exact rd_put_inside | exact rd_put_saw | exact rd_put_waits)
local macro_rules | `(tactic| walk_at "fsl") => `(tactic| first | assumption | exact StX.fl rdX_ok)
local macro_rules | `(tactic| walk_at "fl") => `(tactic| first | assumption | exact stF_hands | exact stF_worth | exact stF_cells | exact stF_made | exact mk_marks | exact mk_waits | exact mk_m_look_mark | exact mk_m_state_of | exact mk_m_fetch | exact mk_m_set_mark | exact mk_m_sure | exact mk_m_read | exact mk_m_clear_mark | exact mk_m_marked | exact mk_m_sweep | exact StX.f1 mkX_ok | exact StX.f2 mkX_ok | exact StX.f3 mkX_ok | exact StX.f4 mkX_ok | exact StX.f5 mkX_ok | exact StX.f6 mkX_ok | exact StX.f7 mkX_ok | exact StX.f8 mkX_ok | exact StX.f9 mkX_ok)
local macro_rules | `(tactic| walk_at "put") => `(tactic| first | exact mk_put_marks | exact mk_put_waits | exact stF_put_made | exact stF_put_cells | exact stF_put_worth | exact stF_put_hands)
local macro_rules | `(tactic| walk_at "fsl") => `(tactic| first | assumption | exact StX.fl mkX_ok)
local macro_rules | `(tactic| walk_at "fl") => `(tactic| first | assumption | exact stF_hands | exact stF_worth | exact stF_cells | exact stF_made | exact ct_held | exact ct_m_count_of | exact ct_m_hold | exact ct_m_look_held | exact ct_m_read | exact ct_m_drop | exact ct_m_loose | exact ct_m_holds | exact StX.f1 ctX_ok | exact StX.f2 ctX_ok | exact StX.f3 ctX_ok | exact StX.f4 ctX_ok | exact StX.f5 ctX_ok | exact StX.f6 ctX_ok | exact StX.f7 ctX_ok | exact StX.f8 ctX_ok | exact StX.f9 ctX_ok)
local macro_rules | `(tactic| walk_at "put") => `(tactic| first | exact ct_put_held | exact stF_put_made | exact stF_put_cells | exact stF_put_worth | exact stF_put_hands)
local macro_rules | `(tactic| walk_at "fsl") => `(tactic| first | assumption | exact StX.fl ctX_ok)
local macro_rules | `(tactic| walk_at "fl") => `(tactic| first | assumption | exact ve_hands | exact ve_rows | exact ve_version | exact ve_begun | exact ve_asked | kernel_rfl)
local macro_rules | `(tactic| walk_at "put") => `(tactic| first | exact ve_put_hands | exact ve_put_rows | exact ve_put_version | exact ve_put_begun | exact ve_put_asked | exact ve_p1 | exact ve_p2 | exact ve_p3 | exact ve_p4 | exact ve_p5)
local macro_rules | `(tactic| walk_at "fsl") => `(tactic| first | assumption | exact ve_len | (show 0 < 1000; decide) | (show 1 < 1000; decide) | (show 2 < 1000; decide) | (show 3 < 1000; decide) | (show 4 < 1000; decide))
local macro_rules | `(tactic| walk_at "fl") => `(tactic| first | assumption | exact lk_key | exact lk_after | kernel_rfl)
local macro_rules | `(tactic| walk_at "put") => `(tactic| first | exact lk_put_key | exact lk_put_after | exact lk_p1 | exact lk_p2)
local macro_rules | `(tactic| walk_at "fsl") => `(tactic| first | assumption | exact lk_len | (show 0 < 1000; decide) | (show 1 < 1000; decide))
local macro_rules | `(tactic| walk_at "fl") => `(tactic| first | assumption | exact ch_hands | exact ch_links | exact ch_made | exact ch_era | exact ch_inside | exact ch_at | exact ch_waits | kernel_rfl)
local macro_rules | `(tactic| walk_at "put") => `(tactic| first | exact ch_put_hands | exact ch_put_links | exact ch_put_made | exact ch_put_era | exact ch_put_inside | exact ch_put_at | exact ch_put_waits | exact ch_p1 | exact ch_p2 | exact ch_p3 | exact ch_p4 | exact ch_p5 | exact ch_p6 | exact ch_p7)
local macro_rules | `(tactic| walk_at "fsl") => `(tactic| first | assumption | exact ch_len | (show 0 < 1000; decide) | (show 1 < 1000; decide) | (show 2 < 1000; decide) | (show 3 < 1000; decide) | (show 4 < 1000; decide) | (show 5 < 1000; decide) | (show 6 < 1000; decide))
theorem fd_rms {β : Type} {m : List (Int × β)} {ks : List Int} {k : Int} (h : k ∉ ks) : fd (rms m ks) k = fd m k := by
  induction m with
  | nil => rfl
  | cons p r ih =>
    have ih : fd (List.filter (fun q => decide (q.1 ∉ ks)) r) k = fd r k := ih
    unfold rms
    by_cases e : p.1 = k
    · rw [List.filter_cons, if_pos (by rw [e]; simpa using h), fd_pos e, fd_pos e]
    · rw [fd_neg e, List.filter_cons]
      split
      · rw [fd_neg e, ih]
      · exact ih
theorem mem_set_other {z w : Int} : ∀ {l : List Int} {j : Nat}, z ∈ l → z ≠ l.getD j 0 → z ∈ l.set j w
  | [], _, h, _ => by cases h
  | a :: r, 0, h, hn => by
    show z ∈ w :: r
    rcases List.mem_cons.mp h with e | e
    · exact absurd e hn
    · exact List.mem_cons.mpr (.inr e)
  | a :: r, j + 1, h, hn => by
    show z ∈ a :: r.set j w
    rcases List.mem_cons.mp h with e | e
    · exact List.mem_cons.mpr (.inl e)
    · exact List.mem_cons.mpr (.inr (mem_set_other e hn))
theorem opt2 {α β γ : Type} {x : Option α} {y : Option β} {f : α → γ} {g : β → γ} (h : x.map f = y.map g) : (x = none ∧ y = none) ∨ ∃ a b, x = some a ∧ y = some b ∧ f a = g b := by
  cases x with
  | none => cases y with
    | none => exact .inl ⟨rfl, rfl⟩
    | some b => cases h
  | some a => cases y with
    | none => cases h
    | some b => exact .inr ⟨a, b, rfl, rfl, Option.some.inj h⟩
/-- what holds between two turns -/
structure I3 (r : Rnd) (ow : Own) (ls : List (Int × (Addr × List Int))) (hn cn : Int) (i : Nat) : Prop where
  wf : r.wf
  hh : r.sto.hands = hn
  hc : (r.sto.cells.length : Int) = cn
  oc : ow.cells = r.sto.cells
  ov : ow.vals = r.sto.vals
  lv : r.sto.vals.length ≤ 5 + i
  lk : ow.kept.length ≤ 5 + i
  kn : ls.map (·.1) = r.inside.map (·.1)
  eq : ∀ k, (fd ls k).map (·.2) = (fd r.saw k).map (·.2)
  ln : ∀ q ∈ r.saw, q.2.2.length ≤ i
  ln2 : ∀ q ∈ ls, q.2.2.length ≤ i
  era0 : ∀ q ∈ r.inside, q.2 ≤ r.era
  safe : ∀ k l xs e, fd r.saw k = some (l, xs) → fd r.inside k = some e → ∀ z ∈ xs, z ∈ r.sto.kept ∧ (z ∈ r.sto.cells ∨ ∃ w, fd r.waits z = some w ∧ e ≤ w)
theorem I3.more {r : Rnd} {ow : Own} {ls : List (Int × (Addr × List Int))} {hn cn : Int} {i : Nat} (I : I3 r ow ls hn cn i) : I3 r ow ls hn cn (i + 1) :=
  { I with lv := by have := I.lv; omega, lk := by have := I.lk; omega, ln := fun q hq => by have := I.ln q hq; omega, ln2 := fun q hq => by have := I.ln2 q hq; omega }
theorem I3.swap {r : Rnd} {ow : Own} {ls : List (Int × (Addr × List Int))} {hn cn : Int} {i : Nat} (I : I3 r ow ls hn cn i) {j v : Int} (j0 : 0 ≤ j) (j1 : j < r.sto.cells.length) (hi : i < 900) : I3 (r.swap j v) (ow.swap j v) ls hn cn (i + 1) where
  wf := I.wf.swap j0 j1 (by have := I.lv; omega)
  hh := I.hh
  hc := by show ((r.sto.cells.set _ _).length : Int) = cn; rw [List.length_set]; exact I.hc
  oc := by show ow.cells.set _ _ = r.sto.cells.set _ _; rw [I.oc, I.ov]
  ov := by show ow.vals ++ [v] = r.sto.vals ++ [v]; rw [I.ov]
  lv := by have := I.lv; show (r.sto.vals ++ [v]).length ≤ _; rw [List.length_append]; show r.sto.vals.length + 1 ≤ _; omega
  lk := by have := I.lk; show (ow.kept ++ [_]).length ≤ _; rw [List.length_append]; show ow.kept.length + 1 ≤ _; omega
  kn := I.kn
  eq := I.eq
  ln := fun q hq => by have := I.ln q hq; omega
  ln2 := fun q hq => by have := I.ln2 q hq; omega
  era0 := I.era0
  safe := fun k l xs e hs he z hz => by
    obtain ⟨h1, h2⟩ := I.safe k l xs e hs he z hz
    have e0 := I.era0 _ (fd_mem he)
    have e0 : e ≤ r.era := e0
    refine ⟨List.mem_append.mpr (.inl h1), ?_⟩
    by_cases ez : z = r.sto.cells.getD j.toNat 0
    · right
      exact ⟨r.era, by show fd (pu _ _ _) z = _; rw [fd_pu, if_pos ez], e0⟩
    · rcases h2 with h2 | ⟨w, h2, h3⟩
      · exact .inl (mem_set_other h2 ez)
      · exact .inr ⟨w, by show fd (pu _ _ _) z = _; rw [fd_pu, if_neg ez]; exact h2, h3⟩
theorem I3.next {r : Rnd} {ow : Own} {ls : List (Int × (Addr × List Int))} {hn cn : Int} {i : Nat} (I : I3 r ow ls hn cn i) (hf : r.free) : I3 r.next ow ls hn cn (i + 1) where
  wf := I.wf.next
  hh := I.hh
  hc := I.hc
  oc := I.oc
  ov := I.ov
  lv := by have := I.lv; show r.sto.vals.length ≤ _; omega
  lk := by have := I.lk; omega
  kn := I.kn
  eq := I.eq
  ln := fun q hq => by have := I.ln q hq; omega
  ln2 := fun q hq => by have := I.ln2 q hq; omega
  era0 := fun q hq => by have := I.era0 q hq; show q.2 ≤ r.era + 1; omega
  safe := fun k l xs e hs he z hz => by
    obtain ⟨h1, h2⟩ := I.safe k l xs e hs he z hz
    have e0 : e = r.era := hf _ (fd_mem he)
    have hng : z ∉ r.gone := fun hg => by
      obtain ⟨g1, g2⟩ := List.mem_filter.mp hg
      rcases h2 with h2 | ⟨w, h2, h3⟩
      · exact (I.wf.wk z g1).2 h2
      · rw [h2] at g2
        have g3 : w ≤ r.era + 1 - 2 := by simpa using g2
        omega
    refine ⟨List.mem_filter.mpr ⟨h1, by simpa using hng⟩, ?_⟩
    rcases h2 with h2 | ⟨w, h2, h3⟩
    · exact .inl h2
    · exact .inr ⟨w, by show fd (rms _ _) z = _; rw [fd_rms hng]; exact h2, h3⟩
theorem I3.enter {r : Rnd} {ow : Own} {ls : List (Int × (Addr × List Int))} {hn cn : Int} {i : Nat} (I : I3 r ow ls hn cn i) {k : Int} {l l2 : Addr} (k0 : 0 ≤ k) (k1 : k < hn) (hk : fd r.inside k = none) : I3 (r.enter k l) ow (ls ++ [(k, (l2, []))]) hn cn (i + 1) where
  wf := I.wf.enter k0 (by rw [I.hh]; exact k1) hk
  hh := I.hh
  hc := I.hc
  oc := I.oc
  ov := I.ov
  lv := by have := I.lv; show r.sto.vals.length ≤ _; omega
  lk := by have := I.lk; omega
  kn := by show (ls ++ [_]).map _ = (r.inside ++ [_]).map _; rw [List.map_append, List.map_append, I.kn]; rfl
  eq := fun j => by
    show (fd (ls ++ [_]) j).map _ = (fd (r.saw ++ [_]) j).map _
    rw [fd_append, fd_append]
    rcases opt2 (I.eq j) with ⟨e1, e2⟩ | ⟨a, b, e1, e2, e3⟩
    · rw [e1, e2]
      show (fd [(k, (l2, ([] : List Int)))] j).map _ = (fd [(k, (l, ([] : List Int)))] j).map _
      by_cases e : k = j
      · rw [fd_pos (p := (k, (l2, ([] : List Int)))) e, fd_pos (p := (k, (l, ([] : List Int)))) e]
        rfl
      · rw [fd_neg (p := (k, (l2, ([] : List Int)))) e, fd_neg (p := (k, (l, ([] : List Int)))) e]
    · rw [e1, e2]
      show some a.2 = some b.2
      rw [e3]
  ln := fun q hq => by
    rcases List.mem_append.mp hq with h | h
    · have := I.ln q h; omega
    · rw [List.mem_singleton.mp h]; exact Nat.zero_le _
  ln2 := fun q hq => by
    rcases List.mem_append.mp hq with h | h
    · have := I.ln2 q h; omega
    · rw [List.mem_singleton.mp h]; exact Nat.zero_le _
  era0 := fun q hq => by
    rcases List.mem_append.mp hq with h | h
    · exact I.era0 q h
    · rw [List.mem_singleton.mp h]; exact Int.le_refl _
  safe := fun j l' xs e hs he z hz => by
    have hs : fd (r.saw ++ [(k, (l, []))]) j = some (l', xs) := hs
    have he : fd (r.inside ++ [(k, r.era)]) j = some e := he
    rw [fd_append] at hs he
    by_cases ej : k = j
    · subst ej
      have : fd r.saw k = none := fd_none.mpr (by rw [I.wf.keys]; exact fd_none.mp hk)
      rw [this, fd_pos (p := (k, (l, ([] : List Int)))) rfl] at hs
      cases hs
      cases hz
    · rw [fd_neg (p := (k, (l, ([] : List Int)))) ej, fd_nil, Option.or_none] at hs
      rw [fd_neg (p := (k, r.era)) ej, fd_nil, Option.or_none] at he
      exact I.safe j l' xs e hs he z hz
theorem I3.leave {r : Rnd} {ow : Own} {ls : List (Int × (Addr × List Int))} {hn cn : Int} {i : Nat} (I : I3 r ow ls hn cn i) (k : Int) : I3 (r.leave k) ow (rm ls k) hn cn (i + 1) where
  wf := I.wf.leave k
  hh := I.hh
  hc := I.hc
  oc := I.oc
  ov := I.ov
  lv := by have := I.lv; show r.sto.vals.length ≤ _; omega
  lk := by have := I.lk; omega
  kn := by show (rm ls k).map _ = (rm r.inside k).map _; rw [rm_keys, rm_keys, I.kn]
  eq := fun j => by
    show (fd (rm ls k) j).map _ = (fd (rm r.saw k) j).map _
    rw [fd_rm, fd_rm]
    split
    · rfl
    · exact I.eq j
  ln := fun q hq => by have := I.ln q (rm_mem.mp hq).1; omega
  ln2 := fun q hq => by have := I.ln2 q (rm_mem.mp hq).1; omega
  era0 := fun q hq => I.era0 q (rm_mem.mp hq).1
  safe := fun j l' xs e hs he z hz => by
    have hs : fd (rm r.saw k) j = some (l', xs) := hs
    have he : fd (rm r.inside k) j = some e := he
    rw [fd_rm] at hs he
    split at hs
    · cases hs
    · rename_i ej
      rw [if_neg ej] at he
      exact I.safe j l' xs e hs he z hz
theorem sawAdd_mem {m : List (Int × (Addr × List Int))} {k x : Int} {q : Int × (Addr × List Int)} (h : q ∈ sawAdd m k x) : ∃ q0 ∈ m, q.2.2.length ≤ q0.2.2.length + 1 := by
  unfold sawAdd at h
  obtain ⟨q0, h0, e⟩ := List.mem_map.mp h
  refine ⟨q0, h0, ?_⟩
  rw [← e]
  split
  · show (q0.2.2 ++ [x]).length ≤ _; rw [List.length_append]; exact Nat.le_refl _
  · omega
theorem I3.look {r : Rnd} {ow : Own} {ls : List (Int × (Addr × List Int))} {hn cn : Int} {i : Nat} (I : I3 r ow ls hn cn i) (k : Int) {c : Int} (c0 : 0 ≤ c) (c1 : c < r.sto.cells.length) : I3 (r.look k c) ow (sawAdd ls k (r.sto.cells.getD c.toNat 0)) hn cn (i + 1) where
  wf := I.wf.look k c
  hh := I.hh
  hc := I.hc
  oc := I.oc
  ov := I.ov
  lv := by have := I.lv; show r.sto.vals.length ≤ _; omega
  lk := by have := I.lk; omega
  kn := by show (sawAdd _ _ _).map _ = r.inside.map _; rw [sawAdd_keys, I.kn]
  eq := fun j => by
    show (fd (sawAdd _ _ _) j).map _ = (fd (sawAdd _ _ _) j).map _
    rw [sawAdd_fd, sawAdd_fd]
    rcases opt2 (I.eq j) with ⟨e1, e2⟩ | ⟨a, b, e1, e2, e3⟩
    · rw [e1, e2]
    · rw [e1, e2]
      show some (if j = k then (a.1, a.2 ++ _) else a).2 = some (if j = k then (b.1, b.2 ++ _) else b).2
      split
      · show some (a.2 ++ _) = some (b.2 ++ _)
        rw [e3]
      · rw [e3]
  ln := fun q hq => by
    obtain ⟨q0, h0, h1⟩ := sawAdd_mem hq
    have := I.ln q0 h0
    omega
  ln2 := fun q hq => by
    obtain ⟨q0, h0, h1⟩ := sawAdd_mem hq
    have := I.ln2 q0 h0
    omega
  era0 := I.era0
  safe := fun j l' xs e hs he z hz => by
    have hs : fd (sawAdd r.saw k (r.sto.cells.getD c.toNat 0)) j = some (l', xs) := hs
    have he : fd r.inside j = some e := he
    rw [sawAdd_fd] at hs
    obtain ⟨⟨l0, xs0⟩, h0, e0⟩ := Option.map_eq_some_iff.mp hs
    by_cases ej : j = k
    · rw [if_pos ej] at e0
      have e1 : xs0 ++ [r.sto.cells.getD c.toNat 0] = xs := congrArg Prod.snd e0
      rw [← e1] at hz
      rcases List.mem_append.mp hz with q | q
      · exact I.safe j l0 xs0 e h0 he z q
      · rw [List.mem_singleton.mp q]
        have hm := getD_mem (l := r.sto.cells) (j := c.toNat) (by omega)
        exact ⟨I.wf.ok.here _ hm, .inl hm⟩
    · rw [if_neg ej] at e0
      cases e0
      exact I.safe j l' xs e h0 he z hz
theorem mem_set_ne {l : List Int} {j : Nat} {x z : Int} (h : z ∈ l) (hne : z ≠ l.getD j 0) : z ∈ l.set j x := by
  obtain ⟨n, hn, e⟩ := List.mem_iff_getElem.mp h
  have hnj : j ≠ n := fun q => hne (by subst q; rw [List.getD_eq_getElem?_getD, List.getElem?_eq_getElem hn]; exact e.symm)
  refine List.mem_iff_getElem.mpr ⟨n, by rw [List.length_set]; exact hn, ?_⟩
  rw [List.getElem_set_ne hnj]
  exact e
def flat (hl : Rows) : List Int := (hl.map (·.2)).flatten
def cn0 (n : Nat) : Option Int := if n = 0 then none else some (n : Int)
def Rel (m : Hld) (hl : Rows) : Prop := ∀ (k : Nat) q, hl[k]? = some q → ∀ z, fd m ((k : Int), z) = cn0 (q.2.count z)
theorem held_iff {m : Hld} {hl : Rows} {hn : Int} (nd : (m.map (·.1)).Nodup) (kr : ∀ q ∈ m, 0 ≤ q.1.1 ∧ q.1.1 < hn) (hlen : (hl.length : Int) = hn) (rel : Rel m hl) (z : Int) : (∃ q ∈ m, q.1.2 = z) ↔ z ∈ flat hl := by
  unfold flat
  rw [List.mem_flatten]
  constructor
  · rintro ⟨q, hq, rfl⟩
    obtain ⟨k0, k1⟩ := kr q hq
    have hk : q.1.1.toNat < hl.length := by omega
    have h1 := rel q.1.1.toNat _ (List.getElem?_eq_getElem hk) q.1.2
    rw [Int.toNat_of_nonneg k0, fd_of nd (show ((q.1.1, q.1.2), q.2) ∈ m from hq)] at h1
    refine ⟨_, List.mem_map.mpr ⟨_, List.getElem_mem hk, rfl⟩, ?_⟩
    refine List.count_pos_iff.mp (Nat.pos_of_ne_zero fun e => ?_)
    rw [e] at h1
    cases h1
  · rintro ⟨l, hl1, hz⟩
    obtain ⟨q, hq, rfl⟩ := List.mem_map.mp hl1
    obtain ⟨k, hk⟩ := List.getElem?_of_mem hq
    have h1 := rel k q hk z
    have h2 := List.count_pos_iff.mpr hz
    unfold cn0 at h1
    rw [if_neg (by omega)] at h1
    exact ⟨_, fd_mem h1, rfl⟩
structure I10 (r : Cnt) (ow : Own) (hl : Rows) (hn cn : Int) (i : Nat) : Prop where
  wf : r.wf
  hh : r.sto.hands = hn
  hc : (r.sto.cells.length : Int) = cn
  oc : ow.cells = r.sto.cells
  ov : ow.vals = r.sto.vals
  ol : ow.kept.length ≤ 5 + i
  lv : r.sto.vals.length ≤ 5 + i
  ln : (hl.length : Int) = hn
  rel : Rel r.held hl
  kx : ∀ z ∈ r.sto.kept, z ∈ r.sto.cells ∨ ∃ q ∈ r.held, q.1.2 = z
  ll : r.held.length ≤ i
  tl : (flat hl).length ≤ i
theorem I10.iff {r : Cnt} {ow : Own} {hl : Rows} {hn cn : Int} {i : Nat} (I : I10 r ow hl hn cn i) (z : Int) : (∃ q ∈ r.held, q.1.2 = z) ↔ z ∈ flat hl := held_iff I.wf.nd I.wf.kr (I.ln.trans I.hh.symm) I.rel z
theorem I10.keep {r : Cnt} {ow : Own} {hl : Rows} {hn cn : Int} {i : Nat} (I : I10 r ow hl hn cn i) (z : Int) : z ∈ r.sto.kept ↔ z ∈ r.sto.cells ++ flat hl := by
  rw [List.mem_append, ← I.iff z]
  constructor
  · exact I.kx z
  · rintro (h | ⟨q, hq, rfl⟩)
    · exact I.wf.ok.here z h
    · exact I.wf.hk q hq
theorem Cnt.wf.swap {r : Cnt} (w : r.wf) {j v : Int} (j0 : 0 ≤ j) (j1 : j < r.sto.cells.length) (hv : r.sto.vals.length < 1000) : (r.swap j v).wf := by
  have ok := w.ok.swap (v := v) j0 j1 hv
  unfold Cnt.swap
  cases hd : r.hasd (r.sto.cells.getD j.toNat 0) with
  | true => exact ⟨ok, w.nd, w.kr, w.ps, fun q hq => List.mem_append.mpr (.inl (w.hk q hq)), w.ll⟩
  | false =>
    refine ⟨ok.less fun k hk => ?_, w.nd, w.kr, w.ps, fun q hq => ?_, w.ll⟩
    · rw [List.mem_singleton.mp hk]
      exact swap_out w.ok j0 j1
    · refine List.mem_filter.mpr ⟨List.mem_append.mpr (.inl (w.hk q hq)), decide_eq_true fun h => ?_⟩
      have : r.hasd (r.sto.cells.getD j.toNat 0) = true := hasd_iff.mpr ⟨q, hq, List.mem_singleton.mp h⟩
      rw [hd] at this
      cases this
theorem swap_held (r : Cnt) (j v : Int) : (r.swap j v).held = r.held := rfl
theorem swap_cells (r : Cnt) (j v : Int) : (r.swap j v).sto.cells = r.sto.cells.set j.toNat (r.sto.vals.length : Int) := by unfold Cnt.swap; split <;> rfl
theorem swap_vals (r : Cnt) (j v : Int) : (r.swap j v).sto.vals = r.sto.vals ++ [v] := by unfold Cnt.swap; split <;> rfl
theorem swap_hands (r : Cnt) (j v : Int) : (r.swap j v).sto.hands = r.sto.hands := by unfold Cnt.swap; split <;> rfl
theorem I10.swap {r : Cnt} {ow : Own} {hl : Rows} {hn cn : Int} {i : Nat} (I : I10 r ow hl hn cn i) {j v : Int} (j0 : 0 ≤ j) (j1 : j < r.sto.cells.length) (hi : i < 900) : I10 (r.swap j v) (ow.swap j v) hl hn cn (i + 1) where
  wf := I.wf.swap j0 j1 (by have := I.lv; omega)
  hh := by rw [swap_hands]; exact I.hh
  hc := by rw [swap_cells, List.length_set]; exact I.hc
  oc := by rw [swap_cells]; show ow.cells.set _ _ = _; rw [I.oc, I.ov]
  ov := by rw [swap_vals]; show ow.vals ++ [v] = _; rw [I.ov]
  ol := by have := I.ol; show (ow.kept ++ [_]).length ≤ _; rw [List.length_append]; show ow.kept.length + 1 ≤ _; omega
  lv := by have := I.lv; rw [swap_vals, List.length_append]; show r.sto.vals.length + 1 ≤ _; omega
  ln := I.ln
  rel := I.rel
  kx := by
    rw [swap_cells, swap_held]
    intro z hz
    have hz2 : (z ∈ r.sto.kept ++ [(r.sto.vals.length : Int)]) ∧ (r.hasd (r.sto.cells.getD j.toNat 0) = false → z ≠ r.sto.cells.getD j.toNat 0) := by
      unfold Cnt.swap at hz
      split at hz
      · rename_i h
        exact ⟨hz, fun h2 => absurd (h.symm.trans h2) (by decide)⟩
      · obtain ⟨h1, h2⟩ := List.mem_filter.mp hz
        exact ⟨h1, fun _ e => of_decide_eq_true h2 (List.mem_singleton.mpr e)⟩
    obtain ⟨h1, h2⟩ := hz2
    rcases List.mem_append.mp h1 with hz | hz
    · by_cases e : z = r.sto.cells.getD j.toNat 0
      · cases hd : r.hasd (r.sto.cells.getD j.toNat 0) with
        | true => exact .inr (by rw [e]; exact hasd_iff.mp hd)
        | false => exact absurd e (h2 hd)
      · rcases I.kx z hz with h | h
        · exact .inl (mem_set_ne h e)
        · exact .inr h
    · rw [List.mem_singleton.mp hz]
      exact .inl (List.mem_set (by omega) _)
  ll := by have := I.ll; rw [swap_held]; omega
  tl := by have := I.tl; omega
theorem flat_mid (A B : Rows) (a : Addr) (l : List Int) : flat (A ++ (a, l) :: B) = flat A ++ (l ++ flat B) := by unfold flat; rw [List.map_append, List.flatten_append]; rfl
/-- one row is another -/
theorem rel_mid {m m2 : Hld} {A B : Rows} {a : Addr} {l l2 : List Int} (h : Rel m (A ++ (a, l) :: B)) (h1 : ∀ z, fd m2 ((A.length : Int), z) = cn0 (l2.count z)) (h2 : ∀ k z, k ≠ (A.length : Int) → fd m2 (k, z) = fd m (k, z)) : Rel m2 (A ++ (a, l2) :: B) := by
  intro k q hq z
  by_cases e : k = A.length
  · subst e
    rw [List.getElem?_append_right (Nat.le_refl _), Nat.sub_self] at hq
    have hq : (a, l2) = q := Option.some.inj hq
    rw [← hq]
    exact h1 z
  · rw [h2 k z (by omega)]
    refine h k q ?_ z
    by_cases hk : k < A.length
    · rw [List.getElem?_append_left hk] at hq ⊢
      exact hq
    · have hd : k - A.length = (k - A.length - 1) + 1 := by omega
      rw [List.getElem?_append_right (by omega), hd] at hq ⊢
      exact hq
theorem rel_at {m : Hld} {A B : Rows} {a : Addr} {l : List Int} (h : Rel m (A ++ (a, l) :: B)) (z : Int) : fd m ((A.length : Int), z) = cn0 (l.count z) := h A.length (a, l) (by rw [List.getElem?_append_right (Nat.le_refl _), Nat.sub_self]; rfl) z
theorem Cnt.wf.hold {r : Cnt} (w : r.wf) {k z n : Int} (k0 : 0 ≤ k) (k1 : k < r.sto.hands) (hz : z ∈ r.sto.kept) (hn : 1 ≤ n) (hl : r.held.length < 1000) : ({ r with held := pu r.held (k, z) n } : Cnt).wf where
  ok := w.ok
  nd := pu_nd _ w.nd
  kr := fun q hq => by
    rcases pu_mem hq with h | h
    · exact w.kr q h
    · rw [h]; exact ⟨k0, k1⟩
  ps := fun q hq => by
    rcases pu_mem hq with h | h
    · exact w.ps q h
    · rw [h]; exact hn
  hk := fun q hq => by
    rcases pu_mem hq with h | h
    · exact w.hk q h
    · rw [h]; exact hz
  ll := by have := pu_len' r.held (k, z) n; show (pu r.held (k, z) n).length ≤ 1000; omega
theorem cn0_get (n : Nat) : (cn0 n).getD 0 = (n : Int) := by
  unfold cn0
  split
  · rename_i h; rw [h]; rfl
  · rfl
theorem I10.hold {r : Cnt} {ow : Own} {A B : Rows} {a : Addr} {l : List Int} {hn cn : Int} {i : Nat} (I : I10 r ow (A ++ (a, l) :: B) hn cn i) {z : Int} (hz : z ∈ r.sto.cells) (hi : i < 900) :
    I10 { r with held := pu r.held ((A.length : Int), z) ((fd r.held ((A.length : Int), z)).getD 0 + 1) } ow (A ++ (a, l ++ [z]) :: B) hn cn (i + 1) where
  wf := I.wf.hold (by omega) (by rw [I.hh, ← I.ln, List.length_append, List.length_cons]; omega) (I.wf.ok.here z hz) (by rw [rel_at I.rel, cn0_get]; omega) (by have := I.ll; omega)
  hh := I.hh
  hc := I.hc
  oc := I.oc
  ov := I.ov
  ol := by have := I.ol; omega
  lv := by have := I.lv; show r.sto.vals.length ≤ _; omega
  ln := by have h := I.ln; rw [List.length_append, List.length_cons] at h ⊢; exact h
  rel := by
    refine rel_mid I.rel (fun w => ?_) fun k w hk => ?_
    · show fd (pu r.held _ _) _ = _
      rw [fd_pu, List.count_append, rel_at I.rel, cn0_get]
      by_cases e : w = z
      · subst e
        rw [if_pos rfl, List.count_singleton_self]
        unfold cn0
        rw [if_neg (Nat.succ_ne_zero _)]
        rfl
      · rw [if_neg (by intro h; exact e (congrArg Prod.snd h)), List.count_singleton]
        rw [if_neg (by simpa using fun h : z = w => e h.symm)]
        exact rel_at I.rel w
    · show fd (pu r.held _ _) _ = _
      rw [fd_pu, if_neg (by intro h; exact hk (congrArg Prod.fst h))]
  kx := fun w hw => by
    rcases I.kx w hw with h | ⟨q, hq, e⟩
    · exact .inl h
    · refine .inr ?_
      have hs : (fd r.held q.1).isSome = true := fd_isSome.mpr (List.mem_map.mpr ⟨q, hq, rfl⟩)
      have h2 : (fd (pu r.held ((A.length : Int), z) ((fd r.held ((A.length : Int), z)).getD 0 + 1)) q.1).isSome = true := by
        rw [fd_pu]
        split
        · rfl
        · exact hs
      obtain ⟨v, hv⟩ := Option.isSome_iff_exists.mp h2
      exact ⟨_, fd_mem hv, e⟩
  ll := by have := I.ll; have h := pu_len' r.held ((A.length : Int), z) ((fd r.held ((A.length : Int), z)).getD 0 + 1); show (pu r.held _ _).length ≤ _; omega
  tl := by
    have := I.tl
    rw [flat_mid, List.length_append, List.length_append] at this ⊢
    rw [List.length_append]
    show _ + (l.length + 1 + _) ≤ _
    omega
theorem fd_dn {m : Hld} {k z n : Int} (w : Int × Int) : fd (dn m k z n) w = if w = (k, z) then (if n = 1 then none else some (n - 1)) else fd m w := by
  unfold dn
  by_cases e : n = 1
  · rw [if_pos e, if_pos e]
    exact fd_rm m (k, z) w
  · rw [if_neg e, if_neg e]
    exact fd_pu m (k, z) w (n - 1)
theorem Cnt.wf.drop {r : Cnt} (w : r.wf) {k z n : Int} (hf : fd r.held (k, z) = some n) : ({ r with held := dn r.held k z n } : Cnt).wf where
  ok := w.ok
  nd := dn_nd w.nd
  kr := fun q hq => by
    rcases dn_mem hq with h | h
    · exact w.kr q h
    · rw [h.1]; exact w.kr ((k, z), n) (fd_mem hf)
  ps := fun q hq => by
    rcases dn_mem hq with h | h
    · exact w.ps q h
    · have := w.ps _ (fd_mem hf)
      have h2 := h.2
      rw [h.1]
      show 1 ≤ n - 1
      have : 1 ≤ n := this
      omega
  hk := fun q hq => by
    rcases dn_mem hq with h | h
    · exact w.hk q h
    · rw [h.1]; exact w.hk ((k, z), n) (fd_mem hf)
  ll := by
    have := w.ll
    show (dn r.held k z n).length ≤ 1000
    unfold dn
    split
    · exact Nat.le_trans (rm_len _ _) this
    · rw [pu_len'' _ (by rw [hf]; rfl)]; exact this
theorem dn_len {m : Hld} {k z n : Int} (hf : fd m (k, z) = some n) : (dn m k z n).length ≤ m.length := by
  unfold dn
  split
  · exact rm_len _ _
  · rw [pu_len'' _ (by rw [hf]; rfl)]; exact Nat.le_refl _
theorem rel_drop {m : Hld} {A B : Rows} {a : Addr} {l : List Int} (h : Rel m (A ++ (a, l) :: B)) {z : Int} (hz : z ∈ l) : Rel (dn m (A.length : Int) z (l.count z : Nat)) (A ++ (a, l.erase z) :: B) := by
  have hc := List.count_pos_iff.mpr hz
  refine rel_mid h (fun w => ?_) fun k w hk => ?_
  · rw [fd_dn]
    by_cases e : w = z
    · subst e
      rw [if_pos rfl, List.count_erase_self]
      unfold cn0
      by_cases h1 : l.count w = 1
      · rw [if_pos (by omega), if_pos (by omega)]
      · rw [if_neg (by omega), if_neg (by omega)]
        congr 1
        omega
    · rw [if_neg (by intro h; exact e (congrArg Prod.snd h)), List.count_erase_of_ne e]
      exact rel_at h w
  · rw [fd_dn, if_neg (by intro h; exact hk (congrArg Prod.fst h))]
theorem I10.drop {r : Cnt} {ow : Own} {A B : Rows} {a : Addr} {l : List Int} {hn cn : Int} {i : Nat} (I : I10 r ow (A ++ (a, l) :: B) hn cn i) {z : Int} (hz : z ∈ l)
    (hx : (∃ q ∈ dn r.held (A.length : Int) z (l.count z : Nat), q.1.2 = z) ∨ z ∈ r.sto.cells) :
    I10 { r with held := dn r.held (A.length : Int) z (l.count z : Nat) } ow (A ++ (a, l.erase z) :: B) hn cn (i + 1) := by
  have hc := List.count_pos_iff.mpr hz
  have hf : fd r.held ((A.length : Int), z) = some ((l.count z : Nat) : Int) := by rw [rel_at I.rel]; unfold cn0; rw [if_neg (by omega)]
  exact {
    wf := I.wf.drop hf
    hh := I.hh
    hc := I.hc
    oc := I.oc
    ov := I.ov
    ol := by have := I.ol; omega
    lv := by have := I.lv; show r.sto.vals.length ≤ _; omega
    ln := by have h := I.ln; rw [List.length_append, List.length_cons] at h ⊢; exact h
    rel := rel_drop I.rel hz
    kx := fun w hw => by
      by_cases e : w = z
      · subst e
        exact hx.symm
      · rcases I.kx w hw with h | ⟨q, hq, e2⟩
        · exact .inl h
        · refine .inr ⟨q, ?_, e2⟩
          have h1 := fd_of I.wf.nd (show (q.1, q.2) ∈ r.held from hq)
          have h2 : fd (dn r.held (A.length : Int) z (l.count z : Nat)) q.1 = some q.2 := by rw [fd_dn, if_neg (by intro h; exact e (by rw [← e2, h]))]; exact h1
          exact fd_mem h2
    ll := by have := I.ll; have := dn_len hf; show (dn _ _ _ _).length ≤ _; omega
    tl := by
      have := I.tl
      rw [flat_mid, List.length_append, List.length_append] at this ⊢
      rw [List.length_erase_of_mem hz]
      omega }
theorem I10.gone {r : Cnt} {ow : Own} {A B : Rows} {a : Addr} {l : List Int} {hn cn : Int} {i : Nat} (I : I10 r ow (A ++ (a, l) :: B) hn cn i) {z : Int} (hz : z ∈ l)
    (hx : ¬ ((∃ q ∈ dn r.held (A.length : Int) z (l.count z : Nat), q.1.2 = z) ∨ z ∈ r.sto.cells)) :
    I10 { r with held := dn r.held (A.length : Int) z (l.count z : Nat), sto := r.sto.less [z] } ow (A ++ (a, l.erase z) :: B) hn cn (i + 1) := by
  have hc := List.count_pos_iff.mpr hz
  have hf : fd r.held ((A.length : Int), z) = some ((l.count z : Nat) : Int) := by rw [rel_at I.rel]; unfold cn0; rw [if_neg (by omega)]
  have w := I.wf.drop hf
  exact {
    wf := ⟨w.ok.less fun k hk => by rw [List.mem_singleton.mp hk]; exact fun h => hx (.inr h), w.nd, w.kr, w.ps, fun q hq => List.mem_filter.mpr ⟨w.hk q hq, decide_eq_true fun h => hx (.inl ⟨q, hq, List.mem_singleton.mp h⟩)⟩, w.ll⟩
    hh := I.hh
    hc := I.hc
    oc := I.oc
    ov := I.ov
    ol := by have := I.ol; omega
    lv := by have := I.lv; show r.sto.vals.length ≤ _; omega
    ln := by have h := I.ln; rw [List.length_append, List.length_cons] at h ⊢; exact h
    rel := rel_drop I.rel hz
    kx := fun w hw => by
      obtain ⟨hw, hw2⟩ := List.mem_filter.mp hw
      have e : w ≠ z := fun e => of_decide_eq_true hw2 (List.mem_singleton.mpr e)
      rcases I.kx w hw with h | ⟨q, hq, e2⟩
      · exact .inl h
      · refine .inr ⟨q, ?_, e2⟩
        have h1 := fd_of I.wf.nd (show (q.1, q.2) ∈ r.held from hq)
        have h2 : fd (dn r.held (A.length : Int) z (l.count z : Nat)) q.1 = some q.2 := by rw [fd_dn, if_neg (by intro h; exact e (by rw [← e2, h]))]; exact h1
        exact fd_mem h2
    ll := by have := I.ll; have := dn_len hf; show (dn _ _ _ _).length ≤ _; omega
    tl := by
      have := I.tl
      rw [flat_mid, List.length_append, List.length_append] at this ⊢
      rw [List.length_erase_of_mem hz]
      omega }
/-- what a hand holds, by both -/
theorem mine_due {m : Hld} {A B : Rows} {a : Addr} {l ys : List Int} {xs : List (Int × Int)} (nd : (m.map (·.1)).Nodup) (h : Rel m (A ++ (a, l) :: B)) (hs : ys.Pairwise (· < ·)) (hy : ∀ z, z ∈ ys ↔ z ∈ l) (hp : xs.Perm (mine m (A.length : Int))) (hx : xs.Pairwise leP) :
    xs = ys.map fun z => (z, ((l.count z : Nat) : Int)) := by
  have hd : (ys.map fun z => (z, ((l.count z : Nat) : Int))).Pairwise leP := by
    rw [List.pairwise_map]
    exact hs.imp fun h => .inl h
  refine leP_uniq hx hd (hp.trans (perm_mem ?_ ?_ fun q => ?_))
  · unfold mine
    have h1 := (List.filter_sublist (p := fun q : (Int × Int) × Int => decide (q.1.1 = (A.length : Int))) (l := m)).map (·.1) |>.nodup nd
    rw [List.nodup_iff_pairwise_ne, List.pairwise_map] at h1
    rw [List.nodup_iff_pairwise_ne, List.pairwise_map]
    refine List.Pairwise.imp_of_mem (fun {x y} hx hy h e => ?_) h1
    have e1 := of_decide_eq_true (List.mem_filter.mp hx).2
    have e2 := of_decide_eq_true (List.mem_filter.mp hy).2
    exact h (Prod.ext (e1.trans e2.symm) (congrArg Prod.fst e))
  · rw [List.nodup_iff_pairwise_ne, List.pairwise_map]
    exact hs.imp fun h e => Int.ne_of_lt h (congrArg Prod.fst e)
  · unfold mine
    constructor
    · intro hq
      obtain ⟨w, hw, rfl⟩ := List.mem_map.mp hq
      obtain ⟨h1, h2⟩ := List.mem_filter.mp hw
      have h2 : w.1.1 = (A.length : Int) := of_decide_eq_true h2
      have h3 := fd_of nd (show ((w.1.1, w.1.2), w.2) ∈ m from h1)
      rw [h2, rel_at h] at h3
      unfold cn0 at h3
      split at h3
      · cases h3
      · rename_i hc
        refine List.mem_map.mpr ⟨w.1.2, (hy _).mpr (List.count_pos_iff.mp (Nat.pos_of_ne_zero hc)), ?_⟩
        rw [Option.some.inj h3]
    · intro hq
      obtain ⟨z, hz, rfl⟩ := List.mem_map.mp hq
      have hc := List.count_pos_iff.mpr ((hy z).mp hz)
      have h3 := rel_at h z
      unfold cn0 at h3
      rw [if_neg (by omega)] at h3
      exact List.mem_map.mpr ⟨_, List.mem_filter.mpr ⟨fd_mem h3, decide_eq_true rfl⟩, rfl⟩
/-! ### k22: what is told, as data -/
inductive TD
  | non
  | bl (b : Bool)
  | int (i : Int)
  | nus (l : List Int)
  | prs (l : List (Int × Int))
def TD.d : TD → PyData
  | .non => .none
  | .bl b => .bool b
  | .int i => .int i
  | .nus l => .list (l.map PyData.int)
  | .prs l => .list (l.map fun q => .tuple [.int q.1, .int q.2])
/-- an item that is told: a flat one, or a list -/
inductive TI
  | fl (v : V)
  | ls (a : Addr) (xs : List V)
def TI.v : TI → V
  | .fl v => v
  | .ls a _ => .ref a
def TI.u : TI → U
  | .fl _ => []
  | .ls a xs => [(a, .lst xs)]
def tiU (ti : List TI) : U := ti.flatMap TI.u
theorem tiU_cons (x : TI) (ti : List TI) : tiU (x :: ti) = x.u ++ tiU ti := rfl
theorem tiU_app (A B : List TI) : tiU (A ++ B) = tiU A ++ tiU B := List.flatMap_append
/-- the item tells d; tuples lie in B -/
inductive TiD (B : U) : TI → TD → Prop
  | non : TiD B (.fl .non) .non
  | bl (b : Bool) : TiD B (.fl (.bl b)) (.bl b)
  | int (i : Int) : TiD B (.fl (.int i)) (.int i)
  | nus (a : Addr) (l : List Int) : l.length ≤ 1000 → TiD B (.ls a (l.map V.int)) (.nus l)
  | prs (a : Addr) (ys : Prs) : ys.length ≤ 1000 → (∀ c ∈ prU ys, c ∈ B) → TiD B (.ls a (prR ys)) (.prs (ys.map (·.2)))
inductive TiAll (B : U) : List TI → List TD → Prop
  | nil : TiAll B [] []
  | cons {x : TI} {d : TD} {xs : List TI} {ds : List TD} : TiD B x d → TiAll B xs ds → TiAll B (x :: xs) (d :: ds)
theorem TiD.mono {B B' : U} (hb : ∀ c ∈ B, c ∈ B') {x : TI} {d : TD} (h : TiD B x d) : TiD B' x d := by
  cases h with
  | non => exact .non
  | bl b => exact .bl b
  | int i => exact .int i
  | nus a l h => exact .nus a l h
  | prs a ys h k => exact .prs a ys h fun c hc => hb c (k c hc)
theorem TiAll.mono {B B' : U} (hb : ∀ c ∈ B, c ∈ B') {xs : List TI} {ds : List TD} (h : TiAll B xs ds) : TiAll B' xs ds := by
  induction h with
  | nil => exact .nil
  | cons h _ ih => exact .cons (h.mono hb) ih
theorem TiAll.len {B : U} {xs : List TI} {ds : List TD} (h : TiAll B xs ds) : xs.length = ds.length := by
  induction h with
  | nil => rfl
  | cons _ _ ih => rw [List.length_cons, List.length_cons, ih]
theorem TiD.sz {B : U} {a : Addr} {xs : List V} {d : TD} (h : TiD B (.ls a xs) d) : xs.length ≤ 1000 := by
  cases h with
  | nus a l h => rw [List.length_map]; exact h
  | prs a ys h k => show (ys.map _).length ≤ _; rw [List.length_map]; exact h
/-- the list that is put elsewhere tells the same -/
theorem TiD.at {B : U} {a a' : Addr} {xs : List V} {d : TD} (h : TiD B (.ls a xs) d) : TiD B (.ls a' xs) d := by
  cases h with
  | nus a l h => exact .nus a' l h
  | prs a ys h k => exact .prs a' ys h k
theorem TiD.flat {B : U} {v : V} {d : TD} (h : TiD B (.fl v) d) : v = .non ∨ (∃ b, v = .bl b) ∨ ∃ i, v = .int i := by
  cases h with
  | non => exact .inl rfl
  | bl b => exact .inr (.inl ⟨b, rfl⟩)
  | int i => exact .inr (.inr ⟨i, rfl⟩)
section
variable {K : PySem.W.Frag} {H : Hp} {B : U}
theorem dpAll_prs (hB : ∀ c ∈ B, H c.1 = some c.2) : ∀ (ys : Prs), (∀ c ∈ prU ys, c ∈ B) → DpAll K H (prR ys) ((ys.map (·.2)).map fun q => .tuple [.int q.1, .int q.2])
  | [], _ => .nil
  | q :: r, h => .cons (.tup (SqT.of (hB (q.1, obP q.2) (h _ (List.mem_cons.mpr (.inl rfl))))) (.cons (.int _) (.cons (.int _) .nil))) (dpAll_prs hB r fun c hc => h c (List.mem_cons_of_mem _ hc))
theorem TiD.dp (hB : ∀ c ∈ B, H c.1 = some c.2) {x : TI} {d : TD} (h : TiD B x d) (hu : ∀ c ∈ x.u, c ∈ B) : Dp K H x.v d.d := by
  cases h with
  | non => exact .non
  | bl b => exact .bl b
  | int i => exact .int i
  | nus a l h => exact .lst (SqL.of (hB (a, .lst (l.map V.int)) (hu _ (List.mem_cons.mpr (.inl rfl))))) (dpAll_ints l)
  | prs a ys h k => exact .lst (SqL.of (hB (a, .lst (prR ys)) (hu _ (List.mem_cons.mpr (.inl rfl))))) (dpAll_prs hB ys k)
theorem TiAll.dp (hB : ∀ c ∈ B, H c.1 = some c.2) {xs : List TI} {ds : List TD} (h : TiAll B xs ds) (hu : ∀ c ∈ tiU xs, c ∈ B) : DpAll K H (xs.map TI.v) (ds.map TD.d) := by
  induction h with
  | nil => exact .nil
  | cons h _ ih => exact .cons (h.dp hB fun c hc => hu c (List.mem_append.mpr (.inl hc))) (ih fun c hc => hu c (List.mem_append.mpr (.inr hc)))
end
/-- a row that is told: a list of items, all in B -/
def RowD (B : U) (v : V) (ds : List TD) : Prop := ∃ (r : Addr) (ti : List TI), v = .ref r ∧ (r, HO.lst (ti.map TI.v)) ∈ B ∧ (∀ c ∈ tiU ti, c ∈ B) ∧ TiAll B ti ds
inductive TeAll (B : U) : List V → List (List TD) → Prop
  | nil : TeAll B [] []
  | cons {v : V} {d : List TD} {vs : List V} {ds : List (List TD)} : RowD B v d → TeAll B vs ds → TeAll B (v :: vs) (d :: ds)
theorem RowD.mono {B B' : U} (hb : ∀ c ∈ B, c ∈ B') {v : V} {d : List TD} (h : RowD B v d) : RowD B' v d := by
  obtain ⟨r, ti, e, h1, h2, h3⟩ := h
  exact ⟨r, ti, e, hb _ h1, fun c hc => hb c (h2 c hc), h3.mono hb⟩
theorem TeAll.mono {B B' : U} (hb : ∀ c ∈ B, c ∈ B') {vs : List V} {ds : List (List TD)} (h : TeAll B vs ds) : TeAll B' vs ds := by
  induction h with
  | nil => exact .nil
  | cons h _ ih => exact .cons (h.mono hb) ih
theorem TeAll.snoc {B : U} {vs : List V} {ds : List (List TD)} (h : TeAll B vs ds) {v : V} {d : List TD} (k : RowD B v d) : TeAll B (vs ++ [v]) (ds ++ [d]) := by
  induction h with
  | nil => exact .cons k .nil
  | cons h _ ih => exact .cons h ih
theorem TeAll.len {B : U} {vs : List V} {ds : List (List TD)} (h : TeAll B vs ds) : vs.length = ds.length := by
  induction h with
  | nil => rfl
  | cons _ _ ih => rw [List.length_cons, List.length_cons, ih]
def teD (ds : List (List TD)) : PyData := .list (ds.map fun d => .list (d.map TD.d))
theorem TeAll.dp {K : PySem.W.Frag} {H : Hp} {B : U} {vs : List V} {ds : List (List TD)} (hB : ∀ c ∈ B, H c.1 = some c.2) (h : TeAll B vs ds) : DpAll K H vs (ds.map fun d => .list (d.map TD.d)) := by
  induction h with
  | nil => exact .nil
  | cons h _ ih =>
    obtain ⟨r, ti, rfl, h1, h2, h3⟩ := h
    exact .cons (.lst (SqL.of (hB _ h1)) (h3.dp hB h2)) ih
theorem lay_all {α : Type} (f : α → PyData) (n : Nat) (h : ∀ x, (f x).canLay0 = true ∧ (f x).depth ≤ n) : ∀ l : List α, PyData.canLayAll0 (l.map f) = true ∧ PyData.depthAll (l.map f) ≤ n
  | [] => by simp [PyData.canLayAll0, PyData.depthAll]
  | x :: r => by
    have h1 := h x
    have h2 := lay_all f n h r
    refine ⟨?_, ?_⟩
    · rw [List.map_cons, PyData.canLayAll0, h1.1, h2.1]; rfl
    · rw [List.map_cons, PyData.depthAll]
      exact Nat.max_le.mpr ⟨h1.2, h2.2⟩
theorem lay_lst {α : Type} (f : α → PyData) (n : Nat) (h : ∀ x, (f x).canLay0 = true ∧ (f x).depth ≤ n) (l : List α) : (PyData.list (l.map f)).canLay0 = true ∧ (PyData.list (l.map f)).depth ≤ n + 1 := by
  have := lay_all f n h l
  refine ⟨?_, ?_⟩
  · rw [PyData.canLay0]; exact this.1
  · rw [PyData.depth]; omega
theorem lay_td (d : TD) : d.d.canLay0 = true ∧ d.d.depth ≤ 2 := by
  cases d with
  | non => exact ⟨by simp [TD.d, PyData.canLay0], by simp [TD.d, PyData.depth]⟩
  | bl b => exact ⟨by simp [TD.d, PyData.canLay0], by simp [TD.d, PyData.depth]⟩
  | int i => exact ⟨by simp [TD.d, PyData.canLay0], by simp [TD.d, PyData.depth]⟩
  | nus l =>
    have := lay_lst PyData.int 0 (fun x => ⟨by simp [PyData.canLay0], by simp [PyData.depth]⟩) l
    exact ⟨this.1, Nat.le_trans this.2 (by decide)⟩
  | prs l => exact lay_lst (fun q : Int × Int => PyData.tuple [.int q.1, .int q.2]) 1 (fun x => ⟨by simp [PyData.canLay0, PyData.canLayAll0], by simp [PyData.depth, PyData.depthAll]⟩) l
theorem shaped_te (ds : List (List TD)) : SeqAt.shaped (teD ds) = true := by
  have := lay_lst (fun d : List TD => PyData.list (d.map TD.d)) 3 (fun d => lay_lst TD.d 2 lay_td d) ds
  unfold SeqAt.shaped teD
  rw [this.1, Bool.true_and, decide_eq_true_eq]
  exact Nat.le_trans this.2 (by decide)
/-! ### the kinds, without places -/
def Sto.er (s : Sto) : Sto := ⟨0, 0, 0, s.hands, s.vals, s.kept, s.cells⟩
inductive A5
  | r (s : Sto) (era : Int) (waits : List (Int × Int))
  | m (s : Sto) (waits : List Int)
  | c (s : Sto) (held : Hld)
  | v (version : Int) (rows : List (List (Int × Int)))
  | h (keys : List Int) (era : Int) (ws : List Int)
def lePb (a b : Int × Int) : Bool := decide (a.1 < b.1 ∨ (a.1 = b.1 ∧ a.2 ≤ b.2))
def srtP (l : List (Int × Int)) : List (Int × Int) := l.mergeSort lePb
theorem srtP_eq {l ys : List (Int × Int)} (p : ys.Perm l) (s : ys.Pairwise leP) : ys = srtP l := by
  have p2 : (srtP l).Perm l := List.mergeSort_perm _ _
  have s2 : (srtP l).Pairwise (fun a b => lePb a b = true) := List.pairwise_mergeSort (fun a b c h1 h2 => by simp [lePb] at h1 h2 ⊢; omega) (fun a b => by simp [lePb]; omega) l
  refine (p.trans p2.symm).eq_of_pairwise (fun a b _ _ h h' => ?_) s (s2.imp fun h => (by have h := of_decide_eq_true h; exact h))
  obtain ⟨a1, a2⟩ := a
  obtain ⟨b1, b2⟩ := b
  have h : a1 < b1 ∨ (a1 = b1 ∧ a2 ≤ b2) := h
  have h' : b1 < a1 ∨ (b1 = a1 ∧ b2 ≤ a2) := h'
  have e1 : a1 = b1 := by omega
  have e2 : a2 = b2 := by omega
  rw [e1, e2]
def tellR (s : Sto) (era : Int) (waits : List (Int × Int)) (x : Int) : A5 × List TD :=
  let r : Rnd := Rnd.swap ⟨s, era, 0, 0, 0, [], [], waits⟩ 0 x
  (.r r.next.sto r.next.era r.next.waits, [.int (s.cells.getD 0 0), .nus r.sto.kept, .nus r.sto.now, .nus (srtI r.gone)])
def tellM (s : Sto) (waits : List Int) (x : Int) : A5 × List TD :=
  let t := s.cells.getD 0 0
  let g := (waits ++ [t]).filter fun z => !decide (z ∈ [t])
  (.m ((s.swap 0 x).less g) ((waits ++ [t]).filter fun z => decide (z ∈ [t])), [.int t, .non, .int t, .nus [t], .nus (srtI g), .nus ((s.swap 0 x).less g).kept])
def tellC (s : Sto) (held : Hld) (x : Int) : A5 × List TD :=
  let t := s.cells.getD 0 0
  let h1 := pu held (1, t) ((fd held (1, t)).getD 0 + 1)
  let r : Cnt := Cnt.swap ⟨s, 0, h1⟩ 0 x
  (.c r.sto r.held, [.int t, .int t, .prs (srtP (mine r.held 1)), .nus r.sto.kept])
def newA (rows : List (List (Int × Int))) : List Int := rows.map fun r => (r.map (·.2)).getLastD 0
def trimA (z : Int) (rows : List (List (Int × Int))) : List (List (Int × Int)) := rows.map fun r => r.filter fun q => decide (q.1 = maxLe r z)
def lensA (rows : List (List (Int × Int))) : Int := (rows.map fun r => (r.length : Int)).sum
def tellV (version : Int) (rows : List (List (Int × Int))) (x : Int) : A5 × List TD :=
  let r1 := rows.set 0 (rows.getD 0 [] ++ [(version + 1, x)])
  let r2 := trimA (version + 1) r1
  (.v (version + 1) r2, [.int (version + 1), .nus (newA r1), .nus ((r1.getD 0 []).map (·.1)), .int (lensA r1 - lensA r2), .int (version + 1)])
def tellH (keys : List Int) (era : Int) (ws : List Int) (x : Int) : A5 × List TD :=
  let k1 := if x ∈ keys then keys else srtI (keys ++ [x])
  let z := x - x % 3
  let k2 := k1.filter fun y => decide (y ≠ z)
  let w2 := if z ∈ k1 then ws ++ [era] else ws
  (.h k2 (era + 1) (w2.filter fun y => decide (era + 1 < y + 2)), [.bl (!decide (x ∈ keys)), .nus k1, .bl (decide (z ∈ k1)), .int ((1 + k2.length + w2.length : Nat)), .int ((w2.filter fun y => decide (y + 2 ≤ era + 1)).length)])
def tell : A5 → Int → A5 × List TD
  | .r s e w, x => tellR s e w x
  | .m s w, x => tellM s w x
  | .c s h, x => tellC s h x
  | .v n rows, x => tellV n rows x
  | .h k e w, x => tellH k e w x
def run : A5 → List Int → A5 × List (List TD)
  | a, [] => (a, [])
  | a, w :: ws => ((run (tell a w).1 ws).1, (tell a w).2 :: (run (tell a w).1 ws).2)
theorem run_snoc (w : Int) : ∀ (ws : List Int) (a : A5), run a (ws ++ [w]) = ((tell (run a ws).1 w).1, (run a ws).2 ++ [(tell (run a ws).1 w).2])
  | [], a => rfl
  | x :: ws, a => by
    show ((run (tell a x).1 (ws ++ [w])).1, (tell a x).2 :: (run (tell a x).1 (ws ++ [w])).2) = _
    rw [run_snoc w ws]
    rfl
def s22 : Sto := ⟨0, 0, 0, 2, [0, 0], [0, 1], [0, 1]⟩
def fresh (kind : Int) : A5 := if kind = 0 then .r s22 0 [] else if kind = 1 then .m s22 [] else if kind = 2 then .c s22 [] else if kind = 3 then .v 0 [[(0, 0)], [(0, 0)], [(0, 0)]] else .h [] 0 []
structure VOk (A : List (List (Int × Int))) (v : Int) : Prop where
  rise : ∀ r ∈ A, (r.map (·.1)).Pairwise (· < ·)
  le : ∀ r ∈ A, ∀ q ∈ r, q.1 ≤ v
  ne : ∀ r ∈ A, r ≠ []
theorem VOk.write {A : List (List (Int × Int))} {v : Int} (w : VOk A v) (x : Int) : VOk (A.set 0 (A.getD 0 [] ++ [(v + 1, x)])) (v + 1) := by
  match A, w with
  | [], w => exact ⟨fun r hr => absurd hr List.not_mem_nil, fun r hr => absurd hr List.not_mem_nil, fun r hr => absurd hr List.not_mem_nil⟩
  | a :: T, w =>
    have ha : a ∈ a :: T := List.mem_cons.mpr (.inl rfl)
    have key : ∀ {P : List (Int × Int) → Prop}, P (a ++ [(v + 1, x)]) → (∀ r ∈ T, P r) → ∀ r ∈ (a ++ [(v + 1, x)]) :: T, P r := fun h1 h2 r hr => by
      rcases List.mem_cons.mp hr with rfl | h
      · exact h1
      · exact h2 r h
    refine ⟨key ?_ fun r hr => w.rise r (List.mem_cons_of_mem _ hr), key ?_ fun r hr q hq => ?_, key (by simp) fun r hr => w.ne r (List.mem_cons_of_mem _ hr)⟩
    · rw [List.map_append]
      refine List.pairwise_append.mpr ⟨w.rise a ha, List.pairwise_singleton _ _, fun y hy z hz => ?_⟩
      obtain ⟨q, hq, rfl⟩ := List.mem_map.mp hy
      have := w.le a ha q hq
      rw [List.mem_singleton.mp hz]
      show q.1 < v + 1
      omega
    · intro q hq
      rcases List.mem_append.mp hq with h | h
      · have := w.le a ha q h
        omega
      · rw [List.mem_singleton.mp h]
        exact Int.le_refl _
    · have := w.le r (List.mem_cons_of_mem _ hr) q hq
      omega
theorem VOk.trim {A : List (List (Int × Int))} {v : Int} (w : VOk A v) : VOk (trimA v A) v := by
  refine ⟨fun r hr => ?_, fun r hr q hq => ?_, fun r hr => ?_⟩
  · obtain ⟨r0, h0, rfl⟩ := List.mem_map.mp hr
    exact (w.rise r0 h0).sublist (List.filter_sublist.map _)
  · obtain ⟨r0, h0, rfl⟩ := List.mem_map.mp hr
    exact w.le r0 h0 q (List.mem_filter.mp hq).1
  · obtain ⟨r0, h0, rfl⟩ := List.mem_map.mp hr
    have e : maxLe r0 v = (r0.map (·.1)).getLastD 0 := by
      unfold maxLe
      rw [List.filter_eq_self.mpr fun q hq => decide_eq_true (w.le r0 h0 q hq)]
    have hm : maxLe r0 v ∈ r0.map (·.1) := by
      rw [e]
      exact last_mem (by simpa using w.ne r0 h0)
    obtain ⟨q, hq, eq⟩ := List.mem_map.mp hm
    exact List.ne_nil_of_mem (List.mem_filter.mpr ⟨hq, decide_eq_true eq⟩)
theorem mem_abs {R : VRows} {r : Addr × Prs} (h : r ∈ R) : r.2.map (·.2) ∈ absR R := List.mem_map.mpr ⟨r, h, rfl⟩
theorem VOk.trok {s : Ver} (w : s.wf) (b : s.begun = []) (o : VOk (absR s.rows) s.version) : TrOk s := by
  refine ⟨w, fun r hr => ?_, fun r hr z hz => ?_, by rw [b]; decide⟩
  · have := o.rise _ (mem_abs hr)
    rw [List.map_map] at this
    exact this
  · rw [b] at hz
    have ez : z = s.version := by simpa using hz
    obtain ⟨q, hq⟩ := List.exists_mem_of_ne_nil _ (o.ne _ (mem_abs hr))
    have h2 := o.le _ (mem_abs hr) q hq
    obtain ⟨q0, h0, rfl⟩ := List.mem_map.mp hq
    exact ⟨q0, h0, by rw [ez]; exact h2⟩
theorem abs_write {R0 R : VRows} {v x : Int} (h : WRel R0 R [(0, x)] v) : absR R = (absR R0).set 0 ((absR R0).getD 0 [] ++ [(v, x)]) := by
  have hl : (absR R).length = (absR R0).length := by unfold absR; rw [List.length_map, List.length_map, h.1]
  refine List.ext_getElem? fun i => ?_
  rcases Nat.lt_or_ge i R.length with h1 | h1
  · obtain ⟨r0, g0, g1⟩ := h.2 i _ (List.getElem?_eq_getElem h1)
    have h0 : (absR R0)[i]? = some (r0.2.map (·.2)) := by unfold absR; rw [List.getElem?_map, g0]; rfl
    have e1 : (absR R)[i]? = some (r0.2.map (·.2) ++ addOf [(0, x)] v i) := by unfold absR; rw [List.getElem?_map, List.getElem?_eq_getElem h1, ← g1]; rfl
    rw [e1]
    by_cases hi : i = 0
    · subst hi
      rw [List.getElem?_set_self (by unfold absR; rw [List.length_map, ← h.1]; exact h1), List.getD_eq_getElem?_getD, h0]
      rfl
    · rw [List.getElem?_set_ne (by omega), h0]
      have : addOf [(0, x)] v i = [] := by
        unfold addOf
        rw [List.filter_cons, if_neg (by simp; omega)]
        rfl
      rw [this, List.append_nil]
  · rw [List.getElem?_eq_none (by unfold absR; rw [List.length_map]; exact h1), List.getElem?_eq_none (by rw [List.length_set, ← hl]; unfold absR; rw [List.length_map]; exact h1)]
theorem abs_trim {R0 R : VRows} {v : Int} (h : TRel R0 R [v] R0.length) : absR R = trimA v (absR R0) := by
  refine List.ext_getElem? fun i => ?_
  unfold trimA absR
  rw [List.getElem?_map, List.getElem?_map, List.getElem?_map]
  rcases Nat.lt_or_ge i R.length with h1 | h1
  · obtain ⟨r0, g0, g1, _⟩ := h.2 i _ (List.getElem?_eq_getElem h1)
    have g2 := g1 (by rw [← h.1]; exact h1)
    rw [List.getElem?_eq_getElem h1, g0]
    show some ((R[i]).2.map (·.2)) = some ((r0.2.map (·.2)).filter _)
    rw [g2]
    unfold trimR
    rw [List.filter_map]
    congr 2
    refine List.filter_congr fun q _ => ?_
    show decide (q.2.1 ∈ [maxLe (r0.2.map (·.2)) v]) = decide (q.2.1 = maxLe (r0.2.map (·.2)) v)
    exact decide_eq_decide.mpr List.mem_singleton
  · rw [List.getElem?_eq_none h1, List.getElem?_eq_none (by rw [← h.1]; exact h1)]
    rfl
theorem lens_abs (R : VRows) : lens R = lensA (absR R) := by
  unfold lens lensA absR
  rw [List.map_map]
  congr 1
  refine List.map_congr_left fun r _ => ?_
  show _ = (((r.2.map (·.2)).length : Nat) : Int)
  rw [List.length_map]
theorem newest_abs (R : VRows) : newest R = newA (absR R) := by
  unfold newest newA absR
  rw [List.map_map]
  refine List.map_congr_left fun r _ => ?_
  show _ = ((r.2.map (·.2)).map (·.2)).getLastD 0
  rw [List.map_map]
  rfl
/-- an object of a kind, behind i deeds: its unit and what it is, without places -/
inductive Obj (CR CM CC CV CH CL : Addr) (i : Nat) (p : Addr) : Int → U → A5 → Prop
  | r (r : Rnd) : r.wf → r.sto.hands = 2 → r.sto.cells.length = 2 → r.sto.vals.length = 2 + i → r.inside = [] → r.saw = [] → Obj CR CM CC CV CH CL i p 0 (rndU CR p r) (.r r.sto.er r.era r.waits)
  | m (r : Mrk) : r.wf → r.sto.hands = 2 → r.sto.cells.length = 2 → r.sto.vals.length = 2 + i → (∀ q ∈ r.marks, q.1 = (0, 1)) → Obj CR CM CC CV CH CL i p 1 (mrkU CM p r) (.m r.sto.er r.waits)
  | c (r : Cnt) : r.wf → r.sto.hands = 2 → r.sto.cells.length = 2 → r.sto.vals.length = 2 + i → r.held.length ≤ i → Obj CR CM CC CV CH CL i p 2 (cntU CC p r) (.c r.sto.er r.held)
  | v (s : Ver) : s.wf → VOk (absR s.rows) s.version → s.begun = [] → s.rows.length = 3 → s.version = i → Obj CR CM CC CV CH CL i p 3 (verU CV p s) (.v s.version (absR s.rows))
  | h (s : Cha) (live : List (Int × Int)) : ChOk s live → s.inside = [] → s.links.length ≤ 1 + i → Obj CR CM CC CV CH CL i p 4 (chaU CH CL p s) (.h (live.map (·.2)) s.era (s.waits.map (·.2)))
end La
namespace La
open PySem L2 Sy
local macro_rules | `(tactic| walk_at "fl") => `(tactic| first | assumption | exact stF_hands | exact stF_worth | exact stF_cells | exact stF_made | exact StX.f1 (by assumption) | exact StX.f2 (by assumption) | exact StX.f3 (by assumption) | exact StX.f4 (by assumption) | exact StX.f5 (by assumption) | exact StX.f6 (by assumption) | exact StX.f7 (by assumption) | exact StX.f8 (by assumption) | exact StX.f9 (by assumption))
local macro_rules | `(tactic| walk_at "fsl") => `(tactic| first | assumption | exact StX.fl (by assumption))
local macro_rules | `(tactic| walk_at "put") => `(tactic| first | exact stF_put_made | exact stF_put_cells | exact stF_put_worth | exact stF_put_hands)
local macro_rules | `(tactic| walk_at "fl") => `(tactic| first | assumption | exact stF_hands | exact stF_worth | exact stF_cells | exact stF_made | exact rd_era | exact rd_inside | exact rd_saw | exact rd_waits | exact rd_m_enter | exact rd_m_look_in | exact rd_m_leave | exact rd_m_look | exact rd_m_read | exact rd_m_go_on | exact rd_m_round_now | exact rd_m_hands_in | exact StX.f1 rdX_ok | exact StX.f2 rdX_ok | exact StX.f3 rdX_ok | exact StX.f4 rdX_ok | exact StX.f5 rdX_ok | exact StX.f6 rdX_ok | exact StX.f7 rdX_ok | exact StX.f8 rdX_ok | exact StX.f9 rdX_ok)
local macro_rules | `(tactic| walk_at "put") => `(tactic| first | exact rd_put_era | exact rd_put_inside | exact rd_put_saw | exact rd_put_waits)
local macro_rules | `(tactic| walk_at "fsl") => `(tactic| first | assumption | exact StX.fl rdX_ok)
local macro_rules | `(tactic| walk_at "fl") => `(tactic| first | assumption | exact stF_hands | exact stF_worth | exact stF_cells | exact stF_made | exact mk_marks | exact mk_waits | exact mk_m_look_mark | exact mk_m_state_of | exact mk_m_fetch | exact mk_m_set_mark | exact mk_m_sure | exact mk_m_read | exact mk_m_clear_mark | exact mk_m_marked | exact mk_m_sweep | exact StX.f1 mkX_ok | exact StX.f2 mkX_ok | exact StX.f3 mkX_ok | exact StX.f4 mkX_ok | exact StX.f5 mkX_ok | exact StX.f6 mkX_ok | exact StX.f7 mkX_ok | exact StX.f8 mkX_ok | exact StX.f9 mkX_ok)
local macro_rules | `(tactic| walk_at "put") => `(tactic| first | exact mk_put_marks | exact mk_put_waits | exact stF_put_made | exact stF_put_cells | exact stF_put_worth | exact stF_put_hands)
local macro_rules | `(tactic| walk_at "fsl") => `(tactic| first | assumption | exact StX.fl mkX_ok)
local macro_rules | `(tactic| walk_at "fl") => `(tactic| first | assumption | exact stF_hands | exact stF_worth | exact stF_cells | exact stF_made | exact ct_held | exact ct_m_count_of | exact ct_m_hold | exact ct_m_look_held | exact ct_m_read | exact ct_m_drop | exact ct_m_loose | exact ct_m_holds | exact StX.f1 ctX_ok | exact StX.f2 ctX_ok | exact StX.f3 ctX_ok | exact StX.f4 ctX_ok | exact StX.f5 ctX_ok | exact StX.f6 ctX_ok | exact StX.f7 ctX_ok | exact StX.f8 ctX_ok | exact StX.f9 ctX_ok)
local macro_rules | `(tactic| walk_at "put") => `(tactic| first | exact ct_put_held | exact stF_put_made | exact stF_put_cells | exact stF_put_worth | exact stF_put_hands)
local macro_rules | `(tactic| walk_at "fsl") => `(tactic| first | assumption | exact StX.fl ctX_ok)
local macro_rules | `(tactic| walk_at "fl") => `(tactic| first | assumption | exact ve_hands | exact ve_rows | exact ve_version | exact ve_begun | exact ve_asked | kernel_rfl)
local macro_rules | `(tactic| walk_at "put") => `(tactic| first | exact ve_put_hands | exact ve_put_rows | exact ve_put_version | exact ve_put_begun | exact ve_put_asked | exact ve_p1 | exact ve_p2 | exact ve_p3 | exact ve_p4 | exact ve_p5)
local macro_rules | `(tactic| walk_at "fsl") => `(tactic| first | assumption | exact ve_len | (show 0 < 1000; decide) | (show 1 < 1000; decide) | (show 2 < 1000; decide) | (show 3 < 1000; decide) | (show 4 < 1000; decide))
local macro_rules | `(tactic| walk_at "fl") => `(tactic| first | assumption | exact lk_key | exact lk_after | kernel_rfl)
local macro_rules | `(tactic| walk_at "put") => `(tactic| first | exact lk_put_key | exact lk_put_after | exact lk_p1 | exact lk_p2)
local macro_rules | `(tactic| walk_at "fsl") => `(tactic| first | assumption | exact lk_len | (show 0 < 1000; decide) | (show 1 < 1000; decide))
local macro_rules | `(tactic| walk_at "fl") => `(tactic| first | assumption | exact ch_hands | exact ch_links | exact ch_made | exact ch_era | exact ch_inside | exact ch_at | exact ch_waits | kernel_rfl)
local macro_rules | `(tactic| walk_at "put") => `(tactic| first | exact ch_put_hands | exact ch_put_links | exact ch_put_made | exact ch_put_era | exact ch_put_inside | exact ch_put_at | exact ch_put_waits | exact ch_p1 | exact ch_p2 | exact ch_p3 | exact ch_p4 | exact ch_p5 | exact ch_p6 | exact ch_p7)
local macro_rules | `(tactic| walk_at "fsl") => `(tactic| first | assumption | exact ch_len | (show 0 < 1000; decide) | (show 1 < 1000; decide) | (show 2 < 1000; decide) | (show 3 < 1000; decide) | (show 4 < 1000; decide) | (show 5 < 1000; decide) | (show 6 < 1000; decide))
/-! ### k22: objects are made, deeds are told -/
section
variable {H : Hp} {L : List U} {p q r s : Addr × HO}
theorem gl2 (h : Has H ([p] :: [q] :: L)) : Has H ([p, q] :: L) := Has.glue h
theorem gl3 (h : Has H ([p] :: [q] :: [r] :: L)) : Has H ([p, q, r] :: L) := Has.glue2 h
end
theorem use_keptR {C p : Addr} {r : Rnd} {L R : List U} {H : Hp} {Q : VK} {E : XK} (hh : Has H L) (hs : Sub (rndU C p r :: R) L) (ok : r.sto.ok) (hv : r.sto.vals.length < 64) (q : ∀ d H', Has H' ([(d, .lst (r.sto.kept.map V.int))] :: rndU C p r :: R) → Q (.ref d) H') : sp_kept C [.ref p] H Q E :=
  ⟨p, _, r.sto, _, rfl, rnd_two.mp (hh.sub hs), rdX_ok, ok, hv, fun d H' h => q d H' ((rnd_two.mpr (h.sub (Sub.p1 (Sub.p1 Sub.rf)))).sub (Sub.p1 Sub.rf))⟩
theorem use_nowR {C p : Addr} {r : Rnd} {L R : List U} {H : Hp} {Q : VK} {E : XK} (hh : Has H L) (hs : Sub (rndU C p r :: R) L) (ok : r.sto.ok) (q : ∀ d H', Has H' ([(d, .lst (r.sto.now.map V.int))] :: rndU C p r :: R) → Q (.ref d) H') : sp_now C [.ref p] H Q E :=
  ⟨p, _, r.sto, _, rfl, rnd_two.mp (hh.sub hs), rdX_ok, ok, fun d H' h => q d H' ((rnd_two.mpr (h.sub (Sub.p1 (Sub.p1 Sub.rf)))).sub (Sub.p1 Sub.rf))⟩
theorem use_keptM {C p : Addr} {r : Mrk} {L R : List U} {H : Hp} {Q : VK} {E : XK} (hh : Has H L) (hs : Sub (mrkU C p r :: R) L) (ok : r.sto.ok) (hv : r.sto.vals.length < 64) (q : ∀ d H', Has H' ([(d, .lst (r.sto.kept.map V.int))] :: mrkU C p r :: R) → Q (.ref d) H') : sp_kept C [.ref p] H Q E :=
  ⟨p, _, r.sto, _, rfl, mrk_two.mp (hh.sub hs), mkX_ok, ok, hv, fun d H' h => q d H' ((mrk_two.mpr (h.sub (Sub.p1 (Sub.p1 Sub.rf)))).sub (Sub.p1 Sub.rf))⟩
theorem use_keptC {C p : Addr} {r : Cnt} {L R : List U} {H : Hp} {Q : VK} {E : XK} (hh : Has H L) (hs : Sub (cntU C p r :: R) L) (ok : r.sto.ok) (hv : r.sto.vals.length < 64) (q : ∀ d H', Has H' ([(d, .lst (r.sto.kept.map V.int))] :: cntU C p r :: R) → Q (.ref d) H') : sp_kept C [.ref p] H Q E :=
  ⟨p, _, r.sto, _, rfl, cnt_two.mp (hh.sub hs), ctX_ok, ok, hv, fun d H' h => q d H' ((cnt_two.mpr (h.sub (Sub.p1 (Sub.p1 Sub.rf)))).sub (Sub.p1 Sub.rf))⟩
def sp__law_made (CR CM CC CV CH CL : Addr) : Sp := fun vs H Q _ => ∃ (kind : Int) (R : List U), vs = [.int kind] ∧ 0 ≤ kind ∧ kind < 5 ∧ Has H R ∧ ∀ p u H', Obj CR CM CC CV CH CL 0 p kind u (fresh kind) → Has H' (u :: R) → Q (.ref p) H'
theorem pure__law_made {K : PySem.W.Frag} {CR CM CC CV CH CL : Addr} {vs : List V} {H : Hp} {Q : VK} {E : XK} (h : sp__law_made CR CM CC CV CH CL vs H Q E) :
    t__law_made K CR CM CC CV CH (sp_rinit CR) (sp_minit CM) (sp_cinit CC) (sp_vinit CV) (sp_chinit CH CL) ⟨fun _ H' => Q .non H', Q, fun _ _ => False, fun _ _ => False⟩ (start ["kind"] vs) H := by
  obtain ⟨kind, R, rfl, k0, k5, hh, q⟩ := h
  unfold t__law_made
  walk_at "go"
  refine ifD (fun e => ?_) (fun e0 => ?_)
  · subst e
    walk_at "go"
    rename_i p dx H1 h1
    refine ⟨p, dx, 2, 2, _, rfl, h1, by decide, by decide, by decide, by decide, fun w c ia sa wa H2 h2 => ⟨rfl, ?_⟩⟩
    exact q p _ H2 (Obj.r _ (Rnd.new_wf (by decide) (by decide) (by decide)) rfl rfl rfl rfl rfl) h2
  walk_at "go"
  refine ifD (fun e => ?_) (fun e1 => ?_)
  · subst e
    walk_at "go"
    rename_i p dx H1 h1
    refine ⟨p, dx, 2, 2, _, rfl, h1, by decide, by decide, by decide, by decide, fun w c ma wa H2 h2 => ⟨rfl, ?_⟩⟩
    exact q p _ H2 (Obj.m _ (Mrk.new_wf (by decide) (by decide) (by decide)) rfl rfl rfl (fun q hq => absurd hq List.not_mem_nil)) h2
  walk_at "go"
  refine ifD (fun e => ?_) (fun e2 => ?_)
  · subst e
    walk_at "go"
    rename_i p dx H1 h1
    refine ⟨p, dx, 2, 2, _, rfl, h1, by decide, by decide, by decide, by decide, fun w c ha H2 h2 => ⟨rfl, ?_⟩⟩
    exact q p _ H2 (Obj.c _ (Cnt.new_wf (by decide) (by decide)) rfl rfl rfl (Nat.le_refl _)) h2
  walk_at "go"
  refine ifD (fun e => ?_) (fun e3 => ?_)
  · subst e
    walk_at "go"
    rename_i p dx H1 h1
    refine ⟨p, dx, 2, 3, _, rfl, h1, by decide, by decide, by decide, by decide, fun s H2 v1 v2 v3 v4 v5 v6 h2 => ⟨rfl, ?_⟩⟩
    have hl : s.rows.length = 3 := by
      have := congrArg List.length v5
      unfold absR at this
      rw [List.length_map, List.length_replicate] at this
      exact this
    have vo : VOk (absR s.rows) s.version := by
      rw [v5, v2]
      exact ⟨fun r hr => by rw [List.eq_of_mem_replicate hr]; exact List.pairwise_singleton _ _, fun r hr q hq => by rw [List.eq_of_mem_replicate hr] at hq; rw [List.mem_singleton.mp hq]; exact Int.le_refl _, fun r hr => by rw [List.eq_of_mem_replicate hr]; simp⟩
    have ob : Obj CR CM CC CV CH CL 0 p 3 (verU CV p s) (.v s.version (absR s.rows)) := Obj.v s v6 vo v3 hl v2
    rw [v2, v5] at ob
    exact q p _ H2 ob h2
  have e4 : kind = 4 := by omega
  subst e4
  walk_at "go"
  rename_i p dx H1 h1
  refine ⟨p, dx, 2, _, rfl, h1, by decide, by decide, fun la ia aa wa x xd H2 h2 => ⟨rfl, ?_⟩⟩
  exact q p _ H2 (Obj.h _ [] ChOk.zero rfl (Nat.le_refl _)) h2
end La
namespace La
open PySem L2 Sy
local macro_rules | `(tactic| walk_at "fl") => `(tactic| first | assumption | exact stF_hands | exact stF_worth | exact stF_cells | exact stF_made | exact StX.f1 (by assumption) | exact StX.f2 (by assumption) | exact StX.f3 (by assumption) | exact StX.f4 (by assumption) | exact StX.f5 (by assumption) | exact StX.f6 (by assumption) | exact StX.f7 (by assumption) | exact StX.f8 (by assumption) | exact StX.f9 (by assumption))
local macro_rules | `(tactic| walk_at "fsl") => `(tactic| first | assumption | exact StX.fl (by assumption))
local macro_rules | `(tactic| walk_at "put") => `(tactic| first | exact stF_put_made | exact stF_put_cells | exact stF_put_worth | exact stF_put_hands)
local macro_rules | `(tactic| walk_at "fl") => `(tactic| first | assumption | exact stF_hands | exact stF_worth | exact stF_cells | exact stF_made | exact rd_era | exact rd_inside | exact rd_saw | exact rd_waits | exact rd_m_enter | exact rd_m_look_in | exact rd_m_leave | exact rd_m_look | exact rd_m_read | exact rd_m_go_on | exact rd_m_round_now | exact rd_m_hands_in | exact StX.f1 rdX_ok | exact StX.f2 rdX_ok | exact StX.f3 rdX_ok | exact StX.f4 rdX_ok | exact StX.f5 rdX_ok | exact StX.f6 rdX_ok | exact StX.f7 rdX_ok | exact StX.f8 rdX_ok | exact StX.f9 rdX_ok)
local macro_rules | `(tactic| walk_at "put") => `(tactic| first | exact rd_put_era | exact rd_put_inside | exact rd_put_saw | exact rd_put_waits)
local macro_rules | `(tactic| walk_at "fsl") => `(tactic| first | assumption | exact StX.fl rdX_ok)
local macro_rules | `(tactic| walk_at "fl") => `(tactic| first | assumption | exact stF_hands | exact stF_worth | exact stF_cells | exact stF_made | exact mk_marks | exact mk_waits | exact mk_m_look_mark | exact mk_m_state_of | exact mk_m_fetch | exact mk_m_set_mark | exact mk_m_sure | exact mk_m_read | exact mk_m_clear_mark | exact mk_m_marked | exact mk_m_sweep | exact StX.f1 mkX_ok | exact StX.f2 mkX_ok | exact StX.f3 mkX_ok | exact StX.f4 mkX_ok | exact StX.f5 mkX_ok | exact StX.f6 mkX_ok | exact StX.f7 mkX_ok | exact StX.f8 mkX_ok | exact StX.f9 mkX_ok)
local macro_rules | `(tactic| walk_at "put") => `(tactic| first | exact mk_put_marks | exact mk_put_waits | exact stF_put_made | exact stF_put_cells | exact stF_put_worth | exact stF_put_hands)
local macro_rules | `(tactic| walk_at "fsl") => `(tactic| first | assumption | exact StX.fl mkX_ok)
local macro_rules | `(tactic| walk_at "fl") => `(tactic| first | assumption | exact stF_hands | exact stF_worth | exact stF_cells | exact stF_made | exact ct_held | exact ct_m_count_of | exact ct_m_hold | exact ct_m_look_held | exact ct_m_read | exact ct_m_drop | exact ct_m_loose | exact ct_m_holds | exact StX.f1 ctX_ok | exact StX.f2 ctX_ok | exact StX.f3 ctX_ok | exact StX.f4 ctX_ok | exact StX.f5 ctX_ok | exact StX.f6 ctX_ok | exact StX.f7 ctX_ok | exact StX.f8 ctX_ok | exact StX.f9 ctX_ok)
local macro_rules | `(tactic| walk_at "put") => `(tactic| first | exact ct_put_held | exact stF_put_made | exact stF_put_cells | exact stF_put_worth | exact stF_put_hands)
local macro_rules | `(tactic| walk_at "fsl") => `(tactic| first | assumption | exact StX.fl ctX_ok)
local macro_rules | `(tactic| walk_at "fl") => `(tactic| first | assumption | exact ve_hands | exact ve_rows | exact ve_version | exact ve_begun | exact ve_asked | kernel_rfl)
local macro_rules | `(tactic| walk_at "put") => `(tactic| first | exact ve_put_hands | exact ve_put_rows | exact ve_put_version | exact ve_put_begun | exact ve_put_asked | exact ve_p1 | exact ve_p2 | exact ve_p3 | exact ve_p4 | exact ve_p5)
local macro_rules | `(tactic| walk_at "fsl") => `(tactic| first | assumption | exact ve_len | (show 0 < 1000; decide) | (show 1 < 1000; decide) | (show 2 < 1000; decide) | (show 3 < 1000; decide) | (show 4 < 1000; decide))
local macro_rules | `(tactic| walk_at "fl") => `(tactic| first | assumption | exact lk_key | exact lk_after | kernel_rfl)
local macro_rules | `(tactic| walk_at "put") => `(tactic| first | exact lk_put_key | exact lk_put_after | exact lk_p1 | exact lk_p2)
local macro_rules | `(tactic| walk_at "fsl") => `(tactic| first | assumption | exact lk_len | (show 0 < 1000; decide) | (show 1 < 1000; decide))
local macro_rules | `(tactic| walk_at "fl") => `(tactic| first | assumption | exact ch_hands | exact ch_links | exact ch_made | exact ch_era | exact ch_inside | exact ch_at | exact ch_waits | kernel_rfl)
local macro_rules | `(tactic| walk_at "put") => `(tactic| first | exact ch_put_hands | exact ch_put_links | exact ch_put_made | exact ch_put_era | exact ch_put_inside | exact ch_put_at | exact ch_put_waits | exact ch_p1 | exact ch_p2 | exact ch_p3 | exact ch_p4 | exact ch_p5 | exact ch_p6 | exact ch_p7)
local macro_rules | `(tactic| walk_at "fsl") => `(tactic| first | assumption | exact ch_len | (show 0 < 1000; decide) | (show 1 < 1000; decide) | (show 2 < 1000; decide) | (show 3 < 1000; decide) | (show 4 < 1000; decide) | (show 5 < 1000; decide) | (show 6 < 1000; decide))
/-! ### k22: a deed at an object of each kind -/
abbrev TellT (K : PySem.W.Frag) (CR CM CC CV CH CL : Addr) : TS :=
  t__law_tell K CR CM CC CV CH (sp_go_on CR) (sp_now CR) (sp_kept CR) (sp_swapR CR) (sp_kept CM) (sp_sweep CM) (sp_marked CM) (sp_swapM CM) (sp_set_mark CM) (sp_fetch CM) (sp_kept CC) (sp_holds CC) (sp_swapC CC) (sp_hold CC) (sp_version_now CV) (sp_vtrim CV) (sp_vkept CV) (sp_vnow CV) (sp_vwrite CV) (sp_chgo CH CL) (sp_chlen CH CL) (sp_chout CH CL) (sp_keys_in CH CL) (sp_chput CH CL)
/-- what is wanted behind a deed -/
def Told (CR CM CC CV CH CL : Addr) (i : Nat) (p : Addr) (kind : Int) (a : A5) (x : Int) (R : List U) (Q : VK) : Prop :=
  ∀ u' t ti B H', Obj CR CM CC CV CH CL (i + 1) p kind u' (tell a x).1 → TiAll B ti (tell a x).2 → Has H' (u' :: [(t, .lst (ti.map TI.v))] :: tiU ti :: B :: R) → Q (.ref t) H'
section
variable {K : PySem.W.Frag} {CR CM CC CV CH CL p : Addr} {i : Nat} {x : Int} {R : List U} {H : Hp} {Q : VK} {nx bk ct : St → Hp → Prop}
theorem tell_R {r : Rnd} (w : r.wf) (e1 : r.sto.hands = 2) (e2 : r.sto.cells.length = 2) (e3 : r.sto.vals.length = 2 + i) (e4 : r.inside = []) (e5 : r.saw = []) (hi : i < 14) (x0 : 0 ≤ x) (x9 : x ≤ 999) (hh : Has H (rndU CR p r :: R))
    (q : Told CR CM CC CV CH CL i p 0 (.r r.sto.er r.era r.waits) x R Q) : TellT K CR CM CC CV CH CL ⟨nx, Q, bk, ct⟩ (start ["kind", "some", "what"] [.int 0, .ref p, .int x]) H := by
  have w1 := w.swap (v := x) (i := 0) (by decide) (by omega) (by omega)
  have a1 : (r.swap 0 x).sto.vals.length = 2 + (i + 1) := by show (r.sto.vals ++ [x]).length = _; rw [List.length_append]; show r.sto.vals.length + 1 = _; omega
  have a2 : (r.swap 0 x).inside = [] := e4
  have a3 : (r.swap 0 x).saw = [] := e5
  have a4 : (r.swap 0 x).sto.cells.length = 2 := by show (r.sto.cells.set _ _).length = _; rw [List.length_set]; exact e2
  have a5 : (r.swap 0 x).sto.hands = 2 := e1
  have hT : tell (.r r.sto.er r.era r.waits) x = (.r (r.swap 0 x).next.sto.er (r.swap 0 x).next.era (r.swap 0 x).next.waits, [.int (r.sto.cells.getD (0 : Int).toNat 0), .nus (r.swap 0 x).sto.kept, .nus (r.swap 0 x).sto.now, .nus (srtI (r.swap 0 x).gone)]) := rfl
  unfold Told at q
  rw [hT] at q
  clear hT
  unfold TellT t__law_tell
  walk_at "go"
  refine ifD (fun _ => ?_) (fun h => absurd rfl h)
  walk_at "go"
  refine hsw_R p r 0 x _ _ _ hh ⟨w, by omega⟩ (by decide) (by omega) x0 x9 fun H1 h1 => ?_
  generalize r.sto.cells.getD (0 : Int).toNat 0 = t0 at *
  clear hh w e1 e2 e3 e4 e5
  generalize r.swap 0 x = r1 at *
  have fr : r1.free := fun q hq => by rw [a2] at hq; cases hq
  have kl := w1.ok.klen
  have cl := w1.l2
  walk_at "go"
  refine use_keptR h1 Sub.rf w1.ok (by omega) fun d1 H2 h2 => ?_
  clear h1
  walk_at "go"
  refine use_nowR h2 (show Sub (rndU CR p r1 :: _) _ by walk_at "sub") w1.ok fun d2 H3 h3 => ?_
  clear h2
  walk_at "go"
  refine ⟨p, r1, _, rfl, h3.sub (show Sub (rndU CR p r1 :: _) _ by walk_at "sub"), w1, fun nf => absurd fr nf, fun _ ys d3 H4 y1 y2 h4 => ?_⟩
  have ey := srtI_eq y1 y2
  have yl : ys.length ≤ 1000 := by rw [y1.length_eq]; exact Nat.le_trans (List.length_filter_le _ _) (by rw [List.length_map]; exact cl)
  clear h3
  walk_at "go"
  rename_i t H5 h5
  clear h4
  refine q _ t [.fl (.int t0), .ls d1 (r1.sto.kept.map V.int), .ls d2 (r1.sto.now.map V.int), .ls d3 (ys.map V.int)] [] H5 (Obj.r _ w1.next a5 a4 a1 a2 a3) ?_ ?_
  · rw [← ey]
    exact .cons (.int _) (.cons (.nus _ _ (by omega)) (.cons (.nus _ _ (by show (r1.sto.cells.map _).length ≤ _; rw [List.length_map]; omega)) (.cons (.nus _ _ yl) .nil)))
  · have h6 := gl3 (h5.sub (show Sub ([(d1, .lst (r1.sto.kept.map V.int))] :: [(d2, .lst (r1.sto.now.map V.int))] :: [(d3, .lst (ys.map V.int))] :: rndU CR p r1.next :: [(t, _)] :: R) _ by walk_at "sub"))
    have h7 := Has.nilU.mpr h6
    exact h7.sub (show Sub (rndU CR p r1.next :: [(t, _)] :: _ :: [] :: R) _ by walk_at "sub")
/-- only one key -/
theorem pu_only {κ β : Type} [DecidableEq κ] {m : List (κ × β)} {k : κ} (nd : (m.map (·.1)).Nodup) (h : ∀ q ∈ m, q.1 = k) (b : β) : pu m k b = [(k, b)] := by
  match m, nd, h with
  | [], _, _ => rfl
  | [(j, b0)], _, h =>
    have e : j = k := h (j, b0) (List.mem_cons.mpr (.inl rfl))
    subst e
    unfold pu fd
    simp
  | q :: q2 :: r, nd, h =>
    have e1 := h q (by simp)
    have e2 := h q2 (by simp)
    rw [List.map_cons, List.map_cons, e1, e2] at nd
    simp at nd
theorem tell_M {r : Mrk} (w : r.wf) (e1 : r.sto.hands = 2) (e2 : r.sto.cells.length = 2) (e3 : r.sto.vals.length = 2 + i) (e4 : ∀ q ∈ r.marks, q.1 = (0, 1)) (hi : i < 14) (x0 : 0 ≤ x) (x9 : x ≤ 999) (hh : Has H (mrkU CM p r :: R))
    (q : Told CR CM CC CV CH CL i p 1 (.m r.sto.er r.waits) x R Q) : TellT K CR CM CC CV CH CL ⟨nx, Q, bk, ct⟩ (start ["kind", "some", "what"] [.int 1, .ref p, .int x]) H := by
  unfold TellT t__law_tell
  walk_at "go"
  refine ifD (fun h => absurd h (by decide)) (fun _ => ?_)
  walk_at "go"
  refine ifD (fun _ => ?_) (fun h => absurd rfl h)
  walk_at "go"
  refine ⟨p, r, 0, 1, 0, _, rfl, hh, w, by decide, by omega, by decide, by decide, by decide, by omega, fun a1 bag1 H1 w1 h1 => ?_⟩
  generalize ht : r.sto.cells.getD (0 : Int).toNat 0 = t0 at *
  have f1 : fd (r.mark 0 1 ⟨a1, "fetched", 0, t0⟩ bag1).marks (0, 1) = some ⟨a1, "fetched", 0, t0⟩ := by
    show fd (pu r.marks (0, 1) _) (0, 1) = _
    rw [fd_pu, if_pos rfl]
  have m1 : (r.mark 0 1 ⟨a1, "fetched", 0, t0⟩ bag1).marks = [((0, 1), ⟨a1, "fetched", 0, t0⟩)] := pu_only w.nd e4 _
  have b1 : (r.mark 0 1 ⟨a1, "fetched", 0, t0⟩ bag1).sto = r.sto := rfl
  have c1 : (r.mark 0 1 ⟨a1, "fetched", 0, t0⟩ bag1).waits = r.waits := rfl
  clear hh
  generalize r.mark 0 1 ⟨a1, "fetched", 0, t0⟩ bag1 = r1 at *
  walk_at "go"
  refine ⟨p, r1, 0, 1, _, _, rfl, h1, w1, by decide, by rw [b1]; omega, by decide, by decide, f1, rfl, fun a2 bag2 H2 w2 h2 => ?_⟩
  replace w2 : (r1.mark 0 1 ⟨a2, "set", 0, t0⟩ bag2).wf := w2
  replace h2 : Has H2 (mrkU CM p (r1.mark 0 1 ⟨a2, "set", 0, t0⟩ bag2) :: R) := h2
  have m2 : (r1.mark 0 1 ⟨a2, "set", 0, t0⟩ bag2).marks = [((0, 1), ⟨a2, "set", 0, t0⟩)] := pu_only w1.nd (by rw [m1]; intro q hq; rw [List.mem_singleton.mp hq]) _
  have b2 : (r1.mark 0 1 ⟨a2, "set", 0, t0⟩ bag2).sto = r.sto := b1
  have c2 : (r1.mark 0 1 ⟨a2, "set", 0, t0⟩ bag2).waits = r.waits := c1
  clear h1 w1 f1 m1 b1 c1
  generalize r1.mark 0 1 ⟨a2, "set", 0, t0⟩ bag2 = r2 at *
  clear r1
  walk_at "go"
  refine hsw_M p r2 0 x _ _ _ h2 ⟨w2, by rw [b2]; omega⟩ (by decide) (by rw [b2]; omega) x0 x9 fun H3 h3 => ?_
  rw [b2, ht]
  have w3 := w2.swap (v := x) (i := 0) (by decide) (by rw [b2]; omega) (by rw [b2]; omega)
  have m3 : (r2.swap 0 x).marks = [((0, 1), ⟨a2, "set", 0, t0⟩)] := m2
  have b3 : (r2.swap 0 x).sto = r.sto.swap 0 x := by show r2.sto.swap 0 x = _; rw [b2]
  have c3 : (r2.swap 0 x).waits = r.waits ++ [t0] := by show r2.waits ++ [r2.sto.cells.getD _ 0] = _; rw [c2, b2, ht]
  clear h2 w2 m2 b2 c2
  generalize r2.swap 0 x = r3 at *
  clear r2
  have be : bears r3.marks = [t0] := by
    rw [m3]
    unfold bears
    rw [List.filter_cons, if_pos (show (!decide (("set" : Str) = ("fetched" : Str))) = true by decide +kernel)]
    rfl
  have a1v : (r.sto.swap 0 x).vals.length = 2 + (i + 1) := by show (r.sto.vals ++ [x]).length = _; rw [List.length_append]; show r.sto.vals.length + 1 = _; omega
  have a4 : (r.sto.swap 0 x).cells.length = 2 := by show (r.sto.cells.set _ _).length = _; rw [List.length_set]; exact e2
  walk_at "go"
  refine ⟨p, r3, _, rfl, h3, w3, fun ys d1 H4 y1 y2 h4 => ?_⟩
  have ey : ys = [t0] := rise_eq y1 (List.pairwise_singleton _ _) fun z => by rw [y2, be]
  subst ey
  clear h3 y1 y2
  walk_at "go"
  refine ⟨p, r3, _, rfl, h4.sub (show Sub (mrkU CM p r3 :: _) _ by walk_at "sub"), w3, fun zs d2 wa H5 z1 z2 h5 => ?_⟩
  have ez := srtI_eq z1 z2
  have hg : r3.gone = (r.waits ++ [t0]).filter fun z => !decide (z ∈ [t0]) := by unfold Mrk.gone; rw [be, c3]
  have hwl := w3.wl
  have zl : zs.length ≤ 1000 := by
    rw [z1.length_eq]
    have h1 : r3.gone.length ≤ r3.waits.length := List.length_filter_le _ _
    rw [b3, a1v] at hwl
    omega
  have w4 := w3.swept.at wa
  have b4 : (r3.swept.at wa).sto = (r.sto.swap 0 x).less ((r.waits ++ [t0]).filter fun z => !decide (z ∈ [t0])) := by show r3.sto.less r3.gone = _; rw [b3, hg]
  have c4 : (r3.swept.at wa).waits = (r.waits ++ [t0]).filter fun z => decide (z ∈ [t0]) := by show r3.waits.filter _ = _; rw [be, c3]
  have m4 : (r3.swept.at wa).marks = [((0, 1), ⟨a2, "set", 0, t0⟩)] := m3
  rw [hg] at ez
  clear h4 z1 z2 hwl
  generalize r3.swept.at wa = r4 at *
  have v4 : r4.sto.vals.length = 2 + (i + 1) := by rw [b4]; exact a1v
  have kl := w4.ok.klen
  walk_at "go"
  refine use_keptM h5 (show Sub (mrkU CM p r4 :: _) _ by walk_at "sub") w4.ok (by omega) fun d3 H6 h6 => ?_
  clear h5
  walk_at "go"
  rename_i t H7 h7
  clear h6
  have hT : tell (.m r.sto.er r.waits) x = (.m r4.sto.er r4.waits, [.int t0, .non, .int t0, .nus [t0], .nus zs, .nus r4.sto.kept]) := by
    rw [b4, c4, ez, ← ht]
    rfl
  unfold Told at q
  rw [hT] at q
  refine q _ t [.fl (.int t0), .fl .non, .fl (.int t0), .ls d1 (([t0] : List Int).map V.int), .ls d2 (zs.map V.int), .ls d3 (r4.sto.kept.map V.int)] [] H7 (Obj.m r4 w4 (by rw [b4]; exact e1) (by rw [b4]; exact a4) v4 (by rw [m4]; intro q hq; rw [List.mem_singleton.mp hq])) ?_ ?_
  · exact .cons (.int _) (.cons .non (.cons (.int _) (.cons (.nus _ _ (by show 1 ≤ 1000; decide)) (.cons (.nus _ _ zl) (.cons (.nus _ _ (by omega)) .nil)))))
  · have h8 := gl3 (h7.sub (show Sub ([(d1, .lst (([t0] : List Int).map V.int))] :: [(d2, .lst (zs.map V.int))] :: [(d3, .lst (r4.sto.kept.map V.int))] :: mrkU CM p r4 :: [(t, _)] :: R) _ by walk_at "sub"))
    have h9 := Has.nilU.mpr h8
    exact h9.sub (show Sub (mrkU CM p r4 :: [(t, _)] :: _ :: [] :: R) _ by walk_at "sub")
end
end La
namespace La
open PySem L2 Sy
local macro_rules | `(tactic| walk_at "fl") => `(tactic| first | assumption | exact stF_hands | exact stF_worth | exact stF_cells | exact stF_made | exact StX.f1 (by assumption) | exact StX.f2 (by assumption) | exact StX.f3 (by assumption) | exact StX.f4 (by assumption) | exact StX.f5 (by assumption) | exact StX.f6 (by assumption) | exact StX.f7 (by assumption) | exact StX.f8 (by assumption) | exact StX.f9 (by assumption))
local macro_rules | `(tactic| walk_at "fsl") => `(tactic| first | assumption | exact StX.fl (by assumption))
local macro_rules | `(tactic| walk_at "put") => `(tactic| first | exact stF_put_made | exact stF_put_cells | exact stF_put_worth | exact stF_put_hands)
local macro_rules | `(tactic| walk_at "fl") => `(tactic| first | assumption | exact stF_hands | exact stF_worth | exact stF_cells | exact stF_made | exact rd_era | exact rd_inside | exact rd_saw | exact rd_waits | exact rd_m_enter | exact rd_m_look_in | exact rd_m_leave | exact rd_m_look | exact rd_m_read | exact rd_m_go_on | exact rd_m_round_now | exact rd_m_hands_in | exact StX.f1 rdX_ok | exact StX.f2 rdX_ok | exact StX.f3 rdX_ok | exact StX.f4 rdX_ok | exact StX.f5 rdX_ok | exact StX.f6 rdX_ok | exact StX.f7 rdX_ok | exact StX.f8 rdX_ok | exact StX.f9 rdX_ok)
local macro_rules | `(tactic| walk_at "put") => `(tactic| first | exact rd_put_era | exact rd_put_inside | exact rd_put_saw | exact rd_put_waits)
local macro_rules | `(tactic| walk_at "fsl") => `(tactic| first | assumption | exact StX.fl rdX_ok)
local macro_rules | `(tactic| walk_at "fl") => `(tactic| first | assumption | exact stF_hands | exact stF_worth | exact stF_cells | exact stF_made | exact mk_marks | exact mk_waits | exact mk_m_look_mark | exact mk_m_state_of | exact mk_m_fetch | exact mk_m_set_mark | exact mk_m_sure | exact mk_m_read | exact mk_m_clear_mark | exact mk_m_marked | exact mk_m_sweep | exact StX.f1 mkX_ok | exact StX.f2 mkX_ok | exact StX.f3 mkX_ok | exact StX.f4 mkX_ok | exact StX.f5 mkX_ok | exact StX.f6 mkX_ok | exact StX.f7 mkX_ok | exact StX.f8 mkX_ok | exact StX.f9 mkX_ok)
local macro_rules | `(tactic| walk_at "put") => `(tactic| first | exact mk_put_marks | exact mk_put_waits | exact stF_put_made | exact stF_put_cells | exact stF_put_worth | exact stF_put_hands)
local macro_rules | `(tactic| walk_at "fsl") => `(tactic| first | assumption | exact StX.fl mkX_ok)
local macro_rules | `(tactic| walk_at "fl") => `(tactic| first | assumption | exact stF_hands | exact stF_worth | exact stF_cells | exact stF_made | exact ct_held | exact ct_m_count_of | exact ct_m_hold | exact ct_m_look_held | exact ct_m_read | exact ct_m_drop | exact ct_m_loose | exact ct_m_holds | exact StX.f1 ctX_ok | exact StX.f2 ctX_ok | exact StX.f3 ctX_ok | exact StX.f4 ctX_ok | exact StX.f5 ctX_ok | exact StX.f6 ctX_ok | exact StX.f7 ctX_ok | exact StX.f8 ctX_ok | exact StX.f9 ctX_ok)
local macro_rules | `(tactic| walk_at "put") => `(tactic| first | exact ct_put_held | exact stF_put_made | exact stF_put_cells | exact stF_put_worth | exact stF_put_hands)
local macro_rules | `(tactic| walk_at "fsl") => `(tactic| first | assumption | exact StX.fl ctX_ok)
local macro_rules | `(tactic| walk_at "fl") => `(tactic| first | assumption | exact ve_hands | exact ve_rows | exact ve_version | exact ve_begun | exact ve_asked | kernel_rfl)
local macro_rules | `(tactic| walk_at "put") => `(tactic| first | exact ve_put_hands | exact ve_put_rows | exact ve_put_version | exact ve_put_begun | exact ve_put_asked | exact ve_p1 | exact ve_p2 | exact ve_p3 | exact ve_p4 | exact ve_p5)
local macro_rules | `(tactic| walk_at "fsl") => `(tactic| first | assumption | exact ve_len | (show 0 < 1000; decide) | (show 1 < 1000; decide) | (show 2 < 1000; decide) | (show 3 < 1000; decide) | (show 4 < 1000; decide))
local macro_rules | `(tactic| walk_at "fl") => `(tactic| first | assumption | exact lk_key | exact lk_after | kernel_rfl)
local macro_rules | `(tactic| walk_at "put") => `(tactic| first | exact lk_put_key | exact lk_put_after | exact lk_p1 | exact lk_p2)
local macro_rules | `(tactic| walk_at "fsl") => `(tactic| first | assumption | exact lk_len | (show 0 < 1000; decide) | (show 1 < 1000; decide))
local macro_rules | `(tactic| walk_at "fl") => `(tactic| first | assumption | exact ch_hands | exact ch_links | exact ch_made | exact ch_era | exact ch_inside | exact ch_at | exact ch_waits | kernel_rfl)
local macro_rules | `(tactic| walk_at "put") => `(tactic| first | exact ch_put_hands | exact ch_put_links | exact ch_put_made | exact ch_put_era | exact ch_put_inside | exact ch_put_at | exact ch_put_waits | exact ch_p1 | exact ch_p2 | exact ch_p3 | exact ch_p4 | exact ch_p5 | exact ch_p6 | exact ch_p7)
local macro_rules | `(tactic| walk_at "fsl") => `(tactic| first | assumption | exact ch_len | (show 0 < 1000; decide) | (show 1 < 1000; decide) | (show 2 < 1000; decide) | (show 3 < 1000; decide) | (show 4 < 1000; decide) | (show 5 < 1000; decide) | (show 6 < 1000; decide))
/-! ### k22: deeds at counts, versions, chains -/
section
variable {K : PySem.W.Frag} {CR CM CC CV CH CL p : Addr} {i : Nat} {x : Int} {R : List U} {H : Hp} {Q : VK} {nx bk ct : St → Hp → Prop}
theorem cnt_er (r : Cnt) (x : Int) : (Cnt.swap ⟨r.sto.er, 0, r.held⟩ 0 x).sto = (r.swap 0 x).sto.er := by
  show (if r.hasd (r.sto.cells.getD (0 : Int).toNat 0) = true then r.sto.er.swap 0 x else (r.sto.er.swap 0 x).less [r.sto.cells.getD (0 : Int).toNat 0]) = Sto.er (if r.hasd (r.sto.cells.getD (0 : Int).toNat 0) = true then r.sto.swap 0 x else (r.sto.swap 0 x).less [r.sto.cells.getD (0 : Int).toNat 0])
  split <;> rfl
theorem tell_C {r : Cnt} (w : r.wf) (e1 : r.sto.hands = 2) (e2 : r.sto.cells.length = 2) (e3 : r.sto.vals.length = 2 + i) (e4 : r.held.length ≤ i) (hi : i < 14) (x0 : 0 ≤ x) (x9 : x ≤ 999) (hh : Has H (cntU CC p r :: R))
    (q : Told CR CM CC CV CH CL i p 2 (.c r.sto.er r.held) x R Q) : TellT K CR CM CC CV CH CL ⟨nx, Q, bk, ct⟩ (start ["kind", "some", "what"] [.int 2, .ref p, .int x]) H := by
  unfold TellT t__law_tell
  walk_at "go"
  refine ifD (fun h => absurd h (by decide)) (fun _ => ?_)
  walk_at "go"
  refine ifD (fun h => absurd h (by decide)) (fun _ => ?_)
  walk_at "go"
  refine ifD (fun _ => ?_) (fun h => absurd rfl h)
  walk_at "go"
  refine ⟨p, r, 1, 0, _, rfl, hh, by omega, by decide, by omega, by decide, by omega, fun H1 h1 => ?_⟩
  have htm : r.sto.cells.getD (0 : Int).toNat 0 ∈ r.sto.kept := w.ok.here _ (getD_mem (by show 0 < _; omega))
  generalize ht : r.sto.cells.getD (0 : Int).toNat 0 = t0 at *
  have hge : 1 ≤ (fd r.held (1, t0)).getD 0 + 1 := by
    cases hf : fd r.held (1, t0) with
    | none => decide
    | some b => have := w.ps _ (fd_mem hf); show 1 ≤ b + 1; have : 1 ≤ b := this; omega
  have w1 := w.hold (k := 1) (z := t0) (n := (fd r.held (1, t0)).getD 0 + 1) (by decide) (by omega) htm hge (by omega)
  have l1 := pu_len' r.held (1, t0) ((fd r.held (1, t0)).getD 0 + 1)
  have b1 : ({ r with held := pu r.held (1, t0) ((fd r.held (1, t0)).getD 0 + 1) } : Cnt).sto = r.sto := rfl
  have c1 : ({ r with held := pu r.held (1, t0) ((fd r.held (1, t0)).getD 0 + 1) } : Cnt).held = pu r.held (1, t0) ((fd r.held (1, t0)).getD 0 + 1) := rfl
  have hT : tell (.c r.sto.er r.held) x = (.c (Cnt.swap { r with held := pu r.held (1, t0) ((fd r.held (1, t0)).getD 0 + 1) } 0 x).sto.er (pu r.held (1, t0) ((fd r.held (1, t0)).getD 0 + 1)), [.int t0, .int t0, .prs (srtP (mine (pu r.held (1, t0) ((fd r.held (1, t0)).getD 0 + 1)) 1)), .nus (Cnt.swap { r with held := pu r.held (1, t0) ((fd r.held (1, t0)).getD 0 + 1) } 0 x).sto.kept]) := by
    have e := cnt_er { r with held := pu r.held (1, t0) ((fd r.held (1, t0)).getD 0 + 1) } x
    have e2 : (Cnt.swap ⟨r.sto.er, 0, pu r.held (1, t0) ((fd r.held (1, t0)).getD 0 + 1)⟩ 0 x).sto.kept = (Cnt.swap { r with held := pu r.held (1, t0) ((fd r.held (1, t0)).getD 0 + 1) } 0 x).sto.kept := (congrArg Sto.kept e).trans rfl
    rw [← e, ← e2, ← ht]
    rfl
  unfold Told at q
  rw [hT] at q
  clear hT hh
  generalize ({ r with held := pu r.held (1, t0) ((fd r.held (1, t0)).getD 0 + 1) } : Cnt) = r1 at *
  rw [← c1] at q l1
  walk_at "go"
  refine hsw_C p r1 0 x _ _ _ h1 ⟨w1, by rw [b1]; omega⟩ (by decide) (by rw [b1]; omega) x0 x9 fun H2 h2 => ?_
  rw [b1, ht]
  have w2 := w1.swap (j := 0) (v := x) (by decide) (by rw [b1]; omega) (by rw [b1]; omega)
  have c2 : (r1.swap 0 x).held = r1.held := rfl
  have v2 : (r1.swap 0 x).sto.vals.length = 2 + (i + 1) := by
    have : (r1.swap 0 x).sto.vals = r1.sto.vals ++ [x] := by unfold Cnt.swap; split <;> rfl
    rw [this, List.length_append, b1]; show r.sto.vals.length + 1 = _; omega
  have h2' : (r1.swap 0 x).sto.hands = 2 := by
    have : (r1.swap 0 x).sto.hands = r1.sto.hands := by unfold Cnt.swap; split <;> rfl
    rw [this, b1]; exact e1
  have k2 : (r1.swap 0 x).sto.cells.length = 2 := by
    have : (r1.swap 0 x).sto.cells = r1.sto.cells.set 0 (r1.sto.vals.length : Int) := by unfold Cnt.swap; split <;> rfl
    rw [this, List.length_set, b1]; exact e2
  rw [← c2] at q l1
  clear h1 w1 c1 c2 hge htm
  generalize r1.swap 0 x = r2 at *
  walk_at "go"
  refine ⟨p, r2, 1, _, rfl, h2, w2.nd, by omega, by decide, by rw [h2']; decide, fun ys d1 H3 y1 y2 h3 => ?_⟩
  have ey := srtP_eq y1 y2
  have yl : ys.length ≤ 1000 := by
    have : ys.length = (mine r2.held 1).length := by rw [← y1.length_eq, List.length_map]
    have h5 : (mine r2.held 1).length ≤ r2.held.length := by unfold mine; rw [List.length_map]; exact List.length_filter_le _ _
    omega
  have kl := w2.ok.klen
  clear h2 y1 y2
  walk_at "go"
  refine use_keptC h3 (show Sub (cntU CC p r2 :: _) _ by walk_at "sub") w2.ok (by omega) fun d2 H4 h4 => ?_
  clear h3
  walk_at "go"
  rename_i t H5 h5
  clear h4
  refine q _ t [.fl (.int t0), .fl (.int t0), .ls d1 (prR ys), .ls d2 (r2.sto.kept.map V.int)] (prU ys) H5 (Obj.c r2 w2 h2' k2 v2 (by omega)) ?_ ?_
  · rw [← ey]
    exact .cons (.int _) (.cons (.int _) (.cons (.prs _ _ yl fun c hc => hc) (.cons (.nus _ _ (by omega)) .nil)))
  · have h6 := gl2 (h5.sub (show Sub ([(d1, .lst (prR ys))] :: [(d2, .lst (r2.sto.kept.map V.int))] :: cntU CC p r2 :: [(t, _)] :: prU ys :: R) _ by walk_at "sub"))
    exact h6.sub (show Sub (cntU CC p r2 :: [(t, _)] :: _ :: prU ys :: R) _ by walk_at "sub")
end
end La
namespace La
open PySem L2 Sy
local macro_rules | `(tactic| walk_at "fl") => `(tactic| first | assumption | exact stF_hands | exact stF_worth | exact stF_cells | exact stF_made | exact StX.f1 (by assumption) | exact StX.f2 (by assumption) | exact StX.f3 (by assumption) | exact StX.f4 (by assumption) | exact StX.f5 (by assumption) | exact StX.f6 (by assumption) | exact StX.f7 (by assumption) | exact StX.f8 (by assumption) | exact StX.f9 (by assumption))
local macro_rules | `(tactic| walk_at "fsl") => `(tactic| first | assumption | exact StX.fl (by assumption))
local macro_rules | `(tactic| walk_at "put") => `(tactic| first | exact stF_put_made | exact stF_put_cells | exact stF_put_worth | exact stF_put_hands)
local macro_rules | `(tactic| walk_at "fl") => `(tactic| first | assumption | exact stF_hands | exact stF_worth | exact stF_cells | exact stF_made | exact rd_era | exact rd_inside | exact rd_saw | exact rd_waits | exact rd_m_enter | exact rd_m_look_in | exact rd_m_leave | exact rd_m_look | exact rd_m_read | exact rd_m_go_on | exact rd_m_round_now | exact rd_m_hands_in | exact StX.f1 rdX_ok | exact StX.f2 rdX_ok | exact StX.f3 rdX_ok | exact StX.f4 rdX_ok | exact StX.f5 rdX_ok | exact StX.f6 rdX_ok | exact StX.f7 rdX_ok | exact StX.f8 rdX_ok | exact StX.f9 rdX_ok)
local macro_rules | `(tactic| walk_at "put") => `(tactic| first | exact rd_put_era | exact rd_put_inside | exact rd_put_saw | exact rd_put_waits)
local macro_rules | `(tactic| walk_at "fsl") => `(tactic| first | assumption | exact StX.fl rdX_ok)
local macro_rules | `(tactic| walk_at "fl") => `(tactic| first | assumption | exact stF_hands | exact stF_worth | exact stF_cells | exact stF_made | exact mk_marks | exact mk_waits | exact mk_m_look_mark | exact mk_m_state_of | exact mk_m_fetch | exact mk_m_set_mark | exact mk_m_sure | exact mk_m_read | exact mk_m_clear_mark | exact mk_m_marked | exact mk_m_sweep | exact StX.f1 mkX_ok | exact StX.f2 mkX_ok | exact StX.f3 mkX_ok | exact StX.f4 mkX_ok | exact StX.f5 mkX_ok | exact StX.f6 mkX_ok | exact StX.f7 mkX_ok | exact StX.f8 mkX_ok | exact StX.f9 mkX_ok)
local macro_rules | `(tactic| walk_at "put") => `(tactic| first | exact mk_put_marks | exact mk_put_waits | exact stF_put_made | exact stF_put_cells | exact stF_put_worth | exact stF_put_hands)
local macro_rules | `(tactic| walk_at "fsl") => `(tactic| first | assumption | exact StX.fl mkX_ok)
local macro_rules | `(tactic| walk_at "fl") => `(tactic| first | assumption | exact stF_hands | exact stF_worth | exact stF_cells | exact stF_made | exact ct_held | exact ct_m_count_of | exact ct_m_hold | exact ct_m_look_held | exact ct_m_read | exact ct_m_drop | exact ct_m_loose | exact ct_m_holds | exact StX.f1 ctX_ok | exact StX.f2 ctX_ok | exact StX.f3 ctX_ok | exact StX.f4 ctX_ok | exact StX.f5 ctX_ok | exact StX.f6 ctX_ok | exact StX.f7 ctX_ok | exact StX.f8 ctX_ok | exact StX.f9 ctX_ok)
local macro_rules | `(tactic| walk_at "put") => `(tactic| first | exact ct_put_held | exact stF_put_made | exact stF_put_cells | exact stF_put_worth | exact stF_put_hands)
local macro_rules | `(tactic| walk_at "fsl") => `(tactic| first | assumption | exact StX.fl ctX_ok)
local macro_rules | `(tactic| walk_at "fl") => `(tactic| first | assumption | exact ve_hands | exact ve_rows | exact ve_version | exact ve_begun | exact ve_asked | kernel_rfl)
local macro_rules | `(tactic| walk_at "put") => `(tactic| first | exact ve_put_hands | exact ve_put_rows | exact ve_put_version | exact ve_put_begun | exact ve_put_asked | exact ve_p1 | exact ve_p2 | exact ve_p3 | exact ve_p4 | exact ve_p5)
local macro_rules | `(tactic| walk_at "fsl") => `(tactic| first | assumption | exact ve_len | (show 0 < 1000; decide) | (show 1 < 1000; decide) | (show 2 < 1000; decide) | (show 3 < 1000; decide) | (show 4 < 1000; decide))
local macro_rules | `(tactic| walk_at "fl") => `(tactic| first | assumption | exact lk_key | exact lk_after | kernel_rfl)
local macro_rules | `(tactic| walk_at "put") => `(tactic| first | exact lk_put_key | exact lk_put_after | exact lk_p1 | exact lk_p2)
local macro_rules | `(tactic| walk_at "fsl") => `(tactic| first | assumption | exact lk_len | (show 0 < 1000; decide) | (show 1 < 1000; decide))
local macro_rules | `(tactic| walk_at "fl") => `(tactic| first | assumption | exact ch_hands | exact ch_links | exact ch_made | exact ch_era | exact ch_inside | exact ch_at | exact ch_waits | kernel_rfl)
local macro_rules | `(tactic| walk_at "put") => `(tactic| first | exact ch_put_hands | exact ch_put_links | exact ch_put_made | exact ch_put_era | exact ch_put_inside | exact ch_put_at | exact ch_put_waits | exact ch_p1 | exact ch_p2 | exact ch_p3 | exact ch_p4 | exact ch_p5 | exact ch_p6 | exact ch_p7)
local macro_rules | `(tactic| walk_at "fsl") => `(tactic| first | assumption | exact ch_len | (show 0 < 1000; decide) | (show 1 < 1000; decide) | (show 2 < 1000; decide) | (show 3 < 1000; decide) | (show 4 < 1000; decide) | (show 5 < 1000; decide) | (show 6 < 1000; decide))
/-! ### k22: a deed at versions -/
section
variable {K : PySem.W.Frag} {CR CM CC CV CH CL p : Addr} {i : Nat} {x : Int} {R : List U} {H : Hp} {Q : VK} {nx bk ct : St → Hp → Prop}
theorem tell_V {s : Ver} (w : s.wf) (vo : VOk (absR s.rows) s.version) (e1 : s.begun = []) (e2 : s.rows.length = 3) (e3 : s.version = i) (hi : i < 14) (x0 : 0 ≤ x) (x9 : x ≤ 999) (hh : Has H (verU CV p s :: R))
    (q : Told CR CM CC CV CH CL i p 3 (.v s.version (absR s.rows)) x R Q) : TellT K CR CM CC CV CH CL ⟨nx, Q, bk, ct⟩ (start ["kind", "some", "what"] [.int 3, .ref p, .int x]) H := by
  unfold TellT t__law_tell
  walk_at "go"
  refine ifD (fun h => absurd h (by decide)) (fun _ => ?_)
  walk_at "go"
  refine ifD (fun h => absurd h (by decide)) (fun _ => ?_)
  walk_at "go"
  refine ifD (fun h => absurd h (by decide)) (fun _ => ?_)
  walk_at "go"
  refine ifD (fun _ => ?_) (fun h => absurd rfl h)
  walk_at "go"
  rename_i d4 H4 h4 d5 H5 h5
  clear hh h4
  refine ⟨p, d5, s, [(d4, (0, x))], _, rfl, h5.sub (show Sub (verU CV p s :: [(d5, .lst [.ref d4])] :: [(d4, .tup [.int 0, .int x])] :: R) _ by walk_at "sub"), w, by omega, ⟨by simp, by show 1 ≤ 50; decide, by simp, fun q hq => by rw [List.mem_singleton.mp hq]; exact ⟨Int.le_refl 0, by show (0 : Int) < s.rows.length; omega⟩, fun q hq => by rw [List.mem_singleton.mp hq]; exact ⟨x0, x9⟩⟩, fun rows bag H6 hw hb h6 => ?_⟩
  have w1 : ({ s with version := s.version + 1, rows := rows, bag := bag } : Ver).wf := w.write (by omega) hw (by simp) hb
  have ab := abs_write (x := x) hw
  have vo1 : VOk (absR rows) (s.version + 1) := by rw [ab]; exact vo.write x
  have rl : rows.length = 3 := by rw [hw.1]; exact e2
  replace h6 := h6.sub (show Sub (verU CV p { s with version := s.version + 1, rows := rows, bag := bag } :: R) _ by walk_at "sub")
  have hs1 : ∃ s1 : Ver, s1 = { s with version := s.version + 1, rows := rows, bag := bag } := ⟨_, rfl⟩
  obtain ⟨s1, hs1⟩ := hs1
  rw [← hs1] at h6 w1
  have g1 : s1.version = s.version + 1 := by rw [hs1]
  have g2 : s1.rows = rows := by rw [hs1]
  have g3 : s1.begun = [] := by rw [hs1]; exact e1
  clear h5 hw hb hs1
  have hr0 : ∃ r, s1.rows[(0 : Int).toNat]? = some r := ⟨_, List.getElem?_eq_getElem (by rw [g2, rl]; decide)⟩
  obtain ⟨r0, hr0⟩ := hr0
  rw [← g2] at vo1 ab rl
  rw [← g1] at vo1
  clear g2
  walk_at "go"
  refine ⟨p, s1, _, rfl, h6, w1, fun r hr e => vo1.ne _ (mem_abs hr) (by rw [e]; rfl), fun d1 H7 h7 => ?_⟩
  clear h6
  walk_at "go"
  refine ⟨p, s1, 0, r0, _, rfl, h7.sub (show Sub (verU CV p s1 :: _) _ by walk_at "sub"), w1, by decide, hr0, fun d2 H8 h8 => ?_⟩
  clear h7
  walk_at "go"
  refine ⟨p, s1, _, rfl, h8.sub (show Sub (verU CV p s1 :: _) _ by walk_at "sub"), VOk.trok w1 g3 vo1, fun zs rows2 H9 z1 z2 z3 h9 => ?_⟩
  have ez : zs = [s1.version] := rise_eq z1 (List.pairwise_singleton _ _) fun z => by rw [z2, g3]; rfl
  subst ez
  have w2 : ({ s1 with rows := rows2 } : Ver).wf := w1.trim z3
  have at2 := abs_trim z3
  have vo2 : VOk (absR rows2) s1.version := by rw [at2]; exact vo1.trim
  have rl2 : rows2.length = 3 := by rw [z3.1]; exact rl
  have l0 : r0.2.length ≤ 1000 := by
    have h1 := w1.rl r0 (List.mem_of_getElem? hr0)
    have h2 := w1.v9
    omega
  clear h8 z1 z2 z3
  walk_at "go"
  refine ⟨p, { s1 with rows := rows2 }, _, rfl, h9.sub (show Sub (verU CV p { s1 with rows := rows2 } :: _) _ by walk_at "sub"), ?_⟩
  walk_at "go"
  rename_i t H10 h10
  clear h9
  have hT : tell (.v s.version (absR s.rows)) x = (.v s1.version (absR rows2), [.int s1.version, .nus (newest s1.rows), .nus (r0.2.map (·.2.1)), .int (lens s1.rows - lens rows2), .int s1.version]) := by
    have e5 : r0.2.map (·.2.1) = ((absR s1.rows).getD 0 []).map (·.1) := by
      have h1 : (absR s1.rows)[0]? = some (r0.2.map (·.2)) := by
        unfold absR
        rw [List.getElem?_map, show s1.rows[0]? = some r0 from hr0]
        rfl
      rw [List.getD_eq_getElem?_getD, h1]
      show _ = (r0.2.map (·.2)).map (·.1)
      rw [List.map_map]
      rfl
    rw [e5, newest_abs, lens_abs, lens_abs, at2, ab, g1]
    rfl
  unfold Told at q
  rw [hT] at q
  rw [← g1] at h10
  refine q _ t [.fl (.int s1.version), .ls d1 ((newest s1.rows).map V.int), .ls d2 ((r0.2.map (·.2.1)).map V.int), .fl (.int (lens s1.rows - lens rows2)), .fl (.int s1.version)] [] H10 (Obj.v { s1 with rows := rows2 } w2 vo2 g3 rl2 (by show s1.version = _; rw [g1, e3]; rfl)) ?_ ?_
  · exact .cons (.int _) (.cons (.nus _ _ (by unfold newest; rw [List.length_map, rl]; decide)) (.cons (.nus _ _ (by rw [List.length_map]; exact l0)) (.cons (.int _) (.cons (.int _) .nil))))
  · have h11 := gl2 (h10.sub (show Sub ([(d1, .lst ((newest s1.rows).map V.int))] :: [(d2, .lst ((r0.2.map (·.2.1)).map V.int))] :: verU CV p { s1 with rows := rows2 } :: [(t, _)] :: R) _ by walk_at "sub"))
    have h12 := Has.nilU.mpr h11
    exact h12.sub (show Sub (verU CV p { s1 with rows := rows2 } :: [(t, _)] :: _ :: [] :: R) _ by walk_at "sub")
end
end La
namespace La
open PySem L2 Sy
local macro_rules | `(tactic| walk_at "fl") => `(tactic| first | assumption | exact stF_hands | exact stF_worth | exact stF_cells | exact stF_made | exact StX.f1 (by assumption) | exact StX.f2 (by assumption) | exact StX.f3 (by assumption) | exact StX.f4 (by assumption) | exact StX.f5 (by assumption) | exact StX.f6 (by assumption) | exact StX.f7 (by assumption) | exact StX.f8 (by assumption) | exact StX.f9 (by assumption))
local macro_rules | `(tactic| walk_at "fsl") => `(tactic| first | assumption | exact StX.fl (by assumption))
local macro_rules | `(tactic| walk_at "put") => `(tactic| first | exact stF_put_made | exact stF_put_cells | exact stF_put_worth | exact stF_put_hands)
local macro_rules | `(tactic| walk_at "fl") => `(tactic| first | assumption | exact stF_hands | exact stF_worth | exact stF_cells | exact stF_made | exact rd_era | exact rd_inside | exact rd_saw | exact rd_waits | exact rd_m_enter | exact rd_m_look_in | exact rd_m_leave | exact rd_m_look | exact rd_m_read | exact rd_m_go_on | exact rd_m_round_now | exact rd_m_hands_in | exact StX.f1 rdX_ok | exact StX.f2 rdX_ok | exact StX.f3 rdX_ok | exact StX.f4 rdX_ok | exact StX.f5 rdX_ok | exact StX.f6 rdX_ok | exact StX.f7 rdX_ok | exact StX.f8 rdX_ok | exact StX.f9 rdX_ok)
local macro_rules | `(tactic| walk_at "put") => `(tactic| first | exact rd_put_era | exact rd_put_inside | exact rd_put_saw | exact rd_put_waits)
local macro_rules | `(tactic| walk_at "fsl") => `(tactic| first | assumption | exact StX.fl rdX_ok)
local macro_rules | `(tactic| walk_at "fl") => `(tactic| first | assumption | exact stF_hands | exact stF_worth | exact stF_cells | exact stF_made | exact mk_marks | exact mk_waits | exact mk_m_look_mark | exact mk_m_state_of | exact mk_m_fetch | exact mk_m_set_mark | exact mk_m_sure | exact mk_m_read | exact mk_m_clear_mark | exact mk_m_marked | exact mk_m_sweep | exact StX.f1 mkX_ok | exact StX.f2 mkX_ok | exact StX.f3 mkX_ok | exact StX.f4 mkX_ok | exact StX.f5 mkX_ok | exact StX.f6 mkX_ok | exact StX.f7 mkX_ok | exact StX.f8 mkX_ok | exact StX.f9 mkX_ok)
local macro_rules | `(tactic| walk_at "put") => `(tactic| first | exact mk_put_marks | exact mk_put_waits | exact stF_put_made | exact stF_put_cells | exact stF_put_worth | exact stF_put_hands)
local macro_rules | `(tactic| walk_at "fsl") => `(tactic| first | assumption | exact StX.fl mkX_ok)
local macro_rules | `(tactic| walk_at "fl") => `(tactic| first | assumption | exact stF_hands | exact stF_worth | exact stF_cells | exact stF_made | exact ct_held | exact ct_m_count_of | exact ct_m_hold | exact ct_m_look_held | exact ct_m_read | exact ct_m_drop | exact ct_m_loose | exact ct_m_holds | exact StX.f1 ctX_ok | exact StX.f2 ctX_ok | exact StX.f3 ctX_ok | exact StX.f4 ctX_ok | exact StX.f5 ctX_ok | exact StX.f6 ctX_ok | exact StX.f7 ctX_ok | exact StX.f8 ctX_ok | exact StX.f9 ctX_ok)
local macro_rules | `(tactic| walk_at "put") => `(tactic| first | exact ct_put_held | exact stF_put_made | exact stF_put_cells | exact stF_put_worth | exact stF_put_hands)
local macro_rules | `(tactic| walk_at "fsl") => `(tactic| first | assumption | exact StX.fl ctX_ok)
local macro_rules | `(tactic| walk_at "fl") => `(tactic| first | assumption | exact ve_hands | exact ve_rows | exact ve_version | exact ve_begun | exact ve_asked | kernel_rfl)
local macro_rules | `(tactic| walk_at "put") => `(tactic| first | exact ve_put_hands | exact ve_put_rows | exact ve_put_version | exact ve_put_begun | exact ve_put_asked | exact ve_p1 | exact ve_p2 | exact ve_p3 | exact ve_p4 | exact ve_p5)
local macro_rules | `(tactic| walk_at "fsl") => `(tactic| first | assumption | exact ve_len | (show 0 < 1000; decide) | (show 1 < 1000; decide) | (show 2 < 1000; decide) | (show 3 < 1000; decide) | (show 4 < 1000; decide))
local macro_rules | `(tactic| walk_at "fl") => `(tactic| first | assumption | exact lk_key | exact lk_after | kernel_rfl)
local macro_rules | `(tactic| walk_at "put") => `(tactic| first | exact lk_put_key | exact lk_put_after | exact lk_p1 | exact lk_p2)
local macro_rules | `(tactic| walk_at "fsl") => `(tactic| first | assumption | exact lk_len | (show 0 < 1000; decide) | (show 1 < 1000; decide))
local macro_rules | `(tactic| walk_at "fl") => `(tactic| first | assumption | exact ch_hands | exact ch_links | exact ch_made | exact ch_era | exact ch_inside | exact ch_at | exact ch_waits | kernel_rfl)
local macro_rules | `(tactic| walk_at "put") => `(tactic| first | exact ch_put_hands | exact ch_put_links | exact ch_put_made | exact ch_put_era | exact ch_put_inside | exact ch_put_at | exact ch_put_waits | exact ch_p1 | exact ch_p2 | exact ch_p3 | exact ch_p4 | exact ch_p5 | exact ch_p6 | exact ch_p7)
local macro_rules | `(tactic| walk_at "fsl") => `(tactic| first | assumption | exact ch_len | (show 0 < 1000; decide) | (show 1 < 1000; decide) | (show 2 < 1000; decide) | (show 3 < 1000; decide) | (show 4 < 1000; decide) | (show 5 < 1000; decide) | (show 6 < 1000; decide))
/-! ### k22: a deed at a chain -/
theorem gone_len22 {s : Cha} (nw : (s.waits.map (·.1)).Nodup) : s.gone.length = ((s.waits.map (·.2)).filter fun x => decide (x + 2 ≤ s.era + 1)).length ∧ (rms s.waits s.gone).map (·.2) = (s.waits.map (·.2)).filter fun x => decide (s.era + 1 < x + 2) := by
  have hg : ∀ q ∈ s.waits, (q.1 ∈ s.gone ↔ q.2 + 2 ≤ s.era + 1) := fun q hq => by
    unfold Cha.gone
    rw [List.mem_filter, fd_of nw (show (q.1, q.2) ∈ s.waits from hq)]
    constructor
    · rintro ⟨_, h⟩
      have h := of_decide_eq_true h
      have h : q.2 ≤ s.era + 1 - 2 := h
      omega
    · intro h
      exact ⟨List.mem_map.mpr ⟨q, hq, rfl⟩, decide_eq_true (by show q.2 ≤ _; omega)⟩
  constructor
  · unfold Cha.gone
    rw [List.filter_map, List.filter_map, List.length_map, List.length_map]
    congr 1
    refine List.filter_congr fun q hq => ?_
    show decide ((fd s.waits q.1).getD 0 ≤ s.era + 1 - 2) = decide (q.2 + 2 ≤ s.era + 1)
    rw [fd_of nw (show (q.1, q.2) ∈ s.waits from hq)]
    exact decide_eq_decide.mpr (by show q.2 ≤ _ ↔ _; omega)
  · unfold rms
    rw [List.filter_map]
    congr 1
    refine List.filter_congr fun q hq => ?_
    show decide (q.1 ∉ s.gone) = decide (s.era + 1 < q.2 + 2)
    refine decide_eq_decide.mpr ?_
    rw [hg q hq]
    omega
theorem srtI_rise {l : List Int} (nd : l.Nodup) : (srtI l).Pairwise (· < ·) ∧ ∀ z, z ∈ srtI l ↔ z ∈ l := by
  have p2 : (srtI l).Perm l := List.mergeSort_perm _ _
  have s2 : (srtI l).Pairwise (fun a b => decide (a ≤ b) = true) := List.pairwise_mergeSort (fun a b c h1 h2 => by simp at h1 h2 ⊢; omega) (fun a b => by simp; omega) l
  have nd2 : (srtI l).Nodup := p2.nodup_iff.mpr nd
  refine ⟨(s2.and nd2).imp fun ⟨h1, h2⟩ => ?_, fun z => p2.mem_iff⟩
  have h1 := of_decide_eq_true h1
  omega
section
variable {CH CL p : Addr} {s : Cha} {live : List (Int × Int)} {key : Int} {L R : List U} {H : Hp} {Q : VK} {E : XK}
theorem use_put22 (w : ChOk s live) (hl : s.links.length < 4000) (k0 : 0 ≤ key) (k9 : key ≤ 999) (hh : Has H (chaU CH CL p s :: R))
    (q : ∀ s1 live1 H', ChOk s1 live1 → s1.inside = s.inside → s1.era = s.era → s1.waits = s.waits → live1.map (·.2) = (if key ∈ live.map (·.2) then live.map (·.2) else srtI (live.map (·.2) ++ [key])) → s1.links.length ≤ s.links.length + 1 → Has H' (chaU CH CL p s1 :: R) → Q (.bl (!decide (key ∈ live.map (·.2)))) H') : sp_chput CH CL [.ref p, .int key] H Q E := by
  refine ⟨p, s, live, key, R, rfl, hh, w, k0, k9, fun hb => ?_, fun hb A n c B l x xd H1 hA hf h1 => ?_⟩
  · have := q s live H w rfl rfl rfl (by rw [if_pos hb]) (Nat.le_succ _) hh
    rwa [decide_eq_true hb] at this
  · obtain ⟨live1, _, w1, hm, _⟩ := w.put hA hf k0 k9 hb (by omega) x xd
    have nd : (live.map (·.2) ++ [key]).Nodup := nodup_snoc (rise_nodup w.so) hb
    have := q _ live1 H1 w1 rfl rfl rfl ?_ (by rw [put_len' hf (made_new w)]; exact Nat.le_refl _) h1
    · rwa [decide_eq_false hb] at this
    · rw [if_neg hb]
      refine rise_eq w1.so (srtI_rise nd).1 fun z => ?_
      rw [(srtI_rise nd).2, List.mem_append, List.mem_singleton]
      constructor
      · intro hz
        obtain ⟨q, hq, rfl⟩ := List.mem_map.mp hz
        rcases (hm q).mp hq with h | h
        · exact .inl (List.mem_map.mpr ⟨q, h, rfl⟩)
        · rw [h]; exact .inr rfl
      · rintro (hz | hz)
        · obtain ⟨q, hq, rfl⟩ := List.mem_map.mp hz
          exact List.mem_map.mpr ⟨q, (hm q).mpr (.inl hq), rfl⟩
        · rw [hz]; exact List.mem_map.mpr ⟨(s.made, key), (hm _).mpr (.inr rfl), rfl⟩
theorem use_out22 (w : ChOk s live) (k0 : 0 ≤ key) (k9 : key ≤ 999) (hh : Has H (chaU CH CL p s :: R))
    (q : ∀ s1 live1 H', ChOk s1 live1 → s1.inside = s.inside → s1.era = s.era → s1.waits.map (·.2) = (if key ∈ live.map (·.2) then s.waits.map (·.2) ++ [s.era] else s.waits.map (·.2)) → live1.map (·.2) = (live.map (·.2)).filter (fun y => decide (y ≠ key)) → s1.links.length = s.links.length → Has H' (chaU CH CL p s1 :: R) → Q (.bl (decide (key ∈ live.map (·.2)))) H') : sp_chout CH CL [.ref p, .int key] H Q E := by
  refine ⟨p, s, live, key, R, rfl, hh, w, k0, k9, fun hb => ?_, fun hb A n c m B l l2 H1 hA hf hl hm h1 => ?_⟩
  · have hf : (live.map (·.2)).filter (fun y => decide (y ≠ key)) = live.map (·.2) := List.filter_eq_self.mpr fun y hy => by
      rw [decide_eq_true_eq]
      intro e
      rw [e] at hy
      exact hb hy
    have := q s live H w rfl rfl (by rw [if_neg hb]) hf.symm rfl hh
    rwa [decide_eq_false hb] at this
  · obtain ⟨live1, _, w1, hmm, _, fw⟩ := w.out hA hf hl hm
    have := q _ live1 H1 w1 rfl rfl ?_ ?_ (pu_len_old hf) h1
    · rwa [decide_eq_true hb] at this
    · rw [if_pos hb]
      show (pu s.waits m s.era).map (·.2) = _
      rw [pu_new _ fw, List.map_append]
      rfl
    · refine rise_eq w1.so (w.so.sublist List.filter_sublist) fun z => ?_
      rw [List.mem_filter, decide_eq_true_iff]
      constructor
      · intro hz
        obtain ⟨q, hq, rfl⟩ := List.mem_map.mp hz
        have := (hmm q).mp hq
        exact ⟨List.mem_map.mpr ⟨q, this.1, rfl⟩, this.2⟩
      · rintro ⟨hz, hne⟩
        obtain ⟨q, hq, rfl⟩ := List.mem_map.mp hz
        exact List.mem_map.mpr ⟨q, (hmm q).mpr ⟨hq, hne⟩, rfl⟩
end
section
variable {K : PySem.W.Frag} {CR CM CC CV CH CL p : Addr} {i : Nat} {x : Int} {R : List U} {H : Hp} {Q : VK} {nx bk ct : St → Hp → Prop}
theorem tell_H {s : Cha} {live : List (Int × Int)} (w : ChOk s live) (e1 : s.inside = []) (e2 : s.links.length ≤ 1 + i) (hi : i < 14) (x0 : 0 ≤ x) (x9 : x ≤ 999) (hh : Has H (chaU CH CL p s :: R))
    (q : Told CR CM CC CV CH CL i p 4 (.h (live.map (·.2)) s.era (s.waits.map (·.2))) x R Q) : TellT K CR CM CC CV CH CL ⟨nx, Q, bk, ct⟩ (start ["kind", "some", "what"] [.int 4, .ref p, .int x]) H := by
  unfold TellT t__law_tell
  walk_at "go"
  refine ifD (fun h => absurd h (by decide)) (fun _ => ?_)
  walk_at "go"
  refine ifD (fun h => absurd h (by decide)) (fun _ => ?_)
  walk_at "go"
  refine ifD (fun h => absurd h (by decide)) (fun _ => ?_)
  walk_at "go"
  refine ifD (fun h => absurd h (by decide)) (fun _ => ?_)
  walk_at "go"
  refine use_put22 w (by omega) x0 x9 hh fun s1 live1 H1 w1 i1 r1 t1 k1 l1 h1 => ?_
  clear hh
  walk_at "go"
  refine ⟨p, s1, live1, _, rfl, h1, w1, fun d1 H2 h2 => ?_⟩
  clear h1
  walk_at "go"
  refine use_out22 w1 (by omega) (by omega) (h2.sub (show Sub (chaU CH CL p s1 :: _) _ by walk_at "sub")) fun s2 live2 H3 w2 i2 r2 t2 k2 l2 h3 => ?_
  clear h2
  walk_at "go"
  refine ⟨p, s2, _, rfl, h3, ⟨_, rfl, by omega, by omega, ?_⟩⟩
  walk_at "go"
  have fr : s2.free := fun q hq => by rw [i2, i1, e1] at hq; cases hq
  have ln2 := w2.ln
  refine ⟨p, s2, _, rfl, h3, by rw [i2, i1, e1]; exact List.nodup_nil, w2.nw, w2.nd, w2.wl, by rw [i2, i1, e1]; decide, by omega, fun nf => absurd fr nf, fun _ H4 h4 => ?_⟩
  clear h3
  have w4 := w2.went
  obtain ⟨g1, g2⟩ := gone_len22 w2.nw
  have l4 : s2.went.links.length ≤ s2.links.length := (rms_sub s2.links s2.gone).length_le
  walk_at "go"
  rename_i t H5 h5
  clear h4
  have ln1 := w1.ln
  have hT : tell (.h (live.map (·.2)) s.era (s.waits.map (·.2))) x = (.h (live2.map (·.2)) s2.went.era (s2.went.waits.map (·.2)), [.bl (!decide (x ∈ live.map (·.2))), .nus (live1.map (·.2)), .bl (decide (x - x % 3 ∈ live1.map (·.2))), .int s2.links.length, .int s2.gone.length]) := by
    have e5 : s2.went.waits.map (·.2) = (s2.waits.map (·.2)).filter fun y => decide (s2.era + 1 < y + 2) := g2
    have e6 : s2.went.era = s2.era + 1 := rfl
    have e7 : s2.links.length = 1 + (live2.map (·.2)).length + (s2.waits.map (·.2)).length := by rw [List.length_map, List.length_map]; exact ln2
    rw [e5, e6, e7, g1, t2, k2, t1, k1, r2, r1]
    rfl
  unfold Told at q
  rw [hT] at q
  refine q _ t [.fl (.bl (!decide (x ∈ live.map (·.2)))), .ls d1 ((live1.map (·.2)).map V.int), .fl (.bl (decide (x - x % 3 ∈ live1.map (·.2)))), .fl (.int s2.links.length), .fl (.int s2.gone.length)] [] H5 (Obj.h s2.went live2 w4 (by show s2.inside = []; rw [i2, i1, e1]) (by omega)) ?_ ?_
  · exact .cons (.bl _) (.cons (.nus _ _ (by rw [List.length_map]; omega)) (.cons (.bl _) (.cons (.int _) (.cons (.int _) .nil))))
  · have h12 := Has.nilU.mpr h5
    exact h12.sub (show Sub (chaU CH CL p s2.went :: [(t, _)] :: [(d1, .lst ((live1.map (·.2)).map V.int))] :: [] :: R) _ by walk_at "sub")
end
end La
namespace La
open PySem L2 Sy
local macro_rules | `(tactic| walk_at "fl") => `(tactic| first | assumption | exact stF_hands | exact stF_worth | exact stF_cells | exact stF_made | exact StX.f1 (by assumption) | exact StX.f2 (by assumption) | exact StX.f3 (by assumption) | exact StX.f4 (by assumption) | exact StX.f5 (by assumption) | exact StX.f6 (by assumption) | exact StX.f7 (by assumption) | exact StX.f8 (by assumption) | exact StX.f9 (by assumption))
local macro_rules | `(tactic| walk_at "fsl") => `(tactic| first | assumption | exact StX.fl (by assumption))
local macro_rules | `(tactic| walk_at "put") => `(tactic| first | exact stF_put_made | exact stF_put_cells | exact stF_put_worth | exact stF_put_hands)
local macro_rules | `(tactic| walk_at "fl") => `(tactic| first | assumption | exact stF_hands | exact stF_worth | exact stF_cells | exact stF_made | exact rd_era | exact rd_inside | exact rd_saw | exact rd_waits | exact rd_m_enter | exact rd_m_look_in | exact rd_m_leave | exact rd_m_look | exact rd_m_read | exact rd_m_go_on | exact rd_m_round_now | exact rd_m_hands_in | exact StX.f1 rdX_ok | exact StX.f2 rdX_ok | exact StX.f3 rdX_ok | exact StX.f4 rdX_ok | exact StX.f5 rdX_ok | exact StX.f6 rdX_ok | exact StX.f7 rdX_ok | exact StX.f8 rdX_ok | exact StX.f9 rdX_ok)
local macro_rules | `(tactic| walk_at "put") => `(tactic| first | exact rd_put_era | exact rd_put_inside | exact rd_put_saw | exact rd_put_waits)
local macro_rules | `(tactic| walk_at "fsl") => `(tactic| first | assumption | exact StX.fl rdX_ok)
local macro_rules | `(tactic| walk_at "fl") => `(tactic| first | assumption | exact stF_hands | exact stF_worth | exact stF_cells | exact stF_made | exact mk_marks | exact mk_waits | exact mk_m_look_mark | exact mk_m_state_of | exact mk_m_fetch | exact mk_m_set_mark | exact mk_m_sure | exact mk_m_read | exact mk_m_clear_mark | exact mk_m_marked | exact mk_m_sweep | exact StX.f1 mkX_ok | exact StX.f2 mkX_ok | exact StX.f3 mkX_ok | exact StX.f4 mkX_ok | exact StX.f5 mkX_ok | exact StX.f6 mkX_ok | exact StX.f7 mkX_ok | exact StX.f8 mkX_ok | exact StX.f9 mkX_ok)
local macro_rules | `(tactic| walk_at "put") => `(tactic| first | exact mk_put_marks | exact mk_put_waits | exact stF_put_made | exact stF_put_cells | exact stF_put_worth | exact stF_put_hands)
local macro_rules | `(tactic| walk_at "fsl") => `(tactic| first | assumption | exact StX.fl mkX_ok)
local macro_rules | `(tactic| walk_at "fl") => `(tactic| first | assumption | exact stF_hands | exact stF_worth | exact stF_cells | exact stF_made | exact ct_held | exact ct_m_count_of | exact ct_m_hold | exact ct_m_look_held | exact ct_m_read | exact ct_m_drop | exact ct_m_loose | exact ct_m_holds | exact StX.f1 ctX_ok | exact StX.f2 ctX_ok | exact StX.f3 ctX_ok | exact StX.f4 ctX_ok | exact StX.f5 ctX_ok | exact StX.f6 ctX_ok | exact StX.f7 ctX_ok | exact StX.f8 ctX_ok | exact StX.f9 ctX_ok)
local macro_rules | `(tactic| walk_at "put") => `(tactic| first | exact ct_put_held | exact stF_put_made | exact stF_put_cells | exact stF_put_worth | exact stF_put_hands)
local macro_rules | `(tactic| walk_at "fsl") => `(tactic| first | assumption | exact StX.fl ctX_ok)
local macro_rules | `(tactic| walk_at "fl") => `(tactic| first | assumption | exact ve_hands | exact ve_rows | exact ve_version | exact ve_begun | exact ve_asked | kernel_rfl)
local macro_rules | `(tactic| walk_at "put") => `(tactic| first | exact ve_put_hands | exact ve_put_rows | exact ve_put_version | exact ve_put_begun | exact ve_put_asked | exact ve_p1 | exact ve_p2 | exact ve_p3 | exact ve_p4 | exact ve_p5)
local macro_rules | `(tactic| walk_at "fsl") => `(tactic| first | assumption | exact ve_len | (show 0 < 1000; decide) | (show 1 < 1000; decide) | (show 2 < 1000; decide) | (show 3 < 1000; decide) | (show 4 < 1000; decide))
local macro_rules | `(tactic| walk_at "fl") => `(tactic| first | assumption | exact lk_key | exact lk_after | kernel_rfl)
local macro_rules | `(tactic| walk_at "put") => `(tactic| first | exact lk_put_key | exact lk_put_after | exact lk_p1 | exact lk_p2)
local macro_rules | `(tactic| walk_at "fsl") => `(tactic| first | assumption | exact lk_len | (show 0 < 1000; decide) | (show 1 < 1000; decide))
local macro_rules | `(tactic| walk_at "fl") => `(tactic| first | assumption | exact ch_hands | exact ch_links | exact ch_made | exact ch_era | exact ch_inside | exact ch_at | exact ch_waits | kernel_rfl)
local macro_rules | `(tactic| walk_at "put") => `(tactic| first | exact ch_put_hands | exact ch_put_links | exact ch_put_made | exact ch_put_era | exact ch_put_inside | exact ch_put_at | exact ch_put_waits | exact ch_p1 | exact ch_p2 | exact ch_p3 | exact ch_p4 | exact ch_p5 | exact ch_p6 | exact ch_p7)
local macro_rules | `(tactic| walk_at "fsl") => `(tactic| first | assumption | exact ch_len | (show 0 < 1000; decide) | (show 1 < 1000; decide) | (show 2 < 1000; decide) | (show 3 < 1000; decide) | (show 4 < 1000; decide) | (show 5 < 1000; decide) | (show 6 < 1000; decide))
/-! ### k22: any deed; what is told is copied, then spoilt -/
def sp__law_tell (CR CM CC CV CH CL : Addr) : Sp := fun vs H Q _ => ∃ (kind : Int) (p : Addr) (x : Int) (i : Nat) (u : U) (a : A5) (R : List U), vs = [.int kind, .ref p, .int x] ∧ Obj CR CM CC CV CH CL i p kind u a ∧ i < 14 ∧ 0 ≤ x ∧ x ≤ 999 ∧ Has H (u :: R) ∧ Told CR CM CC CV CH CL i p kind a x R Q
theorem pure__law_tell {K : PySem.W.Frag} {CR CM CC CV CH CL : Addr} {vs : List V} {H : Hp} {Q : VK} {E : XK} (h : sp__law_tell CR CM CC CV CH CL vs H Q E) :
    TellT K CR CM CC CV CH CL ⟨fun _ H' => Q .non H', Q, fun _ _ => False, fun _ _ => False⟩ (start ["kind", "some", "what"] vs) H := by
  obtain ⟨kind, p, x, i, u, a, R, rfl, ob, hi, x0, x9, hh, q⟩ := h
  cases ob with
  | r r h1 h2 h3 h4 h5 h6 => exact tell_R h1 h2 h3 h4 h5 h6 hi x0 x9 hh q
  | m r h1 h2 h3 h4 h5 => exact tell_M h1 h2 h3 h4 h5 hi x0 x9 hh q
  | c r h1 h2 h3 h4 h5 => exact tell_C h1 h2 h3 h4 h5 hi x0 x9 hh q
  | v s h1 h2 h3 h4 h5 => exact tell_V h1 h2 h3 h4 h5 hi x0 x9 hh q
  | h s live h1 h2 h3 => exact tell_H h1 h2 h3 hi x0 x9 hh q
theorem kb_il : kitB "int" "list" = some false := by decide +kernel
theorem kb_bl : kitB "bool" "list" = some false := by decide +kernel
theorem kb_nl : kitB "NoneType" "list" = some false := by decide +kernel
theorem k_isiFL {K : PySem.W.Frag} {H : Hp} {Q : VK} {v : V} (h : v = .non ∨ (∃ b, v = .bl b) ∨ ∃ i, v = .int i) (q : Q (.bl false) H) : rIsi K [v, .ty "list"] H Q := by
  rcases h with rfl | ⟨b, rfl⟩ | ⟨i, rfl⟩
  · exact k_isi .non kb_nl q
  · exact k_isi (.bl b) kb_bl q
  · exact k_isi (.int i) kb_il q
theorem TiAll.get {B : U} {xs : List TI} {ds : List TD} (h : TiAll B xs ds) : ∀ {j : Nat} {y : TI}, xs[j]? = some y → ∃ d, ds[j]? = some d ∧ TiD B y d := by
  induction h with
  | nil => intro j y h; cases j <;> cases h
  | cons h _ ih =>
    intro j y hy
    cases j with
    | zero => exact ⟨_, rfl, by rw [← Option.some.inj hy]; exact h⟩
    | succ j => exact ih hy
theorem TiAll.snoc {B : U} {xs : List TI} {ds : List TD} (h : TiAll B xs ds) {x : TI} {d : TD} (k : TiD B x d) : TiAll B (xs ++ [x]) (ds ++ [d]) := by
  induction h with
  | nil => exact .cons k .nil
  | cons h _ ih => exact .cons h ih
theorem tiU_mem {ti : List TI} {a : Addr} {xs : List V} (h : TI.ls a xs ∈ ti) : (a, HO.lst xs) ∈ tiU ti := List.mem_flatMap.mpr ⟨_, h, List.mem_cons.mpr (.inl rfl)⟩
abbrev q22 (a t : Addr) (kind : Int) (tw wh te : Addr) (o6 o7 o8 o9 o10 o11 : Option V) : St := [some (.ref a), some (.ref t), some (.int kind), some (.ref tw), some (.ref wh), some (.ref te), o6, o7, o8, o9, o10, o11]
section
variable {K : PySem.W.Frag} {a t tw wh te td : Addr} {kind : Int} {o6 o7 o9 o10 o11 : Option V} {H : Hp} {Q : VK} {nx bk ct : St → Hp → Prop} {rt : VK} {B : U} {L : List U} {ti : List TI} {ds : List TD}
theorem k22_copy (ht : TiAll B ti ds) (hl : ds.length ≤ 100) (hh : Has H ([(td, .lst (ti.map TI.v))] :: tiU ti :: L))
    (q : ∀ D tj H', TiAll B tj ds → Has H' ([(D, .lst (tj.map TI.v))] :: tiU tj :: [(td, .lst (ti.map TI.v))] :: tiU ti :: L) → Q (.ref D) H') :
    kLcL K (gName 9) tYes (tIf (tB (tCB (rIsi K) (tCons (tVar 9) (tCons (tC (.ty "list")) (tNil))))) (tCB (rListOf K) (tCons (tVar 9) (tNil))) (tVar 9)) [9] (q22 a t kind tw wh te o6 o7 (some (.ref td)) o9 o10 o11) (.ref td) H Q := by
  have htl := ht.len
  refine k_lcL hh (fun D j H' => ∃ tj, TiAll B tj (ds.take j) ∧ Has H' ([(D, .lst (tj.map TI.v))] :: tiU tj :: [(td, .lst (ti.map TI.v))] :: tiU ti :: L)) hh.g0 (fun D H' h' => ⟨[], .nil, (Has.nilU.mpr h').sub (show Sub ([(D, .lst [])] :: [] :: _) _ by walk_at "sub")⟩) (fun D j H' ⟨tj, _, h'⟩ => h'.g2) ?_ ?_
  · rintro D j xv H' hx ⟨tj, ht', h'⟩
    rw [List.getElem?_map] at hx
    obtain ⟨y, hy, rfl⟩ := Option.map_eq_some_iff.mp hx
    obtain ⟨d, hd, hyd⟩ := ht.get hy
    have et : ds.take (j + 1) = ds.take j ++ [d] := by rw [List.take_add_one, hd]; rfl
    have tl := ht'.len
    have tl2 := List.length_take_le j ds
    have tl3 := List.length_take_le' j ds
    have hsz : (tj.map TI.v).length < sizeLine := by rw [List.length_map, sizeLine_eq]; omega
    rw [et]
    refine x_gname ⟨rfl, x_yes (ifT ?_)⟩
    cases y with
    | fl v =>
      walk_at "go"
      refine k_isiFL hyd.flat ?_
      walk_at "go"
      rename_i H2 h2
      refine ⟨tj ++ [.fl v], ht'.snoc hyd, ?_⟩
      rw [List.map_append, tiU_app]
      show Has H2 ([(D, .lst (tj.map TI.v ++ [v]))] :: (tiU tj ++ []) :: _)
      rw [List.append_nil]
      exact h2
    | ls b xs =>
      have hb : H' b = some (.lst xs) := Has.fam (h'.sub (show Sub (tiU ti :: L) _ by walk_at "sub")) (b, .lst xs) (tiU_mem (List.mem_of_getElem? hy))
      walk_at "go"
      refine k_isiLL hb ?_
      walk_at "go"
      refine k_listOf h' hb fun e H2 h2 => ?_
      refine k_add h2.g1 hsz h2.s1 fun H3 h3 => ?_
      refine ⟨tj ++ [.ls e xs], ht'.snoc hyd.at, ?_⟩
      rw [List.map_append, tiU_app]
      show Has H3 ([(D, .lst (tj.map TI.v ++ [.ref e]))] :: (tiU tj ++ [(e, .lst xs)]) :: _)
      have h4 := Has.op.mpr (h3.sub (show Sub (tiU tj :: [(e, .lst xs)] :: [(D, .lst (tj.map TI.v ++ [.ref e]))] :: [(td, .lst (ti.map TI.v))] :: tiU ti :: L) _ by walk_at "sub"))
      exact h4.sub (show Sub ([(D, _)] :: _ :: [(td, _)] :: tiU ti :: L) _ by walk_at "sub")
  · rintro D H' ⟨tj, ht', h'⟩
    rw [List.length_map, htl, List.take_length] at ht'
    exact q D tj H' ht' h'
theorem k22_late {spT spD spM spV spL : Sp} (ht : TiAll B ti ds) (hh : Has H ([(td, .lst (ti.map TI.v))] :: tiU ti :: L)) (q : ∀ o9 H', Has H' L → nx (q22 a t kind tw wh te o6 o7 (some (.ref td)) o9 o10 o11) H') :
    kForL K (gName 9) (tIfS (tB (tCB (rIsi K) (tCons (tVar 9) (tCons (tC (.ty "list")) (tNil))))) (t_law_b0 K spT spD spM spV spL) (tNext)) nx rt (q22 a t kind tw wh te o6 o7 (some (.ref td)) o9 o10 o11) (.ref td) H := by
  refine k_forL (fun j σ H' => ∃ o9, σ = q22 a t kind tw wh te o6 o7 (some (.ref td)) o9 o10 o11 ∧ Has H' ([(td, .lst (ti.map TI.v))] :: tiU (ti.drop j) :: L)) hh.g0 ⟨o9, rfl, hh⟩ (fun j σ H' ⟨_, _, h⟩ => h.g0) ?_ ?_
  · rintro j xv σ H1 hx ⟨o, rfl, h1⟩
    rw [List.getElem?_map] at hx
    obtain ⟨y, hy, rfl⟩ := Option.map_eq_some_iff.mp hx
    obtain ⟨d, hd, hyd⟩ := ht.get hy
    have ed : ti.drop j = y :: ti.drop (j + 1) := by
      have hlt := (List.getElem?_eq_some_iff.mp hy).1
      rw [List.drop_eq_getElem_cons hlt, (List.getElem?_eq_some_iff.mp hy).2]
    rw [ed] at h1
    generalize ti.drop (j + 1) = rest at *
    refine x_gname ?_
    cases y with
    | fl v =>
      walk_at "go"
      refine k_isiFL hyd.flat ?_
      walk_at "go"
      exact ⟨_, rfl, h1⟩
    | ls b xs =>
      have hsz := hyd.sz
      have h2 : Has H1 ([(td, .lst (ti.map TI.v))] :: [(b, .lst xs)] :: tiU rest :: L) := (Has.cut (h1.sub (show Sub (((b, .lst xs) :: tiU rest) :: [(td, _)] :: L) _ by walk_at "sub"))).sub (show Sub ([(td, _)] :: [(b, .lst xs)] :: tiU rest :: L) _ by walk_at "sub")
      clear h1
      unfold t_law_b0
      simp only [TI.v]
      walk_at "go"
      rename_i H3 h3 H4 h4
      exact ⟨_, rfl, h4.sub (show Sub ([(td, _)] :: tiU rest :: L) _ by walk_at "sub")⟩
  · rintro σ H1 ⟨o, rfl, h1⟩
    exact q o H1 (h1.sub (show Sub L _ from Sub.skip (Sub.skip Sub.rf)))
end
end La
namespace La
open PySem L2 Sy
local macro_rules | `(tactic| walk_at "fl") => `(tactic| first | assumption | exact stF_hands | exact stF_worth | exact stF_cells | exact stF_made | exact StX.f1 (by assumption) | exact StX.f2 (by assumption) | exact StX.f3 (by assumption) | exact StX.f4 (by assumption) | exact StX.f5 (by assumption) | exact StX.f6 (by assumption) | exact StX.f7 (by assumption) | exact StX.f8 (by assumption) | exact StX.f9 (by assumption))
local macro_rules | `(tactic| walk_at "fsl") => `(tactic| first | assumption | exact StX.fl (by assumption))
local macro_rules | `(tactic| walk_at "put") => `(tactic| first | exact stF_put_made | exact stF_put_cells | exact stF_put_worth | exact stF_put_hands)
local macro_rules | `(tactic| walk_at "fl") => `(tactic| first | assumption | exact stF_hands | exact stF_worth | exact stF_cells | exact stF_made | exact rd_era | exact rd_inside | exact rd_saw | exact rd_waits | exact rd_m_enter | exact rd_m_look_in | exact rd_m_leave | exact rd_m_look | exact rd_m_read | exact rd_m_go_on | exact rd_m_round_now | exact rd_m_hands_in | exact StX.f1 rdX_ok | exact StX.f2 rdX_ok | exact StX.f3 rdX_ok | exact StX.f4 rdX_ok | exact StX.f5 rdX_ok | exact StX.f6 rdX_ok | exact StX.f7 rdX_ok | exact StX.f8 rdX_ok | exact StX.f9 rdX_ok)
local macro_rules | `(tactic| walk_at "put") => `(tactic| first | exact rd_put_era | exact rd_put_inside | exact rd_put_saw | exact rd_put_waits)
local macro_rules | `(tactic| walk_at "fsl") => `(tactic| first | assumption | exact StX.fl rdX_ok)
local macro_rules | `(tactic| walk_at "fl") => `(tactic| first | assumption | exact stF_hands | exact stF_worth | exact stF_cells | exact stF_made | exact mk_marks | exact mk_waits | exact mk_m_look_mark | exact mk_m_state_of | exact mk_m_fetch | exact mk_m_set_mark | exact mk_m_sure | exact mk_m_read | exact mk_m_clear_mark | exact mk_m_marked | exact mk_m_sweep | exact StX.f1 mkX_ok | exact StX.f2 mkX_ok | exact StX.f3 mkX_ok | exact StX.f4 mkX_ok | exact StX.f5 mkX_ok | exact StX.f6 mkX_ok | exact StX.f7 mkX_ok | exact StX.f8 mkX_ok | exact StX.f9 mkX_ok)
local macro_rules | `(tactic| walk_at "put") => `(tactic| first | exact mk_put_marks | exact mk_put_waits | exact stF_put_made | exact stF_put_cells | exact stF_put_worth | exact stF_put_hands)
local macro_rules | `(tactic| walk_at "fsl") => `(tactic| first | assumption | exact StX.fl mkX_ok)
local macro_rules | `(tactic| walk_at "fl") => `(tactic| first | assumption | exact stF_hands | exact stF_worth | exact stF_cells | exact stF_made | exact ct_held | exact ct_m_count_of | exact ct_m_hold | exact ct_m_look_held | exact ct_m_read | exact ct_m_drop | exact ct_m_loose | exact ct_m_holds | exact StX.f1 ctX_ok | exact StX.f2 ctX_ok | exact StX.f3 ctX_ok | exact StX.f4 ctX_ok | exact StX.f5 ctX_ok | exact StX.f6 ctX_ok | exact StX.f7 ctX_ok | exact StX.f8 ctX_ok | exact StX.f9 ctX_ok)
local macro_rules | `(tactic| walk_at "put") => `(tactic| first | exact ct_put_held | exact stF_put_made | exact stF_put_cells | exact stF_put_worth | exact stF_put_hands)
local macro_rules | `(tactic| walk_at "fsl") => `(tactic| first | assumption | exact StX.fl ctX_ok)
local macro_rules | `(tactic| walk_at "fl") => `(tactic| first | assumption | exact ve_hands | exact ve_rows | exact ve_version | exact ve_begun | exact ve_asked | kernel_rfl)
local macro_rules | `(tactic| walk_at "put") => `(tactic| first | exact ve_put_hands | exact ve_put_rows | exact ve_put_version | exact ve_put_begun | exact ve_put_asked | exact ve_p1 | exact ve_p2 | exact ve_p3 | exact ve_p4 | exact ve_p5)
local macro_rules | `(tactic| walk_at "fsl") => `(tactic| first | assumption | exact ve_len | (show 0 < 1000; decide) | (show 1 < 1000; decide) | (show 2 < 1000; decide) | (show 3 < 1000; decide) | (show 4 < 1000; decide))
local macro_rules | `(tactic| walk_at "fl") => `(tactic| first | assumption | exact lk_key | exact lk_after | kernel_rfl)
local macro_rules | `(tactic| walk_at "put") => `(tactic| first | exact lk_put_key | exact lk_put_after | exact lk_p1 | exact lk_p2)
local macro_rules | `(tactic| walk_at "fsl") => `(tactic| first | assumption | exact lk_len | (show 0 < 1000; decide) | (show 1 < 1000; decide))
local macro_rules | `(tactic| walk_at "fl") => `(tactic| first | assumption | exact ch_hands | exact ch_links | exact ch_made | exact ch_era | exact ch_inside | exact ch_at | exact ch_waits | kernel_rfl)
local macro_rules | `(tactic| walk_at "put") => `(tactic| first | exact ch_put_hands | exact ch_put_links | exact ch_put_made | exact ch_put_era | exact ch_put_inside | exact ch_put_at | exact ch_put_waits | exact ch_p1 | exact ch_p2 | exact ch_p3 | exact ch_p4 | exact ch_p5 | exact ch_p6 | exact ch_p7)
local macro_rules | `(tactic| walk_at "fsl") => `(tactic| first | assumption | exact ch_len | (show 0 < 1000; decide) | (show 1 < 1000; decide) | (show 2 < 1000; decide) | (show 3 < 1000; decide) | (show 4 < 1000; decide) | (show 5 < 1000; decide) | (show 6 < 1000; decide))
/-! ### k22: the law -/
theorem run_len : ∀ (ws : List Int) (a : A5), (run a ws).2.length = ws.length
  | [], _ => rfl
  | w :: ws, a => by
    show (run (tell a w).1 ws).2.length + 1 = _
    rw [run_len ws]
    rfl
theorem tell_few (a : A5) (x : Int) : (tell a x).2.length ≤ 100 := by cases a <;> (show _ ≤ _; simp [tell, tellR, tellM, tellC, tellV, tellH])
/-- the bag with one more row -/
def bagW (D : Addr) (ti : List TI) (B BB : U) : U := (D, HO.lst (ti.map TI.v)) :: (tiU ti ++ (B ++ BB))
theorem bag_has {H : Hp} {D : Addr} {ti : List TI} {B BB : U} {L : List U} (h : Has H ([(D, .lst (ti.map TI.v))] :: tiU ti :: B :: BB :: L)) : Has H (bagW D ti B BB :: L) := by
  have h1 := Has.op.mpr (h.sub (show Sub (B :: BB :: [(D, .lst (ti.map TI.v))] :: tiU ti :: L) _ from Sub.p2 (Sub.p2 (Sub.p0 (Sub.p0 Sub.rf)))))
  have h2 := Has.op.mpr (h1.sub (show Sub (tiU ti :: (B ++ BB) :: [(D, .lst (ti.map TI.v))] :: L) _ from Sub.p2 (Sub.p0 (Sub.p0 Sub.rf))))
  exact Has.glue (h2.sub (show Sub ([(D, .lst (ti.map TI.v))] :: (tiU ti ++ (B ++ BB)) :: L) _ from Sub.p1 (Sub.p0 Sub.rf)))
theorem bag_old {D : Addr} {ti : List TI} {B BB : U} : ∀ c ∈ BB, c ∈ bagW D ti B BB := fun c hc => List.mem_cons_of_mem _ (List.mem_append.mpr (.inr (List.mem_append.mpr (.inr hc))))
theorem bag_row {D : Addr} {ti : List TI} {B BB : U} {ds : List TD} (h : TiAll B ti ds) : RowD (bagW D ti B BB) (.ref D) ds :=
  ⟨D, ti, rfl, List.mem_cons.mpr (.inl rfl), fun c hc => List.mem_cons_of_mem _ (List.mem_append.mpr (.inl hc)), h.mono fun c hc => List.mem_cons_of_mem _ (List.mem_append.mpr (.inr (List.mem_append.mpr (.inl hc))))⟩
abbrev TL (K : PySem.W.Frag) (CR CM CC CV CH CL : Addr) (f : PySem.W.Frag → Sp → Sp → Sp → Sp → Sp → TS) : TS := f K (sp__law_town K) sp__law_draw (sp__law_made CR CM CC CV CH CL) sp__law_value (sp__law_tell CR CM CC CV CH CL)
theorem at_last22 {xs : List V} {v : V} : atI (xs ++ [v]) (-1) = some v := by
  unfold atI ixN
  rw [if_neg (by decide), if_pos (by rw [List.length_append]; show -((xs.length + 1 : Nat) : Int) ≤ -1; omega)]
  show (xs ++ [v])[(-1 + (((xs ++ [v]).length : Nat) : Int)).toNat]? = _
  rw [show (-1 + (((xs ++ [v]).length : Nat) : Int)).toNat = xs.length by rw [List.length_append]; show (-1 + ((xs.length + 1 : Nat) : Int)).toNat = _; omega]
  exact List.getElem?_concat_length
section
variable {K : PySem.W.Frag} {CR CM CC CV CH CL a t tw wh te p w y : Addr} {kind k : Int} {o6 o8 o9 o10 o11 : Option V} {H : Hp} {nx bk ct : St → Hp → Prop} {rt : VK} {BB u : U} {R : List U} {tws wls tes ys : List V} {ws : List Int} {ts : Town}
theorem k22_deed (h1 : atI tws k = some (.ref p)) (h2 : atI wls k = some (.ref w)) (h3 : atI tes k = some (.ref y)) (hi : ws.length < 14) (tok : ts.ok) (ob : Obj CR CM CC CV CH CL ws.length p kind u (run (fresh kind) ws).1) (ht : TeAll BB ys (run (fresh kind) ws).2)
    (hh : Has H (townU t ts :: [(tw, .lst tws)] :: [(wh, .lst wls)] :: [(te, .lst tes)] :: u :: [(w, .lst (ws.map V.int))] :: [(y, .lst ys)] :: BB :: R))
    (q : ∀ (x : Int) (u' : U) (ts' : Town) (ys' : List V) (BB' : U) o8 o9 H', 0 ≤ x → x ≤ 999 → ts'.ok → Obj CR CM CC CV CH CL (ws.length + 1) p kind u' (run (fresh kind) (ws ++ [x])).1 → (∀ c ∈ BB, c ∈ BB') → TeAll BB' ys' (run (fresh kind) (ws ++ [x])).2 → Has H' (townU t ts' :: [(tw, .lst tws)] :: [(wh, .lst wls)] :: [(te, .lst tes)] :: u' :: [(w, .lst ((ws ++ [x]).map V.int))] :: [(y, .lst ys')] :: BB' :: R) → nx (q22 a t kind tw wh te o6 (some (.int k)) o8 o9 o10 o11) H') :
    tSeq (tDrop (tBM K "list" rAppend (tOp (rIxL K) (tVar 4) (tVar 7)) (tCons (tCall sp__law_value [] E0 (tCons (tVar 1) (tNil))) (tNil))))
    (tSeq (tAsg (tCall (sp__law_tell CR CM CC CV CH CL) [] E0 (tCons (tVar 2) (tCons (tOp (rIxL K) (tVar 3) (tVar 7)) (tCons (tOp (rIxL K) (tOp (rIxL K) (tVar 4) (tVar 7)) (tUn (rU fun i => .int (-i)) (tC (.int 1)))) (tNil))))) (gName 8))
    (tSeq (tDrop (tBM K "list" rAppend (tOp (rIxL K) (tVar 5) (tVar 7)) (tCons (tLc (iList K (tVar 8)) (gName 9) tYes (tIf (tB (tCB (rIsi K) (tCons (tVar 9) (tCons (tC (.ty "list")) (tNil))))) (tCB (rListOf K) (tCons (tVar 9) (tNil))) (tVar 9)) [9]) (tNil))))
    (tFor (iList K (tVar 8)) (gName 9) (tIfS (tB (tCB (rIsi K) (tCons (tVar 9) (tCons (tC (.ty "list")) (tNil))))) (TL K CR CM CC CV CH CL t_law_b0) (tNext))))) ⟨nx, rt, bk, ct⟩ (q22 a t kind tw wh te o6 (some (.int k)) o8 o9 o10 o11) H := by
  have hys : ys.length < 14 := by have := ht.len; rw [run_len] at this; omega
  walk_at "go"
  refine ⟨t, ts, _, rfl, tok, hh, fun x ts2 H2 x0 x9 tok2 h4 => ?_⟩
  clear hh
  walk_at "go"
  rename_i H3 h5
  clear h4
  have el : atI (ws.map V.int ++ [.int x]) (-1) = some (.int x) := at_last22
  refine ⟨1, rfl, ?_⟩
  show rIxL K (V.ref w) (.int (-1)) _ _
  walk_at "go"
  refine ⟨kind, p, x, ws.length, u, _, _, rfl, ob, hi, x0, x9, h5.sub (show Sub (u :: townU t ts2 :: [(tw, .lst tws)] :: [(wh, .lst wls)] :: [(te, .lst tes)] :: [(w, .lst (ws.map V.int ++ [.int x]))] :: [(y, .lst ys)] :: BB :: R) _ by walk_at "sub"), fun u' td ti B H6 ob' ht' h6 => ?_⟩
  clear h5 ob
  walk_at "go"
  refine k22_copy ht' (tell_few _ _) (h6.sub (show Sub ([(td, .lst (ti.map TI.v))] :: tiU ti :: B :: u' :: townU t ts2 :: [(tw, .lst tws)] :: [(wh, .lst wls)] :: [(te, .lst tes)] :: [(w, .lst (ws.map V.int ++ [.int x]))] :: [(y, .lst ys)] :: BB :: R) _ by walk_at "sub")) fun D tj H7 hj h7 => ?_
  clear h6
  walk_at "go"
  rename_i H8 h8
  clear h7
  refine k22_late ht' (h8.sub (show Sub ([(td, .lst (ti.map TI.v))] :: tiU ti :: [(D, .lst (tj.map TI.v))] :: tiU tj :: B :: BB :: townU t ts2 :: [(tw, .lst tws)] :: [(wh, .lst wls)] :: [(te, .lst tes)] :: u' :: [(w, .lst (ws.map V.int ++ [.int x]))] :: [(y, .lst (ys ++ [.ref D]))] :: R) _ by walk_at "sub")) fun o9' H9 h9 => ?_
  have h10 := bag_has h9
  rw [show ws.map V.int ++ [V.int x] = (ws ++ [x]).map V.int by rw [List.map_append]; rfl] at h10
  refine q x u' ts2 (ys ++ [.ref D]) (bagW D tj B BB) _ o9' H9 x0 x9 tok2 (by rw [run_snoc]; exact ob') bag_old (by rw [run_snoc]; exact (ht.mono bag_old).snoc (bag_row hj)) (h10.sub (show Sub (townU t ts2 :: [(tw, .lst tws)] :: [(wh, .lst wls)] :: [(te, .lst tes)] :: u' :: [(w, .lst ((ws ++ [x]).map V.int))] :: [(y, .lst (ys ++ [.ref D]))] :: bagW D tj B BB :: R) _ by walk_at "sub"))
theorem k22_alone {o7 : Option V} (k0 : 0 ≤ kind) (k5 : kind < 5) (h2 : atI wls k = some (.ref w)) (h3 : atI tes k = some (.ref y)) (hi : ws.length ≤ 14) (hx : ∀ x ∈ ws, 0 ≤ x ∧ x ≤ 999) (ht : TeAll BB ys (run (fresh kind) ws).2)
    (hh : Has H ([(wh, .lst wls)] :: [(te, .lst tes)] :: [(w, .lst (ws.map V.int))] :: [(y, .lst ys)] :: BB :: R))
    (q : ∀ o10 H', Has H' ([(wh, .lst wls)] :: [(te, .lst tes)] :: [(w, .lst (ws.map V.int))] :: [(y, .lst ys)] :: BB :: R) → nx (q22 a t kind tw wh te o6 (some (.int k)) o8 o9 o10 o11) H') :
    TL K CR CM CC CV CH CL t_law_b2 ⟨nx, rt, bk, ct⟩ (q22 a t kind tw wh te o6 (some (.int k)) o8 o9 o10 o11) H := by
  unfold TL t_law_b2
  walk_at "go"
  refine ⟨kind, _, rfl, k0, k5, hh, fun pa u H1 ob h1 => ?_⟩
  clear hh
  walk_at "go"
  refine k_lcL (h1.sub (show Sub ([(wh, .lst wls)] :: [(te, .lst tes)] :: [(w, .lst (ws.map V.int))] :: [(y, .lst ys)] :: BB :: u :: R) _ by walk_at "sub")) (fun D j H' => ∃ (u' : U) (vs : List V) (B' : U), Obj CR CM CC CV CH CL j pa kind u' (run (fresh kind) (ws.take j)).1 ∧ TeAll B' vs (run (fresh kind) (ws.take j)).2 ∧ Has H' ([(D, .lst vs)] :: B' :: u' :: [(wh, .lst wls)] :: [(te, .lst tes)] :: [(w, .lst (ws.map V.int))] :: [(y, .lst ys)] :: BB :: R)) (h1.sub (show Sub ([(w, .lst (ws.map V.int))] :: _) _ by walk_at "sub")).g0 (fun D H' h' => ⟨u, [], [], ob, .nil, (Has.nilU.mpr h').sub (show Sub ([(D, .lst [])] :: [] :: u :: _) _ by walk_at "sub")⟩) (fun D j H' ⟨_, _, _, _, _, h'⟩ => h'.g5) ?_ ?_
  · rintro D j xv H2 hj ⟨u', vs, B', ob', hv, h'⟩
    rw [List.getElem?_map] at hj
    obtain ⟨z, hz, rfl⟩ := Option.map_eq_some_iff.mp hj
    have hlt := (List.getElem?_eq_some_iff.mp hz).1
    obtain ⟨z0, z9⟩ := hx z (List.mem_of_getElem? hz)
    have et : ws.take (j + 1) = ws.take j ++ [z] := by rw [List.take_add_one, hz]; rfl
    have hvl : vs.length ≤ 14 := by have := hv.len; rw [run_len, List.length_take] at this; omega
    rw [et]
    refine x_gname ⟨rfl, x_yes (ifT ?_)⟩
    walk_at "go"
    refine ⟨kind, pa, z, j, u', _, _, rfl, ob', by omega, z0, z9, h'.sub (show Sub (u' :: [(D, .lst vs)] :: B' :: [(wh, .lst wls)] :: [(te, .lst tes)] :: [(w, .lst (ws.map V.int))] :: [(y, .lst ys)] :: BB :: R) _ by walk_at "sub"), fun u2 td ti B H3 ob2 ht2 h3 => ?_⟩
    clear h'
    refine k_add h3.g4 (by rw [sizeLine_eq]; omega) h3.s4 fun H4 h4 => ?_
    have h5 := bag_has (h4.sub (show Sub ([(td, .lst (ti.map TI.v))] :: tiU ti :: B :: B' :: [(D, .lst (vs ++ [.ref td]))] :: u2 :: [(wh, .lst wls)] :: [(te, .lst tes)] :: [(w, .lst (ws.map V.int))] :: [(y, .lst ys)] :: BB :: R) _ by walk_at "sub"))
    refine ⟨u2, vs ++ [.ref td], bagW td ti B B', by rw [run_snoc]; exact ob2, by rw [run_snoc]; exact (hv.mono bag_old).snoc (bag_row ht2), h5.sub (show Sub ([(D, .lst (vs ++ [.ref td]))] :: bagW td ti B B' :: u2 :: _) _ by walk_at "sub")⟩
  · rintro D H2 ⟨u', vs, B', ob', hv, h'⟩
    rw [List.length_map, List.take_length] at hv
    clear h1 ob ob'
    walk_at "go"
    refine k_neSame (dd := teD (run (fresh kind) ws).2) (.lst (SqL.of h'.g0) (hv.dp (Has.fam (h'.sub (show Sub (B' :: _) _ by walk_at "sub"))))) (.lst (SqL.of h'.g6) (ht.dp (Has.fam (h'.sub (show Sub (BB :: _) _ by walk_at "sub"))))) (shaped_te _) ?_
    walk_at "go"
    exact q _ H2 (h'.sub (show Sub ([(wh, .lst wls)] :: [(te, .lst tes)] :: [(w, .lst (ws.map V.int))] :: [(y, .lst ys)] :: BB :: R) _ by walk_at "sub"))
end
end La
namespace La
open PySem L2 Sy
local macro_rules | `(tactic| walk_at "fl") => `(tactic| first | assumption | exact stF_hands | exact stF_worth | exact stF_cells | exact stF_made | exact StX.f1 (by assumption) | exact StX.f2 (by assumption) | exact StX.f3 (by assumption) | exact StX.f4 (by assumption) | exact StX.f5 (by assumption) | exact StX.f6 (by assumption) | exact StX.f7 (by assumption) | exact StX.f8 (by assumption) | exact StX.f9 (by assumption))
local macro_rules | `(tactic| walk_at "fsl") => `(tactic| first | assumption | exact StX.fl (by assumption))
local macro_rules | `(tactic| walk_at "put") => `(tactic| first | exact stF_put_made | exact stF_put_cells | exact stF_put_worth | exact stF_put_hands)
local macro_rules | `(tactic| walk_at "fl") => `(tactic| first | assumption | exact stF_hands | exact stF_worth | exact stF_cells | exact stF_made | exact rd_era | exact rd_inside | exact rd_saw | exact rd_waits | exact rd_m_enter | exact rd_m_look_in | exact rd_m_leave | exact rd_m_look | exact rd_m_read | exact rd_m_go_on | exact rd_m_round_now | exact rd_m_hands_in | exact StX.f1 rdX_ok | exact StX.f2 rdX_ok | exact StX.f3 rdX_ok | exact StX.f4 rdX_ok | exact StX.f5 rdX_ok | exact StX.f6 rdX_ok | exact StX.f7 rdX_ok | exact StX.f8 rdX_ok | exact StX.f9 rdX_ok)
local macro_rules | `(tactic| walk_at "put") => `(tactic| first | exact rd_put_era | exact rd_put_inside | exact rd_put_saw | exact rd_put_waits)
local macro_rules | `(tactic| walk_at "fsl") => `(tactic| first | assumption | exact StX.fl rdX_ok)
local macro_rules | `(tactic| walk_at "fl") => `(tactic| first | assumption | exact stF_hands | exact stF_worth | exact stF_cells | exact stF_made | exact mk_marks | exact mk_waits | exact mk_m_look_mark | exact mk_m_state_of | exact mk_m_fetch | exact mk_m_set_mark | exact mk_m_sure | exact mk_m_read | exact mk_m_clear_mark | exact mk_m_marked | exact mk_m_sweep | exact StX.f1 mkX_ok | exact StX.f2 mkX_ok | exact StX.f3 mkX_ok | exact StX.f4 mkX_ok | exact StX.f5 mkX_ok | exact StX.f6 mkX_ok | exact StX.f7 mkX_ok | exact StX.f8 mkX_ok | exact StX.f9 mkX_ok)
local macro_rules | `(tactic| walk_at "put") => `(tactic| first | exact mk_put_marks | exact mk_put_waits | exact stF_put_made | exact stF_put_cells | exact stF_put_worth | exact stF_put_hands)
local macro_rules | `(tactic| walk_at "fsl") => `(tactic| first | assumption | exact StX.fl mkX_ok)
local macro_rules | `(tactic| walk_at "fl") => `(tactic| first | assumption | exact stF_hands | exact stF_worth | exact stF_cells | exact stF_made | exact ct_held | exact ct_m_count_of | exact ct_m_hold | exact ct_m_look_held | exact ct_m_read | exact ct_m_drop | exact ct_m_loose | exact ct_m_holds | exact StX.f1 ctX_ok | exact StX.f2 ctX_ok | exact StX.f3 ctX_ok | exact StX.f4 ctX_ok | exact StX.f5 ctX_ok | exact StX.f6 ctX_ok | exact StX.f7 ctX_ok | exact StX.f8 ctX_ok | exact StX.f9 ctX_ok)
local macro_rules | `(tactic| walk_at "put") => `(tactic| first | exact ct_put_held | exact stF_put_made | exact stF_put_cells | exact stF_put_worth | exact stF_put_hands)
local macro_rules | `(tactic| walk_at "fsl") => `(tactic| first | assumption | exact StX.fl ctX_ok)
local macro_rules | `(tactic| walk_at "fl") => `(tactic| first | assumption | exact ve_hands | exact ve_rows | exact ve_version | exact ve_begun | exact ve_asked | kernel_rfl)
local macro_rules | `(tactic| walk_at "put") => `(tactic| first | exact ve_put_hands | exact ve_put_rows | exact ve_put_version | exact ve_put_begun | exact ve_put_asked | exact ve_p1 | exact ve_p2 | exact ve_p3 | exact ve_p4 | exact ve_p5)
local macro_rules | `(tactic| walk_at "fsl") => `(tactic| first | assumption | exact ve_len | (show 0 < 1000; decide) | (show 1 < 1000; decide) | (show 2 < 1000; decide) | (show 3 < 1000; decide) | (show 4 < 1000; decide))
local macro_rules | `(tactic| walk_at "fl") => `(tactic| first | assumption | exact lk_key | exact lk_after | kernel_rfl)
local macro_rules | `(tactic| walk_at "put") => `(tactic| first | exact lk_put_key | exact lk_put_after | exact lk_p1 | exact lk_p2)
local macro_rules | `(tactic| walk_at "fsl") => `(tactic| first | assumption | exact lk_len | (show 0 < 1000; decide) | (show 1 < 1000; decide))
local macro_rules | `(tactic| walk_at "fl") => `(tactic| first | assumption | exact ch_hands | exact ch_links | exact ch_made | exact ch_era | exact ch_inside | exact ch_at | exact ch_waits | kernel_rfl)
local macro_rules | `(tactic| walk_at "put") => `(tactic| first | exact ch_put_hands | exact ch_put_links | exact ch_put_made | exact ch_put_era | exact ch_put_inside | exact ch_put_at | exact ch_put_waits | exact ch_p1 | exact ch_p2 | exact ch_p3 | exact ch_p4 | exact ch_p5 | exact ch_p6 | exact ch_p7)
local macro_rules | `(tactic| walk_at "fsl") => `(tactic| first | assumption | exact ch_len | (show 0 < 1000; decide) | (show 1 < 1000; decide) | (show 2 < 1000; decide) | (show 3 < 1000; decide) | (show 4 < 1000; decide) | (show 5 < 1000; decide) | (show 6 < 1000; decide))
/-! ### k22: both, by turns; each alone -/
def P22 (CR CM CC CV CH CL a t tw wh te p0 p1 w0 w1 y0 y1 : Addr) (kind : Int) (i : Nat) (σ : St) (H : Hp) : Prop := ∃ (o6 o7 o8 o9 : Option V) (ts : Town) (u0 u1 : U) (xs0 xs1 : List Int) (ys0 ys1 : List V) (BB : U),
  σ = q22 a t kind tw wh te o6 o7 o8 o9 none none ∧ ts.ok ∧ xs0.length + xs1.length = i ∧ (∀ x ∈ xs0, 0 ≤ x ∧ x ≤ 999) ∧ (∀ x ∈ xs1, 0 ≤ x ∧ x ≤ 999) ∧
  Obj CR CM CC CV CH CL xs0.length p0 kind u0 (run (fresh kind) xs0).1 ∧ Obj CR CM CC CV CH CL xs1.length p1 kind u1 (run (fresh kind) xs1).1 ∧ TeAll BB ys0 (run (fresh kind) xs0).2 ∧ TeAll BB ys1 (run (fresh kind) xs1).2 ∧
  Has H (townU t ts :: [(tw, .lst [.ref p0, .ref p1])] :: [(wh, .lst [.ref w0, .ref w1])] :: [(te, .lst [.ref y0, .ref y1])] :: u0 :: [(w0, .lst (xs0.map V.int))] :: [(y0, .lst ys0)] :: u1 :: [(w1, .lst (xs1.map V.int))] :: [(y1, .lst ys1)] :: BB :: [])
section
variable {K : PySem.W.Frag} {CR CM CC CV CH CL a t tw wh te p0 p1 w0 w1 y0 y1 : Addr} {kind : Int} {rt : VK} {bk : St → Hp → Prop}
theorem at_fst {a b : V} : atI [a, b] 0 = some a := rfl
theorem at_snd {a b : V} : atI [a, b] 1 = some b := rfl
theorem all_snoc {xs : List Int} {x : Int} (h : ∀ x ∈ xs, 0 ≤ x ∧ x ≤ 999) (x0 : 0 ≤ x) (x9 : x ≤ 999) : ∀ y ∈ xs ++ [x], 0 ≤ y ∧ y ≤ 999 := fun y hy => by
  rcases List.mem_append.mp hy with h1 | h1
  · exact h y h1
  · rw [List.mem_singleton.mp h1]; exact ⟨x0, x9⟩
theorem k22_turn {i : Nat} {σ : St} {H : Hp} (hi : i < 14) (P : P22 CR CM CC CV CH CL a t tw wh te p0 p1 w0 w1 y0 y1 kind i σ H) :
    TL K CR CM CC CV CH CL t_law_b1 ⟨P22 CR CM CC CV CH CL a t tw wh te p0 p1 w0 w1 y0 y1 kind (i + 1), rt, bk, P22 CR CM CC CV CH CL a t tw wh te p0 p1 w0 w1 y0 y1 kind (i + 1)⟩ (σ.set 6 (some (.int i))) H := by
  obtain ⟨o6, o7, o8, o9, ts, u0, u1, xs0, xs1, ys0, ys1, BB, rfl, tok, hl, hx0, hx1, ob0, ob1, t0, t1, hh⟩ := P
  unfold TL t_law_b1
  refine x_seq (x_asg ?_)
  walk_at "go"
  refine use_draw hh Sub.rf tok (by decide) (by decide) fun k ts2 H2 k0 k1 tok2 h2 => ?_
  clear hh
  refine x_gname ?_
  have hk : k = 0 ∨ k = 1 := by omega
  rcases hk with rfl | rfl
  · refine k22_deed (p := p0) (w := w0) (y := y0) at_fst at_fst at_fst (by omega) tok2 ob0 t0 (h2.sub (show Sub (townU t ts2 :: [(tw, .lst [.ref p0, .ref p1])] :: [(wh, .lst [.ref w0, .ref w1])] :: [(te, .lst [.ref y0, .ref y1])] :: u0 :: [(w0, .lst (xs0.map V.int))] :: [(y0, .lst ys0)] :: BB :: u1 :: [(w1, .lst (xs1.map V.int))] :: [(y1, .lst ys1)] :: []) _ by walk_at "sub")) fun x u' ts' ys' BB' o8' o9' H3 x0 x9 tok3 ob' hb ht' h3 => ?_
    exact ⟨_, _, o8', o9', ts', u', u1, xs0 ++ [x], xs1, ys', ys1, BB', rfl, tok3, by rw [List.length_append]; show xs0.length + 1 + _ = _; omega, all_snoc hx0 x0 x9, hx1, by rw [List.length_append]; exact ob', ob1, ht', t1.mono hb, h3.sub (show Sub (townU t ts' :: [(tw, .lst [.ref p0, .ref p1])] :: [(wh, .lst [.ref w0, .ref w1])] :: [(te, .lst [.ref y0, .ref y1])] :: u' :: [(w0, .lst ((xs0 ++ [x]).map V.int))] :: [(y0, .lst ys')] :: u1 :: [(w1, .lst (xs1.map V.int))] :: [(y1, .lst ys1)] :: BB' :: []) _ by walk_at "sub")⟩
  · refine k22_deed (p := p1) (w := w1) (y := y1) at_snd at_snd at_snd (by omega) tok2 ob1 t1 (h2.sub (show Sub (townU t ts2 :: [(tw, .lst [.ref p0, .ref p1])] :: [(wh, .lst [.ref w0, .ref w1])] :: [(te, .lst [.ref y0, .ref y1])] :: u1 :: [(w1, .lst (xs1.map V.int))] :: [(y1, .lst ys1)] :: BB :: u0 :: [(w0, .lst (xs0.map V.int))] :: [(y0, .lst ys0)] :: []) _ by walk_at "sub")) fun x u' ts' ys' BB' o8' o9' H3 x0 x9 tok3 ob' hb ht' h3 => ?_
    exact ⟨_, _, o8', o9', ts', u0, u', xs0, xs1 ++ [x], ys0, ys', BB', rfl, tok3, by rw [List.length_append]; show _ + (xs1.length + 1) = _; omega, hx0, all_snoc hx1 x0 x9, ob0, by rw [List.length_append]; exact ob', t0.mono hb, ht', h3.sub (show Sub (townU t ts' :: [(tw, .lst [.ref p0, .ref p1])] :: [(wh, .lst [.ref w0, .ref w1])] :: [(te, .lst [.ref y0, .ref y1])] :: u0 :: [(w0, .lst (xs0.map V.int))] :: [(y0, .lst ys0)] :: u' :: [(w1, .lst ((xs1 ++ [x]).map V.int))] :: [(y1, .lst ys')] :: BB' :: []) _ by walk_at "sub")⟩
end
def sp_law (K : PySem.W.Frag) : Sp := fun vs H Q _ => ∃ (a : Addr) (ns : List Int), vs = [.ref a] ∧ SqL K H a (ns.map V.int) ∧ ns.length ≤ 63 ∧ ∀ H', Q (.bl true) H'
theorem pure_law {K : PySem.W.Frag} {CR CM CC CV CH CL : Addr} {vs : List V} {H : Hp} {Q : VK} {E : XK} (h : sp_law K vs H Q E) :
    TL K CR CM CC CV CH CL t_law ⟨fun _ H' => Q .non H', Q, fun _ _ => False, fun _ _ => False⟩ (start ["script", "town", "kind", "two", "whats", "tells", "turn", "k", "told", "one", "alone", "what"] vs) H := by
  obtain ⟨a, ns, rfl, hs, hl, q⟩ := h
  unfold TL t_law
  walk_at "go"
  refine ⟨a, ns, rfl, hs, hl, fun t ts H1 tok h1 => ?_⟩
  walk_at "go"
  refine use_draw h1 Sub.rf tok (by decide) (by decide) fun kind ts2 H2 c0 c1 tok2 h2 => ?_
  clear h1
  walk_at "go"
  refine ⟨kind, _, rfl, c0, by omega, h2, fun p0 u0 H3 ob0 h3 => ?_⟩
  clear h2
  walk_at "go"
  refine ⟨kind, _, rfl, c0, by omega, h3, fun p1 u1 H4 ob1 h4 => ?_⟩
  clear h3
  walk_at "go"
  rename_i tw Ha ha w0 Hb hb w1 Hc hc wh Hd hd y0 He he y1 Hf hf te H5 h5
  clear ha hb hc hd he hf h4
  refine k_forR (P22 CR CM CC CV CH CL a t tw wh te p0 p1 w0 w1 y0 y1 kind) ⟨none, none, none, none, ts2, u0, u1, [], [], [], [], [], rfl, tok2, rfl, fun x hx => absurd hx List.not_mem_nil, fun x hx => absurd hx List.not_mem_nil, ob0, ob1, .nil, .nil, (Has.nilU.mpr h5).sub (show Sub (townU t ts2 :: [(tw, .lst [.ref p0, .ref p1])] :: [(wh, .lst [.ref w0, .ref w1])] :: [(te, .lst [.ref y0, .ref y1])] :: u0 :: [(w0, .lst [])] :: [(y0, .lst [])] :: u1 :: [(w1, .lst [])] :: [(y1, .lst [])] :: [] :: []) _ by walk_at "sub")⟩ (by decide) (fun i σ H hi P => k22_turn (by omega) P) ?_
  clear h5 ob0 ob1 hs
  rintro σ H6 ⟨o6, o7, o8, o9, ts3, u0, u1, xs0, xs1, ys0, ys1, BB, rfl, tok3, hl3, hx0, hx1, ob0, ob1, t0, t1, h6⟩
  have hl4 : xs0.length + xs1.length = 14 := hl3
  refine x_seq (x_forR ?_)
  walk_at "go"
  refine k_forR (fun _ σ H => ∃ o7 o10, σ = q22 a t kind tw wh te o6 o7 o8 o9 o10 none ∧ Has H ([(wh, .lst [.ref w0, .ref w1])] :: [(te, .lst [.ref y0, .ref y1])] :: [(w0, .lst (xs0.map V.int))] :: [(y0, .lst ys0)] :: [(w1, .lst (xs1.map V.int))] :: [(y1, .lst ys1)] :: BB :: [])) ⟨o7, none, rfl, h6.sub (show Sub ([(wh, .lst [.ref w0, .ref w1])] :: [(te, .lst [.ref y0, .ref y1])] :: [(w0, .lst (xs0.map V.int))] :: [(y0, .lst ys0)] :: [(w1, .lst (xs1.map V.int))] :: [(y1, .lst ys1)] :: BB :: []) _ by walk_at "sub")⟩ (by decide) ?_ ?_
  · rintro i σ H7 hi ⟨o7, o10, rfl, h7⟩
    have hk : i = 0 ∨ i = 1 := by omega
    rcases hk with rfl | rfl
    · refine k22_alone (o7 := none) (w := w0) (y := y0) (ws := xs0) (ys := ys0) (BB := BB) c0 (by omega) at_fst at_fst (by omega) hx0 t0 (h7.sub (show Sub ([(wh, .lst [.ref w0, .ref w1])] :: [(te, .lst [.ref y0, .ref y1])] :: [(w0, .lst (xs0.map V.int))] :: [(y0, .lst ys0)] :: BB :: [(w1, .lst (xs1.map V.int))] :: [(y1, .lst ys1)] :: []) _ by walk_at "sub")) fun o10' H8 h8 => ?_
      exact ⟨_, o10', rfl, h8.sub (show Sub ([(wh, .lst [.ref w0, .ref w1])] :: [(te, .lst [.ref y0, .ref y1])] :: [(w0, .lst (xs0.map V.int))] :: [(y0, .lst ys0)] :: [(w1, .lst (xs1.map V.int))] :: [(y1, .lst ys1)] :: BB :: []) _ by walk_at "sub")⟩
    · refine k22_alone (o7 := none) (w := w1) (y := y1) (ws := xs1) (ys := ys1) (BB := BB) c0 (by omega) at_snd at_snd (by omega) hx1 t1 (h7.sub (show Sub ([(wh, .lst [.ref w0, .ref w1])] :: [(te, .lst [.ref y0, .ref y1])] :: [(w1, .lst (xs1.map V.int))] :: [(y1, .lst ys1)] :: BB :: [(w0, .lst (xs0.map V.int))] :: [(y0, .lst ys0)] :: []) _ by walk_at "sub")) fun o10' H8 h8 => ?_
      exact ⟨_, o10', rfl, h8.sub (show Sub ([(wh, .lst [.ref w0, .ref w1])] :: [(te, .lst [.ref y0, .ref y1])] :: [(w0, .lst (xs0.map V.int))] :: [(y0, .lst ys0)] :: [(w1, .lst (xs1.map V.int))] :: [(y1, .lst ys1)] :: BB :: []) _ by walk_at "sub")⟩
  · rintro σ H7 ⟨o7, o10, rfl, h7⟩
    walk_at "go"
    exact q H7
end La
namespace La
open PySem L2 Sy
def top (i : Nat) : Stmt := PySem.Challenge.pw_lastreader_k22_whole_own_ways.main.body.getD i (.Pass ⟨0, 0, 0, 0⟩)
abbrev s__law_town : Stmt := top 34
theorem sc__law_town : FnScope ["script"] ["script"] (defScope s__law_town) := ⟨rfl, rfl, rfl, by decide +kernel, rfl, by decide +kernel, by decide +kernel⟩
abbrev s__law_draw : Stmt := top 35
theorem sc__law_draw : FnScope ["town", "many", "row", "at", "cell", "mixed"] ["town", "many"] (defScope s__law_draw) := ⟨rfl, rfl, rfl, by decide +kernel, rfl, by decide +kernel, by decide +kernel⟩
abbrev s_is_whole : Stmt := top 11
theorem sc_is_whole : FnScope ["thing", "low", "high"] ["thing", "low", "high"] (defScope s_is_whole) := ⟨rfl, rfl, rfl, by decide +kernel, rfl, by decide +kernel, by decide +kernel⟩
abbrev s_look_number : Stmt := top 12
theorem sc_look_number : FnScope ["thing", "low", "high"] ["thing", "low", "high"] (defScope s_look_number) := ⟨rfl, rfl, rfl, by decide +kernel, rfl, by decide +kernel, by decide +kernel⟩
abbrev s_Store_init : Stmt := inClass (top 17) 0
theorem sc_Store_init : FnScope ["self", "hands", "cells", "thing"] ["self", "hands", "cells"] (defScope s_Store_init) := ⟨rfl, rfl, rfl, by decide +kernel, rfl, by decide +kernel, by decide +kernel⟩
abbrev s_Rounds_init : Stmt := inClass (top 21) 0
theorem sc_Rounds_init : FnScope ["self", "hands", "cells"] ["self", "hands", "cells"] (defScope s_Rounds_init) := ⟨rfl, rfl, rfl, by decide +kernel, rfl, by decide +kernel, by decide +kernel⟩
abbrev s_Marks_init : Stmt := inClass (top 24) 0
theorem sc_Marks_init : FnScope ["self", "hands", "cells"] ["self", "hands", "cells"] (defScope s_Marks_init) := ⟨rfl, rfl, rfl, by decide +kernel, rfl, by decide +kernel, by decide +kernel⟩
abbrev s_Counts_init : Stmt := inClass (top 26) 0
theorem sc_Counts_init : FnScope ["self", "hands", "cells"] ["self", "hands", "cells"] (defScope s_Counts_init) := ⟨rfl, rfl, rfl, by decide +kernel, rfl, by decide +kernel, by decide +kernel⟩
abbrev s_Versions_init : Stmt := inClass (top 19) 0
theorem sc_Versions_init : FnScope ["self", "hands", "cells", "cell"] ["self", "hands", "cells"] (defScope s_Versions_init) := ⟨rfl, rfl, rfl, by decide +kernel, rfl, by decide +kernel, by decide +kernel⟩
abbrev s_Link_init : Stmt := inClass (top 31) 0
theorem sc_Link_init : FnScope ["self", "key", "after"] ["self", "key", "after"] (defScope s_Link_init) := ⟨rfl, rfl, rfl, by decide +kernel, rfl, by decide +kernel, by decide +kernel⟩
abbrev s_Chain_init : Stmt := inClass (top 32) 0
theorem sc_Chain_init : FnScope ["self", "hands"] ["self", "hands"] (defScope s_Chain_init) := ⟨rfl, rfl, rfl, by decide +kernel, rfl, by decide +kernel, by decide +kernel⟩
abbrev s__law_made : Stmt := top 39
theorem sc__law_made : FnScope ["kind"] ["kind"] (defScope s__law_made) := ⟨rfl, rfl, rfl, by decide +kernel, rfl, by decide +kernel, by decide +kernel⟩
abbrev s__law_pick : Stmt := top 36
theorem sc__law_pick : FnScope ["town", "some"] ["town", "some"] (defScope s__law_pick) := ⟨rfl, rfl, rfl, by decide +kernel, rfl, by decide +kernel, by decide +kernel⟩
abbrev s__law_value : Stmt := top 37
theorem sc__law_value : FnScope ["town"] ["town"] (defScope s__law_value) := ⟨rfl, rfl, rfl, by decide +kernel, rfl, by decide +kernel, by decide +kernel⟩
abbrev s_Store_let_go : Stmt := inClass (top 17) 6
theorem sc_Store_let_go : FnScope ["self", "things", "thing"] ["self", "things"] (defScope s_Store_let_go) := ⟨rfl, rfl, rfl, by decide +kernel, rfl, by decide +kernel, by decide +kernel⟩
abbrev s_Rounds_go_on : Stmt := inClass (top 21) 7
theorem sc_Rounds_go_on : FnScope ["self", "hand", "found", "thing"] ["self"] (defScope s_Rounds_go_on) := ⟨rfl, rfl, rfl, by decide +kernel, rfl, by decide +kernel, by decide +kernel⟩
abbrev s_Store_now : Stmt := inClass (top 17) 8
theorem sc_Store_now : FnScope ["self", "thing"] ["self"] (defScope s_Store_now) := ⟨rfl, rfl, rfl, by decide +kernel, rfl, by decide +kernel, by decide +kernel⟩
abbrev s_Store_kept : Stmt := inClass (top 17) 9
theorem sc_Store_kept : FnScope ["self"] ["self"] (defScope s_Store_kept) := ⟨rfl, rfl, rfl, by decide +kernel, rfl, by decide +kernel, by decide +kernel⟩
abbrev s_Store_look_cell : Stmt := inClass (top 17) 2
theorem sc_Store_look_cell : FnScope ["self", "cell"] ["self", "cell"] (defScope s_Store_look_cell) := ⟨rfl, rfl, rfl, by decide +kernel, rfl, by decide +kernel, by decide +kernel⟩
abbrev s_Rounds_after_swap : Stmt := inClass (top 21) 6
theorem sc_Rounds_after_swap : FnScope ["self", "thing"] ["self", "thing"] (defScope s_Rounds_after_swap) := ⟨rfl, rfl, rfl, by decide +kernel, rfl, by decide +kernel, by decide +kernel⟩
abbrev s_Store_swap : Stmt := inClass (top 17) 5
theorem sc_Store_swap : FnScope ["self", "cell", "value", "old"] ["self", "cell", "value"] (defScope s_Store_swap) := ⟨rfl, rfl, rfl, by decide +kernel, rfl, by decide +kernel, by decide +kernel⟩
abbrev s_Marks_marked : Stmt := inClass (top 24) 9
theorem sc_Marks_marked : FnScope ["self", "found", "one"] ["self"] (defScope s_Marks_marked) := ⟨rfl, rfl, rfl, by decide +kernel, rfl, by decide +kernel, by decide +kernel⟩
abbrev s_Marks_sweep : Stmt := inClass (top 24) 10
theorem sc_Marks_sweep : FnScope ["self", "bear", "found", "thing"] ["self"] (defScope s_Marks_sweep) := ⟨rfl, rfl, rfl, by decide +kernel, rfl, by decide +kernel, by decide +kernel⟩
abbrev s_Marks_after_swap : Stmt := inClass (top 24) 8
theorem sc_Marks_after_swap : FnScope ["self", "thing"] ["self", "thing"] (defScope s_Marks_after_swap) := ⟨rfl, rfl, rfl, by decide +kernel, rfl, by decide +kernel, by decide +kernel⟩
abbrev s_Store_look_hand : Stmt := inClass (top 17) 1
theorem sc_Store_look_hand : FnScope ["self", "hand"] ["self", "hand"] (defScope s_Store_look_hand) := ⟨rfl, rfl, rfl, by decide +kernel, rfl, by decide +kernel, by decide +kernel⟩
abbrev s_Marks_look_mark : Stmt := inClass (top 24) 1
theorem sc_Marks_look_mark : FnScope ["self", "hand", "mark"] ["self", "hand", "mark"] (defScope s_Marks_look_mark) := ⟨rfl, rfl, rfl, by decide +kernel, rfl, by decide +kernel, by decide +kernel⟩
abbrev s_Marks_state_of : Stmt := inClass (top 24) 2
theorem sc_Marks_state_of : FnScope ["self", "hand", "mark", "states", "found"] ["self", "hand", "mark", "states"] (defScope s_Marks_state_of) := ⟨rfl, rfl, rfl, by decide +kernel, rfl, by decide +kernel, by decide +kernel⟩
abbrev s_Marks_set_mark : Stmt := inClass (top 24) 4
theorem sc_Marks_set_mark : FnScope ["self", "hand", "mark", "state", "cell", "thing"] ["self", "hand", "mark"] (defScope s_Marks_set_mark) := ⟨rfl, rfl, rfl, by decide +kernel, rfl, by decide +kernel, by decide +kernel⟩
abbrev s_Marks_fetch : Stmt := inClass (top 24) 3
theorem sc_Marks_fetch : FnScope ["self", "hand", "mark", "cell"] ["self", "hand", "mark", "cell"] (defScope s_Marks_fetch) := ⟨rfl, rfl, rfl, by decide +kernel, rfl, by decide +kernel, by decide +kernel⟩
abbrev s_Counts_holds : Stmt := inClass (top 26) 8
theorem sc_Counts_holds : FnScope ["self", "hand", "one", "thing"] ["self", "hand"] (defScope s_Counts_holds) := ⟨rfl, rfl, rfl, by decide +kernel, rfl, by decide +kernel, by decide +kernel⟩
abbrev s_Counts_count_of : Stmt := inClass (top 26) 1
theorem sc_Counts_count_of : FnScope ["self", "thing", "one"] ["self", "thing"] (defScope s_Counts_count_of) := ⟨rfl, rfl, rfl, by decide +kernel, rfl, by decide +kernel, by decide +kernel⟩
abbrev s_Store_is_out : Stmt := inClass (top 17) 3
theorem sc_Store_is_out : FnScope ["self", "thing"] ["self", "thing"] (defScope s_Store_is_out) := ⟨rfl, rfl, rfl, by decide +kernel, rfl, by decide +kernel, by decide +kernel⟩
abbrev s_Counts_loose : Stmt := inClass (top 26) 6
theorem sc_Counts_loose : FnScope ["self", "thing"] ["self", "thing"] (defScope s_Counts_loose) := ⟨rfl, rfl, rfl, by decide +kernel, rfl, by decide +kernel, by decide +kernel⟩
abbrev s_Counts_after_swap : Stmt := inClass (top 26) 7
theorem sc_Counts_after_swap : FnScope ["self", "thing"] ["self", "thing"] (defScope s_Counts_after_swap) := ⟨rfl, rfl, rfl, by decide +kernel, rfl, by decide +kernel, by decide +kernel⟩
abbrev s_Counts_hold : Stmt := inClass (top 26) 2
theorem sc_Counts_hold : FnScope ["self", "hand", "cell", "thing"] ["self", "hand", "cell"] (defScope s_Counts_hold) := ⟨rfl, rfl, rfl, by decide +kernel, rfl, by decide +kernel, by decide +kernel⟩
abbrev s_Versions_version_now : Stmt := inClass (top 19) 14
theorem sc_Versions_version_now : FnScope ["self"] ["self"] (defScope s_Versions_version_now) := ⟨rfl, rfl, rfl, by decide +kernel, rfl, by decide +kernel, by decide +kernel⟩
abbrev s_Versions_trim : Stmt := inClass (top 19) 11
theorem sc_Versions_trim : FnScope ["self", "seen", "many", "cell", "row", "needed", "made", "value", "version", "one"] ["self"] (defScope s_Versions_trim) := ⟨rfl, rfl, rfl, by decide +kernel, rfl, by decide +kernel, by decide +kernel⟩
abbrev s_Versions_look_cell : Stmt := inClass (top 19) 3
theorem sc_Versions_look_cell : FnScope ["self", "cell"] ["self", "cell"] (defScope s_Versions_look_cell) := ⟨rfl, rfl, rfl, by decide +kernel, rfl, by decide +kernel, by decide +kernel⟩
abbrev s_Versions_kept : Stmt := inClass (top 19) 12
theorem sc_Versions_kept : FnScope ["self", "cell", "made", "value"] ["self", "cell"] (defScope s_Versions_kept) := ⟨rfl, rfl, rfl, by decide +kernel, rfl, by decide +kernel, by decide +kernel⟩
abbrev s_Versions_now : Stmt := inClass (top 19) 13
theorem sc_Versions_now : FnScope ["self", "row"] ["self"] (defScope s_Versions_now) := ⟨rfl, rfl, rfl, by decide +kernel, rfl, by decide +kernel, by decide +kernel⟩
abbrev s_Versions_look_pairs : Stmt := inClass (top 19) 4
theorem sc_Versions_look_pairs : FnScope ["self", "pairs", "fine", "one", "cells", "cell", "value"] ["self", "pairs"] (defScope s_Versions_look_pairs) := ⟨rfl, rfl, rfl, by decide +kernel, rfl, by decide +kernel, by decide +kernel⟩
abbrev s_Versions_write : Stmt := inClass (top 19) 9
theorem sc_Versions_write : FnScope ["self", "pairs", "cell", "value"] ["self", "pairs"] (defScope s_Versions_write) := ⟨rfl, rfl, rfl, by decide +kernel, rfl, by decide +kernel, by decide +kernel⟩
abbrev s_Chain_go_on : Stmt := inClass (top 32) 11
theorem sc_Chain_go_on : FnScope ["self", "hand", "found", "name"] ["self"] (defScope s_Chain_go_on) := ⟨rfl, rfl, rfl, by decide +kernel, rfl, by decide +kernel, by decide +kernel⟩
abbrev s_Chain_len : Stmt := inClass (top 32) 13
theorem sc_Chain_len : FnScope ["self"] ["self"] (defScope s_Chain_len) := ⟨rfl, rfl, rfl, by decide +kernel, rfl, by decide +kernel, by decide +kernel⟩
abbrev s_Chain_place_of : Stmt := inClass (top 32) 1
theorem sc_Chain_place_of : FnScope ["self", "key", "here", "after"] ["self", "key"] (defScope s_Chain_place_of) := ⟨rfl, rfl, rfl, by decide +kernel, rfl, by decide +kernel, by decide +kernel⟩
abbrev s_Chain_has : Stmt := inClass (top 32) 2
theorem sc_Chain_has : FnScope ["self", "key", "after"] ["self", "key"] (defScope s_Chain_has) := ⟨rfl, rfl, rfl, by decide +kernel, rfl, by decide +kernel, by decide +kernel⟩
abbrev s_Chain_take_out : Stmt := inClass (top 32) 4
theorem sc_Chain_take_out : FnScope ["self", "key", "ahead", "name"] ["self", "key"] (defScope s_Chain_take_out) := ⟨rfl, rfl, rfl, by decide +kernel, rfl, by decide +kernel, by decide +kernel⟩
abbrev s_Chain_keys_in : Stmt := inClass (top 32) 5
theorem sc_Chain_keys_in : FnScope ["self", "found", "here"] ["self"] (defScope s_Chain_keys_in) := ⟨rfl, rfl, rfl, by decide +kernel, rfl, by decide +kernel, by decide +kernel⟩
abbrev s_Chain_put : Stmt := inClass (top 32) 3
theorem sc_Chain_put : FnScope ["self", "key", "ahead"] ["self", "key"] (defScope s_Chain_put) := ⟨rfl, rfl, rfl, by decide +kernel, rfl, by decide +kernel, by decide +kernel⟩
abbrev s__law_tell : Stmt := top 38
theorem sc__law_tell : FnScope ["kind", "some", "what"] ["kind", "some", "what"] (defScope s__law_tell) := ⟨rfl, rfl, rfl, by decide +kernel, rfl, by decide +kernel, by decide +kernel⟩
abbrev s_law : Stmt := top 40
theorem sc_law : FnScope ["script", "town", "kind", "two", "whats", "tells", "turn", "k", "told", "one", "alone", "what"] ["script"] (defScope s_law) := ⟨rfl, rfl, rfl, by decide +kernel, rfl, by decide +kernel, by decide +kernel⟩
structure Adr where
  ds_Versions_init : List Value
  c_Rounds : Addr
  c_Store : Addr
  c_Marks : Addr
  c_Counts : Addr
  c_Versions : Addr
  c_Link : Addr
  c_Chain : Addr
  f__law_town : Addr
  d__law_town : FuncData
  f__law_draw : Addr
  d__law_draw : FuncData
  f_is_whole : Addr
  d_is_whole : FuncData
  f_look_number : Addr
  d_look_number : FuncData
  f_Store_init : Addr
  d_Store_init : FuncData
  f_Rounds_init : Addr
  d_Rounds_init : FuncData
  f_Marks_init : Addr
  d_Marks_init : FuncData
  f_Counts_init : Addr
  d_Counts_init : FuncData
  f_Versions_init : Addr
  d_Versions_init : FuncData
  f_Link_init : Addr
  d_Link_init : FuncData
  f_Chain_init : Addr
  d_Chain_init : FuncData
  f__law_made : Addr
  d__law_made : FuncData
  f__law_pick : Addr
  d__law_pick : FuncData
  f__law_value : Addr
  d__law_value : FuncData
  f_Store_let_go : Addr
  d_Store_let_go : FuncData
  f_Rounds_go_on : Addr
  d_Rounds_go_on : FuncData
  f_Store_now : Addr
  d_Store_now : FuncData
  f_Store_kept : Addr
  d_Store_kept : FuncData
  f_Store_look_cell : Addr
  d_Store_look_cell : FuncData
  f_Rounds_after_swap : Addr
  d_Rounds_after_swap : FuncData
  f_Store_swap : Addr
  d_Store_swap : FuncData
  f_Marks_marked : Addr
  d_Marks_marked : FuncData
  f_Marks_sweep : Addr
  d_Marks_sweep : FuncData
  f_Marks_after_swap : Addr
  d_Marks_after_swap : FuncData
  f_Store_look_hand : Addr
  d_Store_look_hand : FuncData
  f_Marks_look_mark : Addr
  d_Marks_look_mark : FuncData
  f_Marks_state_of : Addr
  d_Marks_state_of : FuncData
  f_Marks_set_mark : Addr
  d_Marks_set_mark : FuncData
  f_Marks_fetch : Addr
  d_Marks_fetch : FuncData
  f_Counts_holds : Addr
  d_Counts_holds : FuncData
  f_Counts_count_of : Addr
  d_Counts_count_of : FuncData
  f_Store_is_out : Addr
  d_Store_is_out : FuncData
  f_Counts_loose : Addr
  d_Counts_loose : FuncData
  f_Counts_after_swap : Addr
  d_Counts_after_swap : FuncData
  f_Counts_hold : Addr
  d_Counts_hold : FuncData
  f_Versions_version_now : Addr
  d_Versions_version_now : FuncData
  f_Versions_trim : Addr
  d_Versions_trim : FuncData
  f_Versions_look_cell : Addr
  d_Versions_look_cell : FuncData
  f_Versions_kept : Addr
  d_Versions_kept : FuncData
  f_Versions_now : Addr
  d_Versions_now : FuncData
  f_Versions_look_pairs : Addr
  d_Versions_look_pairs : FuncData
  f_Versions_write : Addr
  d_Versions_write : FuncData
  f_Chain_go_on : Addr
  d_Chain_go_on : FuncData
  f_Chain_len : Addr
  d_Chain_len : FuncData
  f_Chain_place_of : Addr
  d_Chain_place_of : FuncData
  f_Chain_has : Addr
  d_Chain_has : FuncData
  f_Chain_take_out : Addr
  d_Chain_take_out : FuncData
  f_Chain_keys_in : Addr
  d_Chain_keys_in : FuncData
  f_Chain_put : Addr
  d_Chain_put : FuncData
  f__law_tell : Addr
  d__law_tell : FuncData
  f_law : Addr
  d_law : FuncData
  t_END : Tok
  t_MARKS : Tok
  t_MOST_CELLS : Tok
  t_MOST_HANDS_chains : Tok
  t_MOST_HANDS_stores : Tok
  t_MOST_KEY : Tok
  t_MOST_VALUE : Tok
structure Txt (K : PySem.W.Frag) (mg : Str → Option Value) (D : Adr) : Prop where
  F__law_town : Fun K "_law_town" "_law_town" s__law_town D.f__law_town D.d__law_town
  b__law_town : Binds K D.d__law_town ["script"] []
  g__law_town : mg "_law_town" = some (.ref D.f__law_town)
  F__law_draw : Fun K "_law_draw" "_law_draw" s__law_draw D.f__law_draw D.d__law_draw
  b__law_draw : Binds K D.d__law_draw ["town", "many"] []
  g__law_draw : mg "_law_draw" = some (.ref D.f__law_draw)
  F_is_whole : Fun K "is_whole" "is_whole" s_is_whole D.f_is_whole D.d_is_whole
  b_is_whole : Binds K D.d_is_whole ["thing", "low", "high"] []
  g_is_whole : mg "is_whole" = some (.ref D.f_is_whole)
  F_look_number : Fun K "look_number" "look_number" s_look_number D.f_look_number D.d_look_number
  b_look_number : Binds K D.d_look_number ["thing", "low", "high"] []
  g_look_number : mg "look_number" = some (.ref D.f_look_number)
  F_Store_init : Fun K "__init__" "Store.__init__" s_Store_init D.f_Store_init D.d_Store_init
  b_Store_init : Binds K D.d_Store_init ["self", "hands", "cells"] []
  F_Rounds_init : Fun K "__init__" "Rounds.__init__" s_Rounds_init D.f_Rounds_init D.d_Rounds_init
  b_Rounds_init : Binds K D.d_Rounds_init ["self", "hands", "cells"] []
  F_Marks_init : Fun K "__init__" "Marks.__init__" s_Marks_init D.f_Marks_init D.d_Marks_init
  b_Marks_init : Binds K D.d_Marks_init ["self", "hands", "cells"] []
  F_Counts_init : Fun K "__init__" "Counts.__init__" s_Counts_init D.f_Counts_init D.d_Counts_init
  b_Counts_init : Binds K D.d_Counts_init ["self", "hands", "cells"] []
  F_Versions_init : FunD K "__init__" "Versions.__init__" (defArgs s_Versions_init) (defBody s_Versions_init) (defScope s_Versions_init) [.int 3] [] D.f_Versions_init D.d_Versions_init
  bd_Versions_init : Binds K D.d_Versions_init ["self", "hands", "cells"] D.ds_Versions_init
  vd_Versions_init : Vals [.int 3] D.ds_Versions_init
  kb_Versions_init : KBn K D.d_Versions_init ["self", "hands", "cells"] 2 ["cells"] (fun us ws => us ++ ws) (fun vs zs => vs ++ zs)
  b_Versions_init : Binds K D.d_Versions_init ["self", "hands", "cells"] []
  F_Link_init : Fun K "__init__" "Link.__init__" s_Link_init D.f_Link_init D.d_Link_init
  b_Link_init : Binds K D.d_Link_init ["self", "key", "after"] []
  F_Chain_init : Fun K "__init__" "Chain.__init__" s_Chain_init D.f_Chain_init D.d_Chain_init
  b_Chain_init : Binds K D.d_Chain_init ["self", "hands"] []
  F__law_made : Fun K "_law_made" "_law_made" s__law_made D.f__law_made D.d__law_made
  b__law_made : Binds K D.d__law_made ["kind"] []
  g__law_made : mg "_law_made" = some (.ref D.f__law_made)
  F__law_pick : Fun K "_law_pick" "_law_pick" s__law_pick D.f__law_pick D.d__law_pick
  b__law_pick : Binds K D.d__law_pick ["town", "some"] []
  g__law_pick : mg "_law_pick" = some (.ref D.f__law_pick)
  F__law_value : Fun K "_law_value" "_law_value" s__law_value D.f__law_value D.d__law_value
  b__law_value : Binds K D.d__law_value ["town"] []
  g__law_value : mg "_law_value" = some (.ref D.f__law_value)
  F_Store_let_go : Fun K "let_go" "Store.let_go" s_Store_let_go D.f_Store_let_go D.d_Store_let_go
  b_Store_let_go : Binds K D.d_Store_let_go ["self", "things"] []
  F_Rounds_go_on : Fun K "go_on" "Rounds.go_on" s_Rounds_go_on D.f_Rounds_go_on D.d_Rounds_go_on
  b_Rounds_go_on : Binds K D.d_Rounds_go_on ["self"] []
  F_Store_now : Fun K "now" "Store.now" s_Store_now D.f_Store_now D.d_Store_now
  b_Store_now : Binds K D.d_Store_now ["self"] []
  F_Store_kept : Fun K "kept" "Store.kept" s_Store_kept D.f_Store_kept D.d_Store_kept
  b_Store_kept : Binds K D.d_Store_kept ["self"] []
  F_Store_look_cell : Fun K "look_cell" "Store.look_cell" s_Store_look_cell D.f_Store_look_cell D.d_Store_look_cell
  b_Store_look_cell : Binds K D.d_Store_look_cell ["self", "cell"] []
  F_Rounds_after_swap : Fun K "after_swap" "Rounds.after_swap" s_Rounds_after_swap D.f_Rounds_after_swap D.d_Rounds_after_swap
  b_Rounds_after_swap : Binds K D.d_Rounds_after_swap ["self", "thing"] []
  F_Store_swap : Fun K "swap" "Store.swap" s_Store_swap D.f_Store_swap D.d_Store_swap
  b_Store_swap : Binds K D.d_Store_swap ["self", "cell", "value"] []
  F_Marks_marked : Fun K "marked" "Marks.marked" s_Marks_marked D.f_Marks_marked D.d_Marks_marked
  b_Marks_marked : Binds K D.d_Marks_marked ["self"] []
  F_Marks_sweep : Fun K "sweep" "Marks.sweep" s_Marks_sweep D.f_Marks_sweep D.d_Marks_sweep
  b_Marks_sweep : Binds K D.d_Marks_sweep ["self"] []
  F_Marks_after_swap : Fun K "after_swap" "Marks.after_swap" s_Marks_after_swap D.f_Marks_after_swap D.d_Marks_after_swap
  b_Marks_after_swap : Binds K D.d_Marks_after_swap ["self", "thing"] []
  F_Store_look_hand : Fun K "look_hand" "Store.look_hand" s_Store_look_hand D.f_Store_look_hand D.d_Store_look_hand
  b_Store_look_hand : Binds K D.d_Store_look_hand ["self", "hand"] []
  F_Marks_look_mark : Fun K "look_mark" "Marks.look_mark" s_Marks_look_mark D.f_Marks_look_mark D.d_Marks_look_mark
  b_Marks_look_mark : Binds K D.d_Marks_look_mark ["self", "hand", "mark"] []
  F_Marks_state_of : Fun K "state_of" "Marks.state_of" s_Marks_state_of D.f_Marks_state_of D.d_Marks_state_of
  b_Marks_state_of : Binds K D.d_Marks_state_of ["self", "hand", "mark", "states"] []
  F_Marks_set_mark : Fun K "set_mark" "Marks.set_mark" s_Marks_set_mark D.f_Marks_set_mark D.d_Marks_set_mark
  b_Marks_set_mark : Binds K D.d_Marks_set_mark ["self", "hand", "mark"] []
  F_Marks_fetch : Fun K "fetch" "Marks.fetch" s_Marks_fetch D.f_Marks_fetch D.d_Marks_fetch
  b_Marks_fetch : Binds K D.d_Marks_fetch ["self", "hand", "mark", "cell"] []
  F_Counts_holds : Fun K "holds" "Counts.holds" s_Counts_holds D.f_Counts_holds D.d_Counts_holds
  b_Counts_holds : Binds K D.d_Counts_holds ["self", "hand"] []
  F_Counts_count_of : Fun K "count_of" "Counts.count_of" s_Counts_count_of D.f_Counts_count_of D.d_Counts_count_of
  b_Counts_count_of : Binds K D.d_Counts_count_of ["self", "thing"] []
  F_Store_is_out : Fun K "is_out" "Store.is_out" s_Store_is_out D.f_Store_is_out D.d_Store_is_out
  b_Store_is_out : Binds K D.d_Store_is_out ["self", "thing"] []
  F_Counts_loose : Fun K "loose" "Counts.loose" s_Counts_loose D.f_Counts_loose D.d_Counts_loose
  b_Counts_loose : Binds K D.d_Counts_loose ["self", "thing"] []
  F_Counts_after_swap : Fun K "after_swap" "Counts.after_swap" s_Counts_after_swap D.f_Counts_after_swap D.d_Counts_after_swap
  b_Counts_after_swap : Binds K D.d_Counts_after_swap ["self", "thing"] []
  F_Counts_hold : Fun K "hold" "Counts.hold" s_Counts_hold D.f_Counts_hold D.d_Counts_hold
  b_Counts_hold : Binds K D.d_Counts_hold ["self", "hand", "cell"] []
  F_Versions_version_now : Fun K "version_now" "Versions.version_now" s_Versions_version_now D.f_Versions_version_now D.d_Versions_version_now
  b_Versions_version_now : Binds K D.d_Versions_version_now ["self"] []
  F_Versions_trim : Fun K "trim" "Versions.trim" s_Versions_trim D.f_Versions_trim D.d_Versions_trim
  b_Versions_trim : Binds K D.d_Versions_trim ["self"] []
  F_Versions_look_cell : Fun K "look_cell" "Versions.look_cell" s_Versions_look_cell D.f_Versions_look_cell D.d_Versions_look_cell
  b_Versions_look_cell : Binds K D.d_Versions_look_cell ["self", "cell"] []
  F_Versions_kept : Fun K "kept" "Versions.kept" s_Versions_kept D.f_Versions_kept D.d_Versions_kept
  b_Versions_kept : Binds K D.d_Versions_kept ["self", "cell"] []
  F_Versions_now : Fun K "now" "Versions.now" s_Versions_now D.f_Versions_now D.d_Versions_now
  b_Versions_now : Binds K D.d_Versions_now ["self"] []
  F_Versions_look_pairs : Fun K "look_pairs" "Versions.look_pairs" s_Versions_look_pairs D.f_Versions_look_pairs D.d_Versions_look_pairs
  b_Versions_look_pairs : Binds K D.d_Versions_look_pairs ["self", "pairs"] []
  F_Versions_write : Fun K "write" "Versions.write" s_Versions_write D.f_Versions_write D.d_Versions_write
  b_Versions_write : Binds K D.d_Versions_write ["self", "pairs"] []
  F_Chain_go_on : Fun K "go_on" "Chain.go_on" s_Chain_go_on D.f_Chain_go_on D.d_Chain_go_on
  b_Chain_go_on : Binds K D.d_Chain_go_on ["self"] []
  F_Chain_len : Fun K "__len__" "Chain.__len__" s_Chain_len D.f_Chain_len D.d_Chain_len
  b_Chain_len : Binds K D.d_Chain_len ["self"] []
  F_Chain_place_of : Fun K "place_of" "Chain.place_of" s_Chain_place_of D.f_Chain_place_of D.d_Chain_place_of
  b_Chain_place_of : Binds K D.d_Chain_place_of ["self", "key"] []
  F_Chain_has : Fun K "has" "Chain.has" s_Chain_has D.f_Chain_has D.d_Chain_has
  b_Chain_has : Binds K D.d_Chain_has ["self", "key"] []
  F_Chain_take_out : Fun K "take_out" "Chain.take_out" s_Chain_take_out D.f_Chain_take_out D.d_Chain_take_out
  b_Chain_take_out : Binds K D.d_Chain_take_out ["self", "key"] []
  F_Chain_keys_in : Fun K "keys_in" "Chain.keys_in" s_Chain_keys_in D.f_Chain_keys_in D.d_Chain_keys_in
  b_Chain_keys_in : Binds K D.d_Chain_keys_in ["self"] []
  F_Chain_put : Fun K "put" "Chain.put" s_Chain_put D.f_Chain_put D.d_Chain_put
  b_Chain_put : Binds K D.d_Chain_put ["self", "key"] []
  F__law_tell : Fun K "_law_tell" "_law_tell" s__law_tell D.f__law_tell D.d__law_tell
  b__law_tell : Binds K D.d__law_tell ["kind", "some", "what"] []
  g__law_tell : mg "_law_tell" = some (.ref D.f__law_tell)
  F_law : Fun K "law" "law" s_law D.f_law D.d_law
  b_law : Binds K D.d_law ["script"] []
  g_law : mg "law" = some (.ref D.f_law)
  cl_Rounds : Cls K D.c_Rounds
  g_Rounds : mg "Rounds" = some (.ref D.c_Rounds)
  na_Rounds_hands : NoAttr K D.c_Rounds "hands"
  na_Rounds_worth : NoAttr K D.c_Rounds "worth"
  na_Rounds_cells : NoAttr K D.c_Rounds "cells"
  na_Rounds_made : NoAttr K D.c_Rounds "made"
  na_Rounds_era : NoAttr K D.c_Rounds "era"
  na_Rounds_inside : NoAttr K D.c_Rounds "inside"
  na_Rounds_saw : NoAttr K D.c_Rounds "saw"
  na_Rounds_waits : NoAttr K D.c_Rounds "waits"
  mk_Rounds : Mk K D.c_Rounds D.f_Rounds_init
  cl_Store : Cls K D.c_Store
  g_Store : mg "Store" = some (.ref D.c_Store)
  cl_Marks : Cls K D.c_Marks
  g_Marks : mg "Marks" = some (.ref D.c_Marks)
  na_Marks_hands : NoAttr K D.c_Marks "hands"
  na_Marks_worth : NoAttr K D.c_Marks "worth"
  na_Marks_cells : NoAttr K D.c_Marks "cells"
  na_Marks_made : NoAttr K D.c_Marks "made"
  na_Marks_marks : NoAttr K D.c_Marks "marks"
  na_Marks_waits : NoAttr K D.c_Marks "waits"
  mk_Marks : Mk K D.c_Marks D.f_Marks_init
  cl_Counts : Cls K D.c_Counts
  g_Counts : mg "Counts" = some (.ref D.c_Counts)
  na_Counts_hands : NoAttr K D.c_Counts "hands"
  na_Counts_worth : NoAttr K D.c_Counts "worth"
  na_Counts_cells : NoAttr K D.c_Counts "cells"
  na_Counts_made : NoAttr K D.c_Counts "made"
  na_Counts_held : NoAttr K D.c_Counts "held"
  mk_Counts : Mk K D.c_Counts D.f_Counts_init
  cl_Versions : Cls K D.c_Versions
  g_Versions : mg "Versions" = some (.ref D.c_Versions)
  na_Versions_hands : NoAttr K D.c_Versions "hands"
  na_Versions_rows : NoAttr K D.c_Versions "rows"
  na_Versions_version : NoAttr K D.c_Versions "version"
  na_Versions_begun : NoAttr K D.c_Versions "begun"
  na_Versions_asked : NoAttr K D.c_Versions "asked"
  mk_Versions : Mk K D.c_Versions D.f_Versions_init
  cl_Link : Cls K D.c_Link
  g_Link : mg "Link" = some (.ref D.c_Link)
  na_Link_key : NoAttr K D.c_Link "key"
  na_Link_after : NoAttr K D.c_Link "after"
  mk_Link : Mk K D.c_Link D.f_Link_init
  cl_Chain : Cls K D.c_Chain
  g_Chain : mg "Chain" = some (.ref D.c_Chain)
  na_Chain_hands : NoAttr K D.c_Chain "hands"
  na_Chain_links : NoAttr K D.c_Chain "links"
  na_Chain_made : NoAttr K D.c_Chain "made"
  na_Chain_era : NoAttr K D.c_Chain "era"
  na_Chain_inside : NoAttr K D.c_Chain "inside"
  na_Chain_at : NoAttr K D.c_Chain "at"
  na_Chain_waits : NoAttr K D.c_Chain "waits"
  mk_Chain : Mk K D.c_Chain D.f_Chain_init
  me_Rounds_let_go : Meth K D.c_Rounds "let_go" D.f_Store_let_go
  me_Rounds_go_on : Meth K D.c_Rounds "go_on" D.f_Rounds_go_on
  me_Rounds_now : Meth K D.c_Rounds "now" D.f_Store_now
  me_Rounds_kept : Meth K D.c_Rounds "kept" D.f_Store_kept
  me_Rounds_look_cell : Meth K D.c_Rounds "look_cell" D.f_Store_look_cell
  me_Rounds_after_swap : Meth K D.c_Rounds "after_swap" D.f_Rounds_after_swap
  me_Rounds_swap : Meth K D.c_Rounds "swap" D.f_Store_swap
  me_Marks_kept : Meth K D.c_Marks "kept" D.f_Store_kept
  me_Marks_marked : Meth K D.c_Marks "marked" D.f_Marks_marked
  me_Marks_let_go : Meth K D.c_Marks "let_go" D.f_Store_let_go
  me_Marks_sweep : Meth K D.c_Marks "sweep" D.f_Marks_sweep
  me_Marks_look_cell : Meth K D.c_Marks "look_cell" D.f_Store_look_cell
  me_Marks_after_swap : Meth K D.c_Marks "after_swap" D.f_Marks_after_swap
  me_Marks_swap : Meth K D.c_Marks "swap" D.f_Store_swap
  me_Marks_look_hand : Meth K D.c_Marks "look_hand" D.f_Store_look_hand
  me_Marks_look_mark : Meth K D.c_Marks "look_mark" D.f_Marks_look_mark
  me_Marks_state_of : Meth K D.c_Marks "state_of" D.f_Marks_state_of
  me_Marks_set_mark : Meth K D.c_Marks "set_mark" D.f_Marks_set_mark
  me_Marks_fetch : Meth K D.c_Marks "fetch" D.f_Marks_fetch
  me_Counts_kept : Meth K D.c_Counts "kept" D.f_Store_kept
  me_Counts_look_hand : Meth K D.c_Counts "look_hand" D.f_Store_look_hand
  me_Counts_holds : Meth K D.c_Counts "holds" D.f_Counts_holds
  me_Counts_look_cell : Meth K D.c_Counts "look_cell" D.f_Store_look_cell
  me_Counts_count_of : Meth K D.c_Counts "count_of" D.f_Counts_count_of
  me_Counts_is_out : Meth K D.c_Counts "is_out" D.f_Store_is_out
  me_Counts_let_go : Meth K D.c_Counts "let_go" D.f_Store_let_go
  me_Counts_loose : Meth K D.c_Counts "loose" D.f_Counts_loose
  me_Counts_after_swap : Meth K D.c_Counts "after_swap" D.f_Counts_after_swap
  me_Counts_swap : Meth K D.c_Counts "swap" D.f_Store_swap
  me_Counts_hold : Meth K D.c_Counts "hold" D.f_Counts_hold
  me_Versions_version_now : Meth K D.c_Versions "version_now" D.f_Versions_version_now
  me_Versions_trim : Meth K D.c_Versions "trim" D.f_Versions_trim
  me_Versions_look_cell : Meth K D.c_Versions "look_cell" D.f_Versions_look_cell
  me_Versions_kept : Meth K D.c_Versions "kept" D.f_Versions_kept
  me_Versions_now : Meth K D.c_Versions "now" D.f_Versions_now
  me_Versions_look_pairs : Meth K D.c_Versions "look_pairs" D.f_Versions_look_pairs
  me_Versions_write : Meth K D.c_Versions "write" D.f_Versions_write
  me_Chain_go_on : Meth K D.c_Chain "go_on" D.f_Chain_go_on
  me_Chain___len__ : Meth K D.c_Chain "__len__" D.f_Chain_len
  me_Chain_place_of : Meth K D.c_Chain "place_of" D.f_Chain_place_of
  me_Chain_has : Meth K D.c_Chain "has" D.f_Chain_has
  me_Chain_take_out : Meth K D.c_Chain "take_out" D.f_Chain_take_out
  me_Chain_keys_in : Meth K D.c_Chain "keys_in" D.f_Chain_keys_in
  me_Chain_put : Meth K D.c_Chain "put" D.f_Chain_put
  cf_Store_init : CFn K D.c_Store (.type "type") "__init__" D.f_Store_init
  m_all : mg "all" = none
  m_bool : mg "bool" = none
  m_dict : mg "dict" = none
  m_int : mg "int" = none
  m_isinstance : mg "isinstance" = none
  m_len : mg "len" = none
  m_list : mg "list" = none
  m_max : mg "max" = none
  m_range : mg "range" = none
  m_set : mg "set" = none
  m_sorted : mg "sorted" = none
  m_sum : mg "sum" = none
  m_tuple : mg "tuple" = none
  k_END : mg "END" = some (.int (-1) D.t_END)
  k_MARKS : mg "MARKS" = some (.int (2) D.t_MARKS)
  k_MOST_CELLS : mg "MOST_CELLS" = some (.int (5) D.t_MOST_CELLS)
  k_MOST_HANDS_chains : mg "MOST_HANDS_chains" = some (.int (6) D.t_MOST_HANDS_chains)
  k_MOST_HANDS_stores : mg "MOST_HANDS_stores" = some (.int (6) D.t_MOST_HANDS_stores)
  k_MOST_KEY : mg "MOST_KEY" = some (.int (999) D.t_MOST_KEY)
  k_MOST_VALUE : mg "MOST_VALUE" = some (.int (999) D.t_MOST_VALUE)
section
variable {P : Program} {w : World} {K : PySem.W.Frag} {mg : Str → Option Value} {base : Heap} {D : Adr}
set_option maxHeartbeats 8000000 in
theorem ok__law_town (T : Txt K mg D) : FnOk P w K mg base CX0 1 D.f__law_town D.d__law_town ["script"] (sp__law_town K) := by
  refine T.F__law_town.ok sc__law_town (fun vs H Q E h => ?_) (fun cdv A outer s H vs Q E hr h => ⟨t__law_town K, ?_, ?_⟩)
  · first | (obtain ⟨_, rfl, _⟩ := h; rfl) | (obtain ⟨_, _, rfl, _⟩ := h; rfl) | (obtain ⟨_, _, _, rfl, _⟩ := h; rfl) | (obtain ⟨_, _, _, _, rfl, _⟩ := h; rfl) | (obtain ⟨_, _, _, _, _, rfl, _⟩ := h; rfl) | (obtain ⟨_, _, _, _, _, _, rfl, _⟩ := h; rfl) | (obtain ⟨_, _, _, _, _, _, _, rfl, _⟩ := h; rfl) | (obtain ⟨_, _, _, _, _, _, _, _, rfl, _⟩ := h; rfl) | (obtain ⟨_, _, _, _, _, _, _, _, _, rfl, _⟩ := h; rfl) | (obtain ⟨_, _, _, _, _, _, _, _, _, _, rfl, _⟩ := h; rfl) | (obtain ⟨_, _, _, _, _, _, _, _, _, _, _, rfl, _⟩ := h; rfl) | (obtain ⟨_, _, _, _, _, _, _, _, _, _, _, _, rfl, _⟩ := h; rfl) | (obtain ⟨_, _, _, _, _, _, _, _, _, _, _, _, _, rfl, _⟩ := h; rfl) | (obtain ⟨_, _, _, _, _, _, _, _, _, _, _, _, _, _, rfl, _⟩ := h; rfl) | (obtain ⟨_, _, _, _, _, _, _, _, _, _, _, _, _, _, _, rfl, _⟩ := h; rfl)
  · have hu := hu_of hr
    exact pss_one (ps_ret (pe_lst (pa_cons (pe_ifExp (pt_cmpR (op_neD hr.units) (pv 0) (pe_lst (pa_nil)) (nomark _)) (pe_callTy call_listOf (by rfl) T.m_list (by decide +kernel) (pa_cons (pv 0) (pa_nil))) (pe_lst (pa_cons (pe_int) (pa_nil)))) (pa_cons (pe_int) (pa_nil)))))
  · exact pure__law_town h
set_option maxHeartbeats 8000000 in
theorem ok__law_draw (T : Txt K mg D) : FnOk P w K mg base CX0 1 D.f__law_draw D.d__law_draw ["town", "many"] (sp__law_draw) := by
  refine T.F__law_draw.ok sc__law_draw (fun vs H Q E h => ?_) (fun cdv A outer s H vs Q E hr h => ⟨t__law_draw K, ?_, ?_⟩)
  · first | (obtain ⟨_, rfl, _⟩ := h; rfl) | (obtain ⟨_, _, rfl, _⟩ := h; rfl) | (obtain ⟨_, _, _, rfl, _⟩ := h; rfl) | (obtain ⟨_, _, _, _, rfl, _⟩ := h; rfl) | (obtain ⟨_, _, _, _, _, rfl, _⟩ := h; rfl) | (obtain ⟨_, _, _, _, _, _, rfl, _⟩ := h; rfl) | (obtain ⟨_, _, _, _, _, _, _, rfl, _⟩ := h; rfl) | (obtain ⟨_, _, _, _, _, _, _, _, rfl, _⟩ := h; rfl) | (obtain ⟨_, _, _, _, _, _, _, _, _, rfl, _⟩ := h; rfl) | (obtain ⟨_, _, _, _, _, _, _, _, _, _, rfl, _⟩ := h; rfl) | (obtain ⟨_, _, _, _, _, _, _, _, _, _, _, rfl, _⟩ := h; rfl) | (obtain ⟨_, _, _, _, _, _, _, _, _, _, _, _, rfl, _⟩ := h; rfl) | (obtain ⟨_, _, _, _, _, _, _, _, _, _, _, _, _, rfl, _⟩ := h; rfl) | (obtain ⟨_, _, _, _, _, _, _, _, _, _, _, _, _, _, rfl, _⟩ := h; rfl) | (obtain ⟨_, _, _, _, _, _, _, _, _, _, _, _, _, _, _, rfl, _⟩ := h; rfl)
  · have hu := hu_of hr
    exact pss_cons (ps_set (i := 2) sc__law_draw.nd rfl (by first | exact Or.inl rfl | exact Or.inr rfl) (pe_ix ix_list (pv 0) (pe_int) (fun _ _ => rfl)))
      (pss_cons (ps_asg (pe_op op_addI (pe_ix ix_list (pv 0) (pe_int) (fun _ _ => rfl)) (pe_int)) (pg_sub (pv 0) (pe_int) set_list))
      (pss_cons (ps_set (i := 3) sc__law_draw.nd rfl (by first | exact Or.inl rfl | exact Or.inr rfl) (pe_op op_modI (pe_ix ix_list (pv 0) (pe_int) (fun _ _ => rfl)) (pe_callB call_lenQ (by rfl) T.m_len PySem.boot_len (pa_cons (pv 2) (pa_nil)))))
      (pss_cons (ps_set (i := 4) sc__law_draw.nd rfl (by first | exact Or.inl rfl | exact Or.inr rfl) (pe_ix ix_list (pv 2) (pv 3) (fun _ _ => rfl)))
      (pss_cons (ps_if (pt_cmpR op_geI (pv 4) (pe_int) (nomark _)) (pss_cons (ps_asg (pe_op op_divI (pv 4) (pv 1)) (pg_sub (pv 2) (pv 3) set_list))
      (pss_one (ps_ret (pe_op op_modI (pv 4) (pv 1))))) (pss_nil))
      (pss_cons (ps_set (i := 5) sc__law_draw.nd rfl (by first | exact Or.inl rfl | exact Or.inr rfl) (pe_op op_modI (pe_op op_addI (pv 4) (pe_op op_mulI (pe_int) (pe_ix ix_list (pv 0) (pe_int) (fun _ _ => rfl)))) (pe_int)))
      (pss_cons (ps_set (i := 5) sc__law_draw.nd rfl (by first | exact Or.inl rfl | exact Or.inr rfl) (pe_op op_modI (pe_op op_powI (pv 5) (pe_int)) (pe_int)))
      (pss_one (ps_ret (pe_op op_modI (pe_op op_divI (pe_op op_modI (pe_op op_addI (pe_op op_mulI (pe_op op_divI (pv 5) (pe_int)) (pe_int)) (pv 5)) (pe_int)) (pe_int)) (pv 1))))))))))
  · exact pure__law_draw h
set_option maxHeartbeats 8000000 in
theorem ok_is_whole (T : Txt K mg D) : FnOk P w K mg base CX0 1 D.f_is_whole D.d_is_whole ["thing", "low", "high"] (sp_is_whole) := by
  refine T.F_is_whole.ok sc_is_whole (fun vs H Q E h => ?_) (fun cdv A outer s H vs Q E hr h => ⟨t_is_whole K, ?_, ?_⟩)
  · first | (obtain ⟨_, rfl, _⟩ := h; rfl) | (obtain ⟨_, _, rfl, _⟩ := h; rfl) | (obtain ⟨_, _, _, rfl, _⟩ := h; rfl) | (obtain ⟨_, _, _, _, rfl, _⟩ := h; rfl) | (obtain ⟨_, _, _, _, _, rfl, _⟩ := h; rfl) | (obtain ⟨_, _, _, _, _, _, rfl, _⟩ := h; rfl) | (obtain ⟨_, _, _, _, _, _, _, rfl, _⟩ := h; rfl) | (obtain ⟨_, _, _, _, _, _, _, _, rfl, _⟩ := h; rfl) | (obtain ⟨_, _, _, _, _, _, _, _, _, rfl, _⟩ := h; rfl) | (obtain ⟨_, _, _, _, _, _, _, _, _, _, rfl, _⟩ := h; rfl) | (obtain ⟨_, _, _, _, _, _, _, _, _, _, _, rfl, _⟩ := h; rfl) | (obtain ⟨_, _, _, _, _, _, _, _, _, _, _, _, rfl, _⟩ := h; rfl) | (obtain ⟨_, _, _, _, _, _, _, _, _, _, _, _, _, rfl, _⟩ := h; rfl) | (obtain ⟨_, _, _, _, _, _, _, _, _, _, _, _, _, _, rfl, _⟩ := h; rfl) | (obtain ⟨_, _, _, _, _, _, _, _, _, _, _, _, _, _, _, rfl, _⟩ := h; rfl)
  · have hu := hu_of hr
    exact pss_one (ps_ret (pe_and (pe_callB call_isi (by rfl) T.m_isinstance (by decide +kernel) (pa_cons (pv 0) (pa_cons (pe_bltn (v := .ty "int") (by rfl) T.m_int (by decide +kernel) rfl) (pa_nil)))) (pe_and (pe_not (pe_callB call_isi (by rfl) T.m_isinstance (by decide +kernel) (pa_cons (pv 0) (pa_cons (pe_bltn (v := .ty "bool") (by rfl) T.m_bool (by decide +kernel) rfl) (pa_nil))))) (pe_one (pe_chain op_leI op_leI (pv 1) (pv 0) (pv 2))))))
  · exact pure_is_whole h
set_option maxHeartbeats 8000000 in
theorem ok_look_number (T : Txt K mg D) : FnOk P w K mg base CX0 2 D.f_look_number D.d_look_number ["thing", "low", "high"] (sp_look_number) := by
  have G_is_whole : FnOk P w K mg base CX0 1 D.f_is_whole D.d_is_whole ["thing", "low", "high"] (sp_is_whole) := ok_is_whole T
  refine T.F_look_number.ok sc_look_number (fun vs H Q E h => ?_) (fun cdv A outer s H vs Q E hr h => ⟨t_look_number K (sp_is_whole), ?_, ?_⟩)
  · first | (obtain ⟨_, rfl, _⟩ := h; rfl) | (obtain ⟨_, _, rfl, _⟩ := h; rfl) | (obtain ⟨_, _, _, rfl, _⟩ := h; rfl) | (obtain ⟨_, _, _, _, rfl, _⟩ := h; rfl) | (obtain ⟨_, _, _, _, _, rfl, _⟩ := h; rfl) | (obtain ⟨_, _, _, _, _, _, rfl, _⟩ := h; rfl) | (obtain ⟨_, _, _, _, _, _, _, rfl, _⟩ := h; rfl) | (obtain ⟨_, _, _, _, _, _, _, _, rfl, _⟩ := h; rfl) | (obtain ⟨_, _, _, _, _, _, _, _, _, rfl, _⟩ := h; rfl) | (obtain ⟨_, _, _, _, _, _, _, _, _, _, rfl, _⟩ := h; rfl) | (obtain ⟨_, _, _, _, _, _, _, _, _, _, _, rfl, _⟩ := h; rfl) | (obtain ⟨_, _, _, _, _, _, _, _, _, _, _, _, rfl, _⟩ := h; rfl) | (obtain ⟨_, _, _, _, _, _, _, _, _, _, _, _, _, rfl, _⟩ := h; rfl) | (obtain ⟨_, _, _, _, _, _, _, _, _, _, _, _, _, _, rfl, _⟩ := h; rfl) | (obtain ⟨_, _, _, _, _, _, _, _, _, _, _, _, _, _, _, rfl, _⟩ := h; rfl)
  · have hu := hu_of hr
    exact pss_one (ps_if (pt_not (pt_val (pe_call G_is_whole (hr.mono (by decide)) (by rfl) T.g_is_whole T.F_is_whole.kp T.b_is_whole .nil pass0 (pa_cons (pv 0) (pa_cons (pv 1) (pa_cons (pv 2) (pa_nil))))))) (pss_one (ps_never)) (pss_nil))
  · exact pure_look_number h
set_option maxHeartbeats 8000000 in
theorem ok_Rounds__Store_init (T : Txt K mg D) : FnOk P w K mg base CX0 3 D.f_Store_init D.d_Store_init ["self", "hands", "cells"] (sp_init D.c_Rounds) := by
  have G_look_number : FnOk P w K mg base CX0 2 D.f_look_number D.d_look_number ["thing", "low", "high"] (sp_look_number) := ok_look_number T
  refine T.F_Store_init.ok sc_Store_init (fun vs H Q E h => ?_) (fun cdv A outer s H vs Q E hr h => ⟨t_Store_init K (sp_look_number), ?_, ?_⟩)
  · first | (obtain ⟨_, rfl, _⟩ := h; rfl) | (obtain ⟨_, _, rfl, _⟩ := h; rfl) | (obtain ⟨_, _, _, rfl, _⟩ := h; rfl) | (obtain ⟨_, _, _, _, rfl, _⟩ := h; rfl) | (obtain ⟨_, _, _, _, _, rfl, _⟩ := h; rfl) | (obtain ⟨_, _, _, _, _, _, rfl, _⟩ := h; rfl) | (obtain ⟨_, _, _, _, _, _, _, rfl, _⟩ := h; rfl) | (obtain ⟨_, _, _, _, _, _, _, _, rfl, _⟩ := h; rfl) | (obtain ⟨_, _, _, _, _, _, _, _, _, rfl, _⟩ := h; rfl) | (obtain ⟨_, _, _, _, _, _, _, _, _, _, rfl, _⟩ := h; rfl) | (obtain ⟨_, _, _, _, _, _, _, _, _, _, _, rfl, _⟩ := h; rfl) | (obtain ⟨_, _, _, _, _, _, _, _, _, _, _, _, rfl, _⟩ := h; rfl) | (obtain ⟨_, _, _, _, _, _, _, _, _, _, _, _, _, rfl, _⟩ := h; rfl) | (obtain ⟨_, _, _, _, _, _, _, _, _, _, _, _, _, _, rfl, _⟩ := h; rfl) | (obtain ⟨_, _, _, _, _, _, _, _, _, _, _, _, _, _, _, rfl, _⟩ := h; rfl)
  · have hu := hu_of hr
    exact pss_cons (ps_expr (pe_call G_look_number (hr.mono (by decide)) (by rfl) T.g_look_number T.F_look_number.kp T.b_look_number .nil pass0 (pa_cons (pv 1) (pa_cons (pe_int) (pa_cons (pe_glob (by rfl) T.k_MOST_HANDS_stores ⟨_, rfl⟩) (pa_nil))))))
      (pss_cons (ps_expr (pe_call G_look_number (hr.mono (by decide)) (by rfl) T.g_look_number T.F_look_number.kp T.b_look_number .nil pass0 (pa_cons (pv 2) (pa_cons (pe_int) (pa_cons (pe_glob (by rfl) T.k_MOST_CELLS ⟨_, rfl⟩) (pa_nil))))))
      (pss_cons (ps_fld (pv 0) (pv 1) (by rfl))
      (pss_cons (ps_fld (pv 0) (pe_callTy (call_dictPr rfl) (by rfl) T.m_dict (by decide +kernel) (pa_cons (pe_lc (own := [("thing", 3)]) (by rfl) sc_Store_init.nd (pi_range1 (by rfl) T.m_range (pa_cons (pv 2) (pa_nil))) (blkOk_by (own := [("thing", 3)]) (N := ["self", "hands", "cells", "thing"]) (sc := defScope s_Store_init) (by decide +kernel)) (fun _ _ _ _ _ => pg_name (i := 3) sc_Store_init.nd rfl (by first | exact Or.inl rfl | exact Or.inr rfl)) (fun _ _ _ _ _ => pts_nil) (fun _ _ _ _ _ => pe_tup (pa_cons (pv 3) (pa_cons (pe_int) (pa_nil))))) (pa_nil))) (by rfl))
      (pss_cons (ps_fld (pv 0) (pe_listRg rfl (by rfl) T.m_list (prg_1 (by rfl) T.m_range (pv 2))) (by rfl))
      (pss_one (ps_fld (pv 0) (pv 2) (by rfl)))))))
  · exact pure_init ⟨T.cl_Rounds, T.na_Rounds_hands, T.na_Rounds_worth, T.na_Rounds_cells, T.na_Rounds_made⟩ h
set_option maxHeartbeats 8000000 in
theorem ok_mk_Rounds (T : Txt K mg D) : FnOk P w K mg base CX0 4 D.f_Rounds_init D.d_Rounds_init ["self", "hands", "cells"] (sp_rinit D.c_Rounds) := by
  have G_Rounds__Store_init : FnOk P w K mg base CX0 3 D.f_Store_init D.d_Store_init ["self", "hands", "cells"] (sp_init D.c_Rounds) := ok_Rounds__Store_init T
  refine T.F_Rounds_init.ok sc_Rounds_init (fun vs H Q E h => ?_) (fun cdv A outer s H vs Q E hr h => ⟨t_Rounds_init K D.c_Store (sp_init D.c_Rounds), ?_, ?_⟩)
  · first | (obtain ⟨_, rfl, _⟩ := h; rfl) | (obtain ⟨_, _, rfl, _⟩ := h; rfl) | (obtain ⟨_, _, _, rfl, _⟩ := h; rfl) | (obtain ⟨_, _, _, _, rfl, _⟩ := h; rfl) | (obtain ⟨_, _, _, _, _, rfl, _⟩ := h; rfl) | (obtain ⟨_, _, _, _, _, _, rfl, _⟩ := h; rfl) | (obtain ⟨_, _, _, _, _, _, _, rfl, _⟩ := h; rfl) | (obtain ⟨_, _, _, _, _, _, _, _, rfl, _⟩ := h; rfl) | (obtain ⟨_, _, _, _, _, _, _, _, _, rfl, _⟩ := h; rfl) | (obtain ⟨_, _, _, _, _, _, _, _, _, _, rfl, _⟩ := h; rfl) | (obtain ⟨_, _, _, _, _, _, _, _, _, _, _, rfl, _⟩ := h; rfl) | (obtain ⟨_, _, _, _, _, _, _, _, _, _, _, _, rfl, _⟩ := h; rfl) | (obtain ⟨_, _, _, _, _, _, _, _, _, _, _, _, _, rfl, _⟩ := h; rfl) | (obtain ⟨_, _, _, _, _, _, _, _, _, _, _, _, _, _, rfl, _⟩ := h; rfl) | (obtain ⟨_, _, _, _, _, _, _, _, _, _, _, _, _, _, _, rfl, _⟩ := h; rfl)
  · have hu := hu_of hr
    exact pss_cons (ps_expr (pe_cfn (pe_glob (by rfl) T.g_Store rfl) T.cf_Store_init G_Rounds__Store_init (hr.mono (by decide)) T.b_Store_init .nil pass0 (pa_cons (pv 0) (pa_cons (pv 1) (pa_cons (pv 2) (pa_nil))))))
      (pss_cons (ps_fld (pv 0) (pe_int) (by rfl))
      (pss_cons (ps_fld (pv 0) (pe_dnewK) (by rfl))
      (pss_cons (ps_fld (pv 0) (pe_dnewK) (by rfl))
      (pss_one (ps_fld (pv 0) (pe_dnewK) (by rfl))))))
  · exact pure_rinit ⟨⟨T.cl_Rounds, T.na_Rounds_hands, T.na_Rounds_worth, T.na_Rounds_cells, T.na_Rounds_made⟩, T.na_Rounds_era, T.na_Rounds_inside, T.na_Rounds_saw, T.na_Rounds_waits⟩ h
set_option maxHeartbeats 8000000 in
theorem ok_Marks__Store_init (T : Txt K mg D) : FnOk P w K mg base CX0 3 D.f_Store_init D.d_Store_init ["self", "hands", "cells"] (sp_init D.c_Marks) := by
  have G_look_number : FnOk P w K mg base CX0 2 D.f_look_number D.d_look_number ["thing", "low", "high"] (sp_look_number) := ok_look_number T
  refine T.F_Store_init.ok sc_Store_init (fun vs H Q E h => ?_) (fun cdv A outer s H vs Q E hr h => ⟨t_Store_init K (sp_look_number), ?_, ?_⟩)
  · first | (obtain ⟨_, rfl, _⟩ := h; rfl) | (obtain ⟨_, _, rfl, _⟩ := h; rfl) | (obtain ⟨_, _, _, rfl, _⟩ := h; rfl) | (obtain ⟨_, _, _, _, rfl, _⟩ := h; rfl) | (obtain ⟨_, _, _, _, _, rfl, _⟩ := h; rfl) | (obtain ⟨_, _, _, _, _, _, rfl, _⟩ := h; rfl) | (obtain ⟨_, _, _, _, _, _, _, rfl, _⟩ := h; rfl) | (obtain ⟨_, _, _, _, _, _, _, _, rfl, _⟩ := h; rfl) | (obtain ⟨_, _, _, _, _, _, _, _, _, rfl, _⟩ := h; rfl) | (obtain ⟨_, _, _, _, _, _, _, _, _, _, rfl, _⟩ := h; rfl) | (obtain ⟨_, _, _, _, _, _, _, _, _, _, _, rfl, _⟩ := h; rfl) | (obtain ⟨_, _, _, _, _, _, _, _, _, _, _, _, rfl, _⟩ := h; rfl) | (obtain ⟨_, _, _, _, _, _, _, _, _, _, _, _, _, rfl, _⟩ := h; rfl) | (obtain ⟨_, _, _, _, _, _, _, _, _, _, _, _, _, _, rfl, _⟩ := h; rfl) | (obtain ⟨_, _, _, _, _, _, _, _, _, _, _, _, _, _, _, rfl, _⟩ := h; rfl)
  · have hu := hu_of hr
    exact pss_cons (ps_expr (pe_call G_look_number (hr.mono (by decide)) (by rfl) T.g_look_number T.F_look_number.kp T.b_look_number .nil pass0 (pa_cons (pv 1) (pa_cons (pe_int) (pa_cons (pe_glob (by rfl) T.k_MOST_HANDS_stores ⟨_, rfl⟩) (pa_nil))))))
      (pss_cons (ps_expr (pe_call G_look_number (hr.mono (by decide)) (by rfl) T.g_look_number T.F_look_number.kp T.b_look_number .nil pass0 (pa_cons (pv 2) (pa_cons (pe_int) (pa_cons (pe_glob (by rfl) T.k_MOST_CELLS ⟨_, rfl⟩) (pa_nil))))))
      (pss_cons (ps_fld (pv 0) (pv 1) (by rfl))
      (pss_cons (ps_fld (pv 0) (pe_callTy (call_dictPr rfl) (by rfl) T.m_dict (by decide +kernel) (pa_cons (pe_lc (own := [("thing", 3)]) (by rfl) sc_Store_init.nd (pi_range1 (by rfl) T.m_range (pa_cons (pv 2) (pa_nil))) (blkOk_by (own := [("thing", 3)]) (N := ["self", "hands", "cells", "thing"]) (sc := defScope s_Store_init) (by decide +kernel)) (fun _ _ _ _ _ => pg_name (i := 3) sc_Store_init.nd rfl (by first | exact Or.inl rfl | exact Or.inr rfl)) (fun _ _ _ _ _ => pts_nil) (fun _ _ _ _ _ => pe_tup (pa_cons (pv 3) (pa_cons (pe_int) (pa_nil))))) (pa_nil))) (by rfl))
      (pss_cons (ps_fld (pv 0) (pe_listRg rfl (by rfl) T.m_list (prg_1 (by rfl) T.m_range (pv 2))) (by rfl))
      (pss_one (ps_fld (pv 0) (pv 2) (by rfl)))))))
  · exact pure_init ⟨T.cl_Marks, T.na_Marks_hands, T.na_Marks_worth, T.na_Marks_cells, T.na_Marks_made⟩ h
set_option maxHeartbeats 8000000 in
theorem ok_mk_Marks (T : Txt K mg D) : FnOk P w K mg base CX0 4 D.f_Marks_init D.d_Marks_init ["self", "hands", "cells"] (sp_minit D.c_Marks) := by
  have G_Marks__Store_init : FnOk P w K mg base CX0 3 D.f_Store_init D.d_Store_init ["self", "hands", "cells"] (sp_init D.c_Marks) := ok_Marks__Store_init T
  refine T.F_Marks_init.ok sc_Marks_init (fun vs H Q E h => ?_) (fun cdv A outer s H vs Q E hr h => ⟨t_Marks_init K D.c_Store (sp_init D.c_Marks), ?_, ?_⟩)
  · first | (obtain ⟨_, rfl, _⟩ := h; rfl) | (obtain ⟨_, _, rfl, _⟩ := h; rfl) | (obtain ⟨_, _, _, rfl, _⟩ := h; rfl) | (obtain ⟨_, _, _, _, rfl, _⟩ := h; rfl) | (obtain ⟨_, _, _, _, _, rfl, _⟩ := h; rfl) | (obtain ⟨_, _, _, _, _, _, rfl, _⟩ := h; rfl) | (obtain ⟨_, _, _, _, _, _, _, rfl, _⟩ := h; rfl) | (obtain ⟨_, _, _, _, _, _, _, _, rfl, _⟩ := h; rfl) | (obtain ⟨_, _, _, _, _, _, _, _, _, rfl, _⟩ := h; rfl) | (obtain ⟨_, _, _, _, _, _, _, _, _, _, rfl, _⟩ := h; rfl) | (obtain ⟨_, _, _, _, _, _, _, _, _, _, _, rfl, _⟩ := h; rfl) | (obtain ⟨_, _, _, _, _, _, _, _, _, _, _, _, rfl, _⟩ := h; rfl) | (obtain ⟨_, _, _, _, _, _, _, _, _, _, _, _, _, rfl, _⟩ := h; rfl) | (obtain ⟨_, _, _, _, _, _, _, _, _, _, _, _, _, _, rfl, _⟩ := h; rfl) | (obtain ⟨_, _, _, _, _, _, _, _, _, _, _, _, _, _, _, rfl, _⟩ := h; rfl)
  · have hu := hu_of hr
    exact pss_cons (ps_expr (pe_cfn (pe_glob (by rfl) T.g_Store rfl) T.cf_Store_init G_Marks__Store_init (hr.mono (by decide)) T.b_Store_init .nil pass0 (pa_cons (pv 0) (pa_cons (pv 1) (pa_cons (pv 2) (pa_nil))))))
      (pss_cons (ps_fld (pv 0) (pe_dnewT) (by rfl))
      (pss_one (ps_fld (pv 0) (pe_lst (pa_nil)) (by rfl))))
  · exact pure_minit ⟨⟨T.cl_Marks, T.na_Marks_hands, T.na_Marks_worth, T.na_Marks_cells, T.na_Marks_made⟩, T.na_Marks_marks, T.na_Marks_waits⟩ h
set_option maxHeartbeats 8000000 in
theorem ok_Counts__Store_init (T : Txt K mg D) : FnOk P w K mg base CX0 3 D.f_Store_init D.d_Store_init ["self", "hands", "cells"] (sp_init D.c_Counts) := by
  have G_look_number : FnOk P w K mg base CX0 2 D.f_look_number D.d_look_number ["thing", "low", "high"] (sp_look_number) := ok_look_number T
  refine T.F_Store_init.ok sc_Store_init (fun vs H Q E h => ?_) (fun cdv A outer s H vs Q E hr h => ⟨t_Store_init K (sp_look_number), ?_, ?_⟩)
  · first | (obtain ⟨_, rfl, _⟩ := h; rfl) | (obtain ⟨_, _, rfl, _⟩ := h; rfl) | (obtain ⟨_, _, _, rfl, _⟩ := h; rfl) | (obtain ⟨_, _, _, _, rfl, _⟩ := h; rfl) | (obtain ⟨_, _, _, _, _, rfl, _⟩ := h; rfl) | (obtain ⟨_, _, _, _, _, _, rfl, _⟩ := h; rfl) | (obtain ⟨_, _, _, _, _, _, _, rfl, _⟩ := h; rfl) | (obtain ⟨_, _, _, _, _, _, _, _, rfl, _⟩ := h; rfl) | (obtain ⟨_, _, _, _, _, _, _, _, _, rfl, _⟩ := h; rfl) | (obtain ⟨_, _, _, _, _, _, _, _, _, _, rfl, _⟩ := h; rfl) | (obtain ⟨_, _, _, _, _, _, _, _, _, _, _, rfl, _⟩ := h; rfl) | (obtain ⟨_, _, _, _, _, _, _, _, _, _, _, _, rfl, _⟩ := h; rfl) | (obtain ⟨_, _, _, _, _, _, _, _, _, _, _, _, _, rfl, _⟩ := h; rfl) | (obtain ⟨_, _, _, _, _, _, _, _, _, _, _, _, _, _, rfl, _⟩ := h; rfl) | (obtain ⟨_, _, _, _, _, _, _, _, _, _, _, _, _, _, _, rfl, _⟩ := h; rfl)
  · have hu := hu_of hr
    exact pss_cons (ps_expr (pe_call G_look_number (hr.mono (by decide)) (by rfl) T.g_look_number T.F_look_number.kp T.b_look_number .nil pass0 (pa_cons (pv 1) (pa_cons (pe_int) (pa_cons (pe_glob (by rfl) T.k_MOST_HANDS_stores ⟨_, rfl⟩) (pa_nil))))))
      (pss_cons (ps_expr (pe_call G_look_number (hr.mono (by decide)) (by rfl) T.g_look_number T.F_look_number.kp T.b_look_number .nil pass0 (pa_cons (pv 2) (pa_cons (pe_int) (pa_cons (pe_glob (by rfl) T.k_MOST_CELLS ⟨_, rfl⟩) (pa_nil))))))
      (pss_cons (ps_fld (pv 0) (pv 1) (by rfl))
      (pss_cons (ps_fld (pv 0) (pe_callTy (call_dictPr rfl) (by rfl) T.m_dict (by decide +kernel) (pa_cons (pe_lc (own := [("thing", 3)]) (by rfl) sc_Store_init.nd (pi_range1 (by rfl) T.m_range (pa_cons (pv 2) (pa_nil))) (blkOk_by (own := [("thing", 3)]) (N := ["self", "hands", "cells", "thing"]) (sc := defScope s_Store_init) (by decide +kernel)) (fun _ _ _ _ _ => pg_name (i := 3) sc_Store_init.nd rfl (by first | exact Or.inl rfl | exact Or.inr rfl)) (fun _ _ _ _ _ => pts_nil) (fun _ _ _ _ _ => pe_tup (pa_cons (pv 3) (pa_cons (pe_int) (pa_nil))))) (pa_nil))) (by rfl))
      (pss_cons (ps_fld (pv 0) (pe_listRg rfl (by rfl) T.m_list (prg_1 (by rfl) T.m_range (pv 2))) (by rfl))
      (pss_one (ps_fld (pv 0) (pv 2) (by rfl)))))))
  · exact pure_init ⟨T.cl_Counts, T.na_Counts_hands, T.na_Counts_worth, T.na_Counts_cells, T.na_Counts_made⟩ h
set_option maxHeartbeats 8000000 in
theorem ok_mk_Counts (T : Txt K mg D) : FnOk P w K mg base CX0 4 D.f_Counts_init D.d_Counts_init ["self", "hands", "cells"] (sp_cinit D.c_Counts) := by
  have G_Counts__Store_init : FnOk P w K mg base CX0 3 D.f_Store_init D.d_Store_init ["self", "hands", "cells"] (sp_init D.c_Counts) := ok_Counts__Store_init T
  refine T.F_Counts_init.ok sc_Counts_init (fun vs H Q E h => ?_) (fun cdv A outer s H vs Q E hr h => ⟨t_Counts_init K D.c_Store (sp_init D.c_Counts), ?_, ?_⟩)
  · first | (obtain ⟨_, rfl, _⟩ := h; rfl) | (obtain ⟨_, _, rfl, _⟩ := h; rfl) | (obtain ⟨_, _, _, rfl, _⟩ := h; rfl) | (obtain ⟨_, _, _, _, rfl, _⟩ := h; rfl) | (obtain ⟨_, _, _, _, _, rfl, _⟩ := h; rfl) | (obtain ⟨_, _, _, _, _, _, rfl, _⟩ := h; rfl) | (obtain ⟨_, _, _, _, _, _, _, rfl, _⟩ := h; rfl) | (obtain ⟨_, _, _, _, _, _, _, _, rfl, _⟩ := h; rfl) | (obtain ⟨_, _, _, _, _, _, _, _, _, rfl, _⟩ := h; rfl) | (obtain ⟨_, _, _, _, _, _, _, _, _, _, rfl, _⟩ := h; rfl) | (obtain ⟨_, _, _, _, _, _, _, _, _, _, _, rfl, _⟩ := h; rfl) | (obtain ⟨_, _, _, _, _, _, _, _, _, _, _, _, rfl, _⟩ := h; rfl) | (obtain ⟨_, _, _, _, _, _, _, _, _, _, _, _, _, rfl, _⟩ := h; rfl) | (obtain ⟨_, _, _, _, _, _, _, _, _, _, _, _, _, _, rfl, _⟩ := h; rfl) | (obtain ⟨_, _, _, _, _, _, _, _, _, _, _, _, _, _, _, rfl, _⟩ := h; rfl)
  · have hu := hu_of hr
    exact pss_cons (ps_expr (pe_cfn (pe_glob (by rfl) T.g_Store rfl) T.cf_Store_init G_Counts__Store_init (hr.mono (by decide)) T.b_Store_init .nil pass0 (pa_cons (pv 0) (pa_cons (pv 1) (pa_cons (pv 2) (pa_nil))))))
      (pss_one (ps_fld (pv 0) (pe_dnewT) (by rfl)))
  · exact pure_cinit ⟨⟨T.cl_Counts, T.na_Counts_hands, T.na_Counts_worth, T.na_Counts_cells, T.na_Counts_made⟩, T.na_Counts_held⟩ h
set_option maxHeartbeats 8000000 in
theorem ok_mk_Versions (T : Txt K mg D) : FnOk P w K mg base CX0 3 D.f_Versions_init D.d_Versions_init ["self", "hands", "cells"] (sp_vinit D.c_Versions) := by
  have G_look_number : FnOk P w K mg base CX0 2 D.f_look_number D.d_look_number ["thing", "low", "high"] (sp_look_number) := ok_look_number T
  refine T.F_Versions_init.ok sc_Versions_init (fun vs H Q E h => ?_) (fun cdv A outer s H vs Q E hr h => ⟨t_Versions_init K (sp_look_number), ?_, ?_⟩)
  · first | (obtain ⟨_, rfl, _⟩ := h; rfl) | (obtain ⟨_, _, rfl, _⟩ := h; rfl) | (obtain ⟨_, _, _, rfl, _⟩ := h; rfl) | (obtain ⟨_, _, _, _, rfl, _⟩ := h; rfl) | (obtain ⟨_, _, _, _, _, rfl, _⟩ := h; rfl) | (obtain ⟨_, _, _, _, _, _, rfl, _⟩ := h; rfl) | (obtain ⟨_, _, _, _, _, _, _, rfl, _⟩ := h; rfl) | (obtain ⟨_, _, _, _, _, _, _, _, rfl, _⟩ := h; rfl) | (obtain ⟨_, _, _, _, _, _, _, _, _, rfl, _⟩ := h; rfl) | (obtain ⟨_, _, _, _, _, _, _, _, _, _, rfl, _⟩ := h; rfl) | (obtain ⟨_, _, _, _, _, _, _, _, _, _, _, rfl, _⟩ := h; rfl) | (obtain ⟨_, _, _, _, _, _, _, _, _, _, _, _, rfl, _⟩ := h; rfl) | (obtain ⟨_, _, _, _, _, _, _, _, _, _, _, _, _, rfl, _⟩ := h; rfl) | (obtain ⟨_, _, _, _, _, _, _, _, _, _, _, _, _, _, rfl, _⟩ := h; rfl) | (obtain ⟨_, _, _, _, _, _, _, _, _, _, _, _, _, _, _, rfl, _⟩ := h; rfl)
  · have hu := hu_of hr
    exact pss_cons (ps_expr (pe_call G_look_number (hr.mono (by decide)) (by rfl) T.g_look_number T.F_look_number.kp T.b_look_number .nil pass0 (pa_cons (pv 1) (pa_cons (pe_int) (pa_cons (pe_glob (by rfl) T.k_MOST_HANDS_stores ⟨_, rfl⟩) (pa_nil))))))
      (pss_cons (ps_expr (pe_call G_look_number (hr.mono (by decide)) (by rfl) T.g_look_number T.F_look_number.kp T.b_look_number .nil pass0 (pa_cons (pv 2) (pa_cons (pe_int) (pa_cons (pe_glob (by rfl) T.k_MOST_CELLS ⟨_, rfl⟩) (pa_nil))))))
      (pss_cons (ps_fld (pv 0) (pv 1) (by rfl))
      (pss_cons (ps_fld (pv 0) (pe_lc (own := [("cell", 3)]) (by rfl) sc_Versions_init.nd (pi_range1 (by rfl) T.m_range (pa_cons (pv 2) (pa_nil))) (blkOk_by (own := [("cell", 3)]) (N := ["self", "hands", "cells", "cell"]) (sc := defScope s_Versions_init) (by decide +kernel)) (fun _ _ _ _ _ => pg_name (i := 3) sc_Versions_init.nd rfl (by first | exact Or.inl rfl | exact Or.inr rfl)) (fun _ _ _ _ _ => pts_nil) (fun _ _ _ _ _ => pe_lst (pa_cons (pe_tup (pa_cons (pe_int) (pa_cons (pe_int) (pa_nil)))) (pa_nil)))) (by rfl))
      (pss_cons (ps_fld (pv 0) (pe_int) (by rfl))
      (pss_cons (ps_fld (pv 0) (pe_dnewK) (by rfl))
      (pss_one (ps_fld (pv 0) (pe_dnewK) (by rfl))))))))
  · exact pure_vinit ⟨T.cl_Versions, T.na_Versions_hands, T.na_Versions_rows, T.na_Versions_version, T.na_Versions_begun, T.na_Versions_asked⟩ h
set_option maxHeartbeats 8000000 in
theorem ok_mk_Link (T : Txt K mg D) : FnOk P w K mg base CX0 1 D.f_Link_init D.d_Link_init ["self", "key", "after"] (sp_lkinit D.c_Link) := by
  refine T.F_Link_init.ok sc_Link_init (fun vs H Q E h => ?_) (fun cdv A outer s H vs Q E hr h => ⟨t_Link_init K, ?_, ?_⟩)
  · first | (obtain ⟨_, rfl, _⟩ := h; rfl) | (obtain ⟨_, _, rfl, _⟩ := h; rfl) | (obtain ⟨_, _, _, rfl, _⟩ := h; rfl) | (obtain ⟨_, _, _, _, rfl, _⟩ := h; rfl) | (obtain ⟨_, _, _, _, _, rfl, _⟩ := h; rfl) | (obtain ⟨_, _, _, _, _, _, rfl, _⟩ := h; rfl) | (obtain ⟨_, _, _, _, _, _, _, rfl, _⟩ := h; rfl) | (obtain ⟨_, _, _, _, _, _, _, _, rfl, _⟩ := h; rfl) | (obtain ⟨_, _, _, _, _, _, _, _, _, rfl, _⟩ := h; rfl) | (obtain ⟨_, _, _, _, _, _, _, _, _, _, rfl, _⟩ := h; rfl) | (obtain ⟨_, _, _, _, _, _, _, _, _, _, _, rfl, _⟩ := h; rfl) | (obtain ⟨_, _, _, _, _, _, _, _, _, _, _, _, rfl, _⟩ := h; rfl) | (obtain ⟨_, _, _, _, _, _, _, _, _, _, _, _, _, rfl, _⟩ := h; rfl) | (obtain ⟨_, _, _, _, _, _, _, _, _, _, _, _, _, _, rfl, _⟩ := h; rfl) | (obtain ⟨_, _, _, _, _, _, _, _, _, _, _, _, _, _, _, rfl, _⟩ := h; rfl)
  · have hu := hu_of hr
    exact pss_cons (ps_fld (pv 0) (pv 1) (by rfl))
      (pss_one (ps_fld (pv 0) (pv 2) (by rfl)))
  · exact pure_lkinit ⟨T.cl_Link, T.na_Link_key, T.na_Link_after⟩ h
set_option maxHeartbeats 8000000 in
theorem ok_mk_Chain (T : Txt K mg D) : FnOk P w K mg base CX0 3 D.f_Chain_init D.d_Chain_init ["self", "hands"] (sp_chinit D.c_Chain D.c_Link) := by
  have G_look_number : FnOk P w K mg base CX0 2 D.f_look_number D.d_look_number ["thing", "low", "high"] (sp_look_number) := ok_look_number T
  have G_mk_Link : FnOk P w K mg base CX0 1 D.f_Link_init D.d_Link_init ["self", "key", "after"] (sp_lkinit D.c_Link) := ok_mk_Link T
  refine T.F_Chain_init.ok sc_Chain_init (fun vs H Q E h => ?_) (fun cdv A outer s H vs Q E hr h => ⟨t_Chain_init K D.c_Link (sp_look_number) (sp_lkinit D.c_Link), ?_, ?_⟩)
  · first | (obtain ⟨_, rfl, _⟩ := h; rfl) | (obtain ⟨_, _, rfl, _⟩ := h; rfl) | (obtain ⟨_, _, _, rfl, _⟩ := h; rfl) | (obtain ⟨_, _, _, _, rfl, _⟩ := h; rfl) | (obtain ⟨_, _, _, _, _, rfl, _⟩ := h; rfl) | (obtain ⟨_, _, _, _, _, _, rfl, _⟩ := h; rfl) | (obtain ⟨_, _, _, _, _, _, _, rfl, _⟩ := h; rfl) | (obtain ⟨_, _, _, _, _, _, _, _, rfl, _⟩ := h; rfl) | (obtain ⟨_, _, _, _, _, _, _, _, _, rfl, _⟩ := h; rfl) | (obtain ⟨_, _, _, _, _, _, _, _, _, _, rfl, _⟩ := h; rfl) | (obtain ⟨_, _, _, _, _, _, _, _, _, _, _, rfl, _⟩ := h; rfl) | (obtain ⟨_, _, _, _, _, _, _, _, _, _, _, _, rfl, _⟩ := h; rfl) | (obtain ⟨_, _, _, _, _, _, _, _, _, _, _, _, _, rfl, _⟩ := h; rfl) | (obtain ⟨_, _, _, _, _, _, _, _, _, _, _, _, _, _, rfl, _⟩ := h; rfl) | (obtain ⟨_, _, _, _, _, _, _, _, _, _, _, _, _, _, _, rfl, _⟩ := h; rfl)
  · have hu := hu_of hr
    exact pss_cons (ps_expr (pe_call G_look_number (hr.mono (by decide)) (by rfl) T.g_look_number T.F_look_number.kp T.b_look_number .nil pass0 (pa_cons (pv 1) (pa_cons (pe_int) (pa_cons (pe_glob (by rfl) T.k_MOST_HANDS_chains ⟨_, rfl⟩) (pa_nil))))))
      (pss_cons (ps_fld (pv 0) (pv 1) (by rfl))
      (pss_cons (ps_fld (pv 0) (pe_disp (pps_cons (pe_int) (pe_make T.mk_Link G_mk_Link (hr.mono (by decide)) (by rfl) T.g_Link T.b_Link_init .nil pass0 (pa_cons (pe_glob (by rfl) T.k_END ⟨_, rfl⟩) (pa_cons (pe_non) (pa_nil)))) pps_nil) rfl rfl (List.cons_ne_nil _ _) (by decide)) (by rfl))
      (pss_cons (ps_fld (pv 0) (pe_int) (by rfl))
      (pss_cons (ps_fld (pv 0) (pe_int) (by rfl))
      (pss_cons (ps_fld (pv 0) (pe_dnewK) (by rfl))
      (pss_cons (ps_fld (pv 0) (pe_dnewK) (by rfl))
      (pss_one (ps_fld (pv 0) (pe_dnewK) (by rfl)))))))))
  · exact pure_chinit ⟨T.cl_Chain, T.na_Chain_hands, T.na_Chain_links, T.na_Chain_made, T.na_Chain_era, T.na_Chain_inside, T.na_Chain_at, T.na_Chain_waits, T.cl_Link, T.na_Link_key, T.na_Link_after⟩ h
set_option maxHeartbeats 8000000 in
theorem ok__law_made (T : Txt K mg D) : FnOk P w K mg base CX0 6 D.f__law_made D.d__law_made ["kind"] (sp__law_made D.c_Rounds D.c_Marks D.c_Counts D.c_Versions D.c_Chain D.c_Link) := by
  have G_mk_Rounds : FnOk P w K mg base CX0 4 D.f_Rounds_init D.d_Rounds_init ["self", "hands", "cells"] (sp_rinit D.c_Rounds) := ok_mk_Rounds T
  have G_mk_Marks : FnOk P w K mg base CX0 4 D.f_Marks_init D.d_Marks_init ["self", "hands", "cells"] (sp_minit D.c_Marks) := ok_mk_Marks T
  have G_mk_Counts : FnOk P w K mg base CX0 4 D.f_Counts_init D.d_Counts_init ["self", "hands", "cells"] (sp_cinit D.c_Counts) := ok_mk_Counts T
  have G_mk_Versions : FnOk P w K mg base CX0 3 D.f_Versions_init D.d_Versions_init ["self", "hands", "cells"] (sp_vinit D.c_Versions) := ok_mk_Versions T
  have G_mk_Chain : FnOk P w K mg base CX0 3 D.f_Chain_init D.d_Chain_init ["self", "hands"] (sp_chinit D.c_Chain D.c_Link) := ok_mk_Chain T
  refine T.F__law_made.ok sc__law_made (fun vs H Q E h => ?_) (fun cdv A outer s H vs Q E hr h => ⟨t__law_made K D.c_Rounds D.c_Marks D.c_Counts D.c_Versions D.c_Chain (sp_rinit D.c_Rounds) (sp_minit D.c_Marks) (sp_cinit D.c_Counts) (sp_vinit D.c_Versions) (sp_chinit D.c_Chain D.c_Link), ?_, ?_⟩)
  · first | (obtain ⟨_, rfl, _⟩ := h; rfl) | (obtain ⟨_, _, rfl, _⟩ := h; rfl) | (obtain ⟨_, _, _, rfl, _⟩ := h; rfl) | (obtain ⟨_, _, _, _, rfl, _⟩ := h; rfl) | (obtain ⟨_, _, _, _, _, rfl, _⟩ := h; rfl) | (obtain ⟨_, _, _, _, _, _, rfl, _⟩ := h; rfl) | (obtain ⟨_, _, _, _, _, _, _, rfl, _⟩ := h; rfl) | (obtain ⟨_, _, _, _, _, _, _, _, rfl, _⟩ := h; rfl) | (obtain ⟨_, _, _, _, _, _, _, _, _, rfl, _⟩ := h; rfl) | (obtain ⟨_, _, _, _, _, _, _, _, _, _, rfl, _⟩ := h; rfl) | (obtain ⟨_, _, _, _, _, _, _, _, _, _, _, rfl, _⟩ := h; rfl) | (obtain ⟨_, _, _, _, _, _, _, _, _, _, _, _, rfl, _⟩ := h; rfl) | (obtain ⟨_, _, _, _, _, _, _, _, _, _, _, _, _, rfl, _⟩ := h; rfl) | (obtain ⟨_, _, _, _, _, _, _, _, _, _, _, _, _, _, rfl, _⟩ := h; rfl) | (obtain ⟨_, _, _, _, _, _, _, _, _, _, _, _, _, _, _, rfl, _⟩ := h; rfl)
  · have hu := hu_of hr
    exact pss_cons (ps_if (pt_cmpR op_eq (pv 0) (pe_int) (nomark _)) (pss_one (ps_ret (pe_make T.mk_Rounds G_mk_Rounds (hr.mono (by decide)) (by rfl) T.g_Rounds T.b_Rounds_init .nil pass0 (pa_cons (pe_int) (pa_cons (pe_int) (pa_nil)))))) (pss_nil))
      (pss_cons (ps_if (pt_cmpR op_eq (pv 0) (pe_int) (nomark _)) (pss_one (ps_ret (pe_make T.mk_Marks G_mk_Marks (hr.mono (by decide)) (by rfl) T.g_Marks T.b_Marks_init .nil pass0 (pa_cons (pe_int) (pa_cons (pe_int) (pa_nil)))))) (pss_nil))
      (pss_cons (ps_if (pt_cmpR op_eq (pv 0) (pe_int) (nomark _)) (pss_one (ps_ret (pe_make T.mk_Counts G_mk_Counts (hr.mono (by decide)) (by rfl) T.g_Counts T.b_Counts_init .nil pass0 (pa_cons (pe_int) (pa_cons (pe_int) (pa_nil)))))) (pss_nil))
      (pss_one (ps_ret (pe_ifExp (pt_cmpR op_eq (pv 0) (pe_int) (nomark _)) (pe_make T.mk_Versions G_mk_Versions (hr.mono (by decide)) (by rfl) T.g_Versions T.bd_Versions_init T.vd_Versions_init pass0 (pa_cons (pe_int) (pa_nil))) (pe_make T.mk_Chain G_mk_Chain (hr.mono (by decide)) (by rfl) T.g_Chain T.b_Chain_init .nil pass0 (pa_cons (pe_int) (pa_nil))))))))
  · exact pure__law_made h
set_option maxHeartbeats 8000000 in
theorem ok__law_pick (T : Txt K mg D) : FnOk P w K mg base CX0 2 D.f__law_pick D.d__law_pick ["town", "some"] (sp__law_pick) := by
  have G__law_draw : FnOk P w K mg base CX0 1 D.f__law_draw D.d__law_draw ["town", "many"] (sp__law_draw) := ok__law_draw T
  refine T.F__law_pick.ok sc__law_pick (fun vs H Q E h => ?_) (fun cdv A outer s H vs Q E hr h => ⟨t__law_pick K (sp__law_draw), ?_, ?_⟩)
  · first | (obtain ⟨_, rfl, _⟩ := h; rfl) | (obtain ⟨_, _, rfl, _⟩ := h; rfl) | (obtain ⟨_, _, _, rfl, _⟩ := h; rfl) | (obtain ⟨_, _, _, _, rfl, _⟩ := h; rfl) | (obtain ⟨_, _, _, _, _, rfl, _⟩ := h; rfl) | (obtain ⟨_, _, _, _, _, _, rfl, _⟩ := h; rfl) | (obtain ⟨_, _, _, _, _, _, _, rfl, _⟩ := h; rfl) | (obtain ⟨_, _, _, _, _, _, _, _, rfl, _⟩ := h; rfl) | (obtain ⟨_, _, _, _, _, _, _, _, _, rfl, _⟩ := h; rfl) | (obtain ⟨_, _, _, _, _, _, _, _, _, _, rfl, _⟩ := h; rfl) | (obtain ⟨_, _, _, _, _, _, _, _, _, _, _, rfl, _⟩ := h; rfl) | (obtain ⟨_, _, _, _, _, _, _, _, _, _, _, _, rfl, _⟩ := h; rfl) | (obtain ⟨_, _, _, _, _, _, _, _, _, _, _, _, _, rfl, _⟩ := h; rfl) | (obtain ⟨_, _, _, _, _, _, _, _, _, _, _, _, _, _, rfl, _⟩ := h; rfl) | (obtain ⟨_, _, _, _, _, _, _, _, _, _, _, _, _, _, _, rfl, _⟩ := h; rfl)
  · have hu := hu_of hr
    exact pss_one (ps_ret (pe_ix ix_list (pv 1) (pe_call G__law_draw (hr.mono (by decide)) (by rfl) T.g__law_draw T.F__law_draw.kp T.b__law_draw .nil pass0 (pa_cons (pv 0) (pa_cons (pe_callB call_lenQ (by rfl) T.m_len PySem.boot_len (pa_cons (pv 1) (pa_nil))) (pa_nil)))) (fun _ _ => rfl)))
  · exact pure__law_pick h
set_option maxHeartbeats 8000000 in
theorem ok__law_value (T : Txt K mg D) : FnOk P w K mg base CX0 3 D.f__law_value D.d__law_value ["town"] (sp__law_value) := by
  have G__law_pick : FnOk P w K mg base CX0 2 D.f__law_pick D.d__law_pick ["town", "some"] (sp__law_pick) := ok__law_pick T
  have G__law_draw : FnOk P w K mg base CX0 1 D.f__law_draw D.d__law_draw ["town", "many"] (sp__law_draw) := ok__law_draw T
  refine T.F__law_value.ok sc__law_value (fun vs H Q E h => ?_) (fun cdv A outer s H vs Q E hr h => ⟨t__law_value K (sp__law_pick) (sp__law_draw), ?_, ?_⟩)
  · first | (obtain ⟨_, rfl, _⟩ := h; rfl) | (obtain ⟨_, _, rfl, _⟩ := h; rfl) | (obtain ⟨_, _, _, rfl, _⟩ := h; rfl) | (obtain ⟨_, _, _, _, rfl, _⟩ := h; rfl) | (obtain ⟨_, _, _, _, _, rfl, _⟩ := h; rfl) | (obtain ⟨_, _, _, _, _, _, rfl, _⟩ := h; rfl) | (obtain ⟨_, _, _, _, _, _, _, rfl, _⟩ := h; rfl) | (obtain ⟨_, _, _, _, _, _, _, _, rfl, _⟩ := h; rfl) | (obtain ⟨_, _, _, _, _, _, _, _, _, rfl, _⟩ := h; rfl) | (obtain ⟨_, _, _, _, _, _, _, _, _, _, rfl, _⟩ := h; rfl) | (obtain ⟨_, _, _, _, _, _, _, _, _, _, _, rfl, _⟩ := h; rfl) | (obtain ⟨_, _, _, _, _, _, _, _, _, _, _, _, rfl, _⟩ := h; rfl) | (obtain ⟨_, _, _, _, _, _, _, _, _, _, _, _, _, rfl, _⟩ := h; rfl) | (obtain ⟨_, _, _, _, _, _, _, _, _, _, _, _, _, _, rfl, _⟩ := h; rfl) | (obtain ⟨_, _, _, _, _, _, _, _, _, _, _, _, _, _, _, rfl, _⟩ := h; rfl)
  · have hu := hu_of hr
    exact pss_one (ps_ret (pe_call G__law_pick (hr.mono (by decide)) (by rfl) T.g__law_pick T.F__law_pick.kp T.b__law_pick .nil pass0 (pa_cons (pv 0) (pa_cons (pe_lst (pa_cons (pe_int) (pa_cons (pe_int) (pa_cons (pe_call G__law_draw (hr.mono (by decide)) (by rfl) T.g__law_draw T.F__law_draw.kp T.b__law_draw .nil pass0 (pa_cons (pv 0) (pa_cons (pe_int) (pa_nil)))) (pa_cons (pe_call G__law_draw (hr.mono (by decide)) (by rfl) T.g__law_draw T.F__law_draw.kp T.b__law_draw .nil pass0 (pa_cons (pv 0) (pa_cons (pe_int) (pa_nil)))) (pa_nil)))))) (pa_nil)))))
  · exact pure__law_value h
set_option maxHeartbeats 8000000 in
theorem ok_Rounds__Store_let_go (T : Txt K mg D) : FnOk P w K mg base CX0 1 D.f_Store_let_go D.d_Store_let_go ["self", "things"] (sp_let_go D.c_Rounds) := by
  refine T.F_Store_let_go.ok sc_Store_let_go (fun vs H Q E h => ?_) (fun cdv A outer s H vs Q E hr h => ⟨t_Store_let_go K, ?_, ?_⟩)
  · first | (obtain ⟨_, rfl, _⟩ := h; rfl) | (obtain ⟨_, _, rfl, _⟩ := h; rfl) | (obtain ⟨_, _, _, rfl, _⟩ := h; rfl) | (obtain ⟨_, _, _, _, rfl, _⟩ := h; rfl) | (obtain ⟨_, _, _, _, _, rfl, _⟩ := h; rfl) | (obtain ⟨_, _, _, _, _, _, rfl, _⟩ := h; rfl) | (obtain ⟨_, _, _, _, _, _, _, rfl, _⟩ := h; rfl) | (obtain ⟨_, _, _, _, _, _, _, _, rfl, _⟩ := h; rfl) | (obtain ⟨_, _, _, _, _, _, _, _, _, rfl, _⟩ := h; rfl) | (obtain ⟨_, _, _, _, _, _, _, _, _, _, rfl, _⟩ := h; rfl) | (obtain ⟨_, _, _, _, _, _, _, _, _, _, _, rfl, _⟩ := h; rfl) | (obtain ⟨_, _, _, _, _, _, _, _, _, _, _, _, rfl, _⟩ := h; rfl) | (obtain ⟨_, _, _, _, _, _, _, _, _, _, _, _, _, rfl, _⟩ := h; rfl) | (obtain ⟨_, _, _, _, _, _, _, _, _, _, _, _, _, _, rfl, _⟩ := h; rfl) | (obtain ⟨_, _, _, _, _, _, _, _, _, _, _, _, _, _, _, rfl, _⟩ := h; rfl)
  · have hu := hu_of hr
    exact pss_cons (ps_for PassesOwn.never rfl (pi_list (pv 1)) (pg_name (i := 2) sc_Store_let_go.nd rfl (by first | exact Or.inl rfl | exact Or.inr rfl)) (pss_one (ps_expr (pe_dpop1 (pe_fld (pv 0) (by rfl)) (pv 2) ⟨rfl, rfl, rfl, rfl⟩))))
      (pss_one (ps_ret (pe_callB cr_sortedI (by rfl) T.m_sorted (by decide +kernel) (pa_cons (pv 1) (pa_nil)))))
  · exact pure_let_go ⟨T.cl_Rounds, T.na_Rounds_hands, T.na_Rounds_worth, T.na_Rounds_cells, T.na_Rounds_made⟩ h
set_option maxHeartbeats 8000000 in
theorem ok_Rounds__Rounds_go_on (T : Txt K mg D) : FnOk P w K mg base CX0 2 D.f_Rounds_go_on D.d_Rounds_go_on ["self"] (sp_go_on D.c_Rounds) := by
  have G_Rounds__Store_let_go : FnOk P w K mg base CX0 1 D.f_Store_let_go D.d_Store_let_go ["self", "things"] (sp_let_go D.c_Rounds) := ok_Rounds__Store_let_go T
  refine T.F_Rounds_go_on.ok sc_Rounds_go_on (fun vs H Q E h => ?_) (fun cdv A outer s H vs Q E hr h => ⟨t_Rounds_go_on K D.c_Rounds (sp_let_go D.c_Rounds), ?_, ?_⟩)
  · first | (obtain ⟨_, rfl, _⟩ := h; rfl) | (obtain ⟨_, _, rfl, _⟩ := h; rfl) | (obtain ⟨_, _, _, rfl, _⟩ := h; rfl) | (obtain ⟨_, _, _, _, rfl, _⟩ := h; rfl) | (obtain ⟨_, _, _, _, _, rfl, _⟩ := h; rfl) | (obtain ⟨_, _, _, _, _, _, rfl, _⟩ := h; rfl) | (obtain ⟨_, _, _, _, _, _, _, rfl, _⟩ := h; rfl) | (obtain ⟨_, _, _, _, _, _, _, _, rfl, _⟩ := h; rfl) | (obtain ⟨_, _, _, _, _, _, _, _, _, rfl, _⟩ := h; rfl) | (obtain ⟨_, _, _, _, _, _, _, _, _, _, rfl, _⟩ := h; rfl) | (obtain ⟨_, _, _, _, _, _, _, _, _, _, _, rfl, _⟩ := h; rfl) | (obtain ⟨_, _, _, _, _, _, _, _, _, _, _, _, rfl, _⟩ := h; rfl) | (obtain ⟨_, _, _, _, _, _, _, _, _, _, _, _, _, rfl, _⟩ := h; rfl) | (obtain ⟨_, _, _, _, _, _, _, _, _, _, _, _, _, _, rfl, _⟩ := h; rfl) | (obtain ⟨_, _, _, _, _, _, _, _, _, _, _, _, _, _, _, rfl, _⟩ := h; rfl)
  · have hu := hu_of hr
    exact pss_cons (ps_if (pt_not (pt_val (pe_callB (cr_all rfl) (by rfl) T.m_all (by decide +kernel) (pa_cons (pe_lock (pe_lc (own := [("hand", 1)]) (by rfl) sc_Rounds_go_on.nd (pi_keys (pe_fld (pv 0) (by rfl))) (blkOk_by (own := [("hand", 1)]) (N := ["self", "hand", "found", "thing"]) (sc := defScope s_Rounds_go_on) (by decide +kernel)) (fun _ _ _ _ _ => pg_name (i := 1) sc_Rounds_go_on.nd rfl (by first | exact Or.inl rfl | exact Or.inr rfl)) (fun _ _ _ _ _ => pts_nil) (fun _ _ _ _ _ => pe_cmpR op_eq (pe_dget hu (pe_fld (pv 0) (by rfl)) (pv 1) (fun _ _ => rfl)) (pe_fld (pv 0) (by rfl)) (nomark _)))) (pa_nil))))) (pss_one (ps_ret (pe_non))) (pss_nil))
      (pss_cons (ps_fld (pv 0) (pe_op op_addI (pe_fld (pv 0) (by rfl)) (pe_int)) (by rfl))
      (pss_cons (ps_lock (ps_setLc (i := 2) (own := [("thing", 3)]) (by rfl) sc_Rounds_go_on.nd rfl rfl (sw_true rfl rfl rfl (by decide +kernel)) (pi_keys (pe_fld (pv 0) (by rfl))) (blkOk_by (own := [("thing", 3)]) (N := ["self", "hand", "found", "thing"]) (sc := defScope s_Rounds_go_on) (by decide +kernel)) (fun _ _ _ _ _ => pg_name (i := 3) sc_Rounds_go_on.nd rfl (by first | exact Or.inl rfl | exact Or.inr rfl)) (fun _ _ _ _ _ => pts_one (pt_cmpR op_leI (pe_dget hu (pe_fld (pv 0) (by rfl)) (pv 3) (fun _ _ => rfl)) (pe_op op_subI (pe_fld (pv 0) (by rfl)) (pe_int)) (nomark _))) (fun _ _ _ _ _ => pv 3)))
      (pss_cons (ps_for PassesOwn.never rfl (pi_list (pv 2)) (pg_name (i := 3) sc_Rounds_go_on.nd rfl (by first | exact Or.inl rfl | exact Or.inr rfl)) (pss_one (ps_expr (pe_dpop1 (pe_fld (pv 0) (by rfl)) (pv 3) ⟨rfl, rfl, rfl, rfl⟩))))
      (pss_one (ps_ret (pe_meth (pv 0) T.cl_Rounds T.me_Rounds_let_go G_Rounds__Store_let_go (hr.mono (by decide)) T.b_Store_let_go .nil pass0 (pa_cons (pv 2) (pa_nil))))))))
  · exact pure_go_on ⟨⟨T.cl_Rounds, T.na_Rounds_hands, T.na_Rounds_worth, T.na_Rounds_cells, T.na_Rounds_made⟩, T.na_Rounds_era, T.na_Rounds_inside, T.na_Rounds_saw, T.na_Rounds_waits⟩ h
set_option maxHeartbeats 8000000 in
theorem ok_Rounds__Store_now (T : Txt K mg D) : FnOk P w K mg base CX0 1 D.f_Store_now D.d_Store_now ["self"] (sp_now D.c_Rounds) := by
  refine T.F_Store_now.ok sc_Store_now (fun vs H Q E h => ?_) (fun cdv A outer s H vs Q E hr h => ⟨t_Store_now K, ?_, ?_⟩)
  · first | (obtain ⟨_, rfl, _⟩ := h; rfl) | (obtain ⟨_, _, rfl, _⟩ := h; rfl) | (obtain ⟨_, _, _, rfl, _⟩ := h; rfl) | (obtain ⟨_, _, _, _, rfl, _⟩ := h; rfl) | (obtain ⟨_, _, _, _, _, rfl, _⟩ := h; rfl) | (obtain ⟨_, _, _, _, _, _, rfl, _⟩ := h; rfl) | (obtain ⟨_, _, _, _, _, _, _, rfl, _⟩ := h; rfl) | (obtain ⟨_, _, _, _, _, _, _, _, rfl, _⟩ := h; rfl) | (obtain ⟨_, _, _, _, _, _, _, _, _, rfl, _⟩ := h; rfl) | (obtain ⟨_, _, _, _, _, _, _, _, _, _, rfl, _⟩ := h; rfl) | (obtain ⟨_, _, _, _, _, _, _, _, _, _, _, rfl, _⟩ := h; rfl) | (obtain ⟨_, _, _, _, _, _, _, _, _, _, _, _, rfl, _⟩ := h; rfl) | (obtain ⟨_, _, _, _, _, _, _, _, _, _, _, _, _, rfl, _⟩ := h; rfl) | (obtain ⟨_, _, _, _, _, _, _, _, _, _, _, _, _, _, rfl, _⟩ := h; rfl) | (obtain ⟨_, _, _, _, _, _, _, _, _, _, _, _, _, _, _, rfl, _⟩ := h; rfl)
  · have hu := hu_of hr
    exact pss_one (ps_ret (pe_lc (own := [("thing", 1)]) (by rfl) sc_Store_now.nd (pi_list (pe_fld (pv 0) (by rfl))) (blkOk_by (own := [("thing", 1)]) (N := ["self", "thing"]) (sc := defScope s_Store_now) (by decide +kernel)) (fun _ _ _ _ _ => pg_name (i := 1) sc_Store_now.nd rfl (by first | exact Or.inl rfl | exact Or.inr rfl)) (fun _ _ _ _ _ => pts_nil) (fun _ _ _ _ _ => pe_dget hu (pe_fld (pv 0) (by rfl)) (pv 1) (fun _ _ => rfl))))
  · exact pure_now ⟨T.cl_Rounds, T.na_Rounds_hands, T.na_Rounds_worth, T.na_Rounds_cells, T.na_Rounds_made⟩ h
set_option maxHeartbeats 8000000 in
theorem ok_Rounds__Store_kept (T : Txt K mg D) : FnOk P w K mg base CX0 1 D.f_Store_kept D.d_Store_kept ["self"] (sp_kept D.c_Rounds) := by
  refine T.F_Store_kept.ok sc_Store_kept (fun vs H Q E h => ?_) (fun cdv A outer s H vs Q E hr h => ⟨t_Store_kept K, ?_, ?_⟩)
  · first | (obtain ⟨_, rfl, _⟩ := h; rfl) | (obtain ⟨_, _, rfl, _⟩ := h; rfl) | (obtain ⟨_, _, _, rfl, _⟩ := h; rfl) | (obtain ⟨_, _, _, _, rfl, _⟩ := h; rfl) | (obtain ⟨_, _, _, _, _, rfl, _⟩ := h; rfl) | (obtain ⟨_, _, _, _, _, _, rfl, _⟩ := h; rfl) | (obtain ⟨_, _, _, _, _, _, _, rfl, _⟩ := h; rfl) | (obtain ⟨_, _, _, _, _, _, _, _, rfl, _⟩ := h; rfl) | (obtain ⟨_, _, _, _, _, _, _, _, _, rfl, _⟩ := h; rfl) | (obtain ⟨_, _, _, _, _, _, _, _, _, _, rfl, _⟩ := h; rfl) | (obtain ⟨_, _, _, _, _, _, _, _, _, _, _, rfl, _⟩ := h; rfl) | (obtain ⟨_, _, _, _, _, _, _, _, _, _, _, _, rfl, _⟩ := h; rfl) | (obtain ⟨_, _, _, _, _, _, _, _, _, _, _, _, _, rfl, _⟩ := h; rfl) | (obtain ⟨_, _, _, _, _, _, _, _, _, _, _, _, _, _, rfl, _⟩ := h; rfl) | (obtain ⟨_, _, _, _, _, _, _, _, _, _, _, _, _, _, _, rfl, _⟩ := h; rfl)
  · have hu := hu_of hr
    exact pss_one (ps_ret (pe_callB (call_sortD rfl) (by rfl) T.m_sorted (by decide +kernel) (pa_cons (pe_fld (pv 0) (by rfl)) (pa_nil))))
  · exact pure_kept ⟨T.cl_Rounds, T.na_Rounds_hands, T.na_Rounds_worth, T.na_Rounds_cells, T.na_Rounds_made⟩ h
set_option maxHeartbeats 8000000 in
theorem ok_Rounds__Store_look_cell (T : Txt K mg D) : FnOk P w K mg base CX0 2 D.f_Store_look_cell D.d_Store_look_cell ["self", "cell"] (sp_look_cell D.c_Rounds) := by
  have G_is_whole : FnOk P w K mg base CX0 1 D.f_is_whole D.d_is_whole ["thing", "low", "high"] (sp_is_whole) := ok_is_whole T
  refine T.F_Store_look_cell.ok sc_Store_look_cell (fun vs H Q E h => ?_) (fun cdv A outer s H vs Q E hr h => ⟨t_Store_look_cell K (sp_is_whole), ?_, ?_⟩)
  · first | (obtain ⟨_, rfl, _⟩ := h; rfl) | (obtain ⟨_, _, rfl, _⟩ := h; rfl) | (obtain ⟨_, _, _, rfl, _⟩ := h; rfl) | (obtain ⟨_, _, _, _, rfl, _⟩ := h; rfl) | (obtain ⟨_, _, _, _, _, rfl, _⟩ := h; rfl) | (obtain ⟨_, _, _, _, _, _, rfl, _⟩ := h; rfl) | (obtain ⟨_, _, _, _, _, _, _, rfl, _⟩ := h; rfl) | (obtain ⟨_, _, _, _, _, _, _, _, rfl, _⟩ := h; rfl) | (obtain ⟨_, _, _, _, _, _, _, _, _, rfl, _⟩ := h; rfl) | (obtain ⟨_, _, _, _, _, _, _, _, _, _, rfl, _⟩ := h; rfl) | (obtain ⟨_, _, _, _, _, _, _, _, _, _, _, rfl, _⟩ := h; rfl) | (obtain ⟨_, _, _, _, _, _, _, _, _, _, _, _, rfl, _⟩ := h; rfl) | (obtain ⟨_, _, _, _, _, _, _, _, _, _, _, _, _, rfl, _⟩ := h; rfl) | (obtain ⟨_, _, _, _, _, _, _, _, _, _, _, _, _, _, rfl, _⟩ := h; rfl) | (obtain ⟨_, _, _, _, _, _, _, _, _, _, _, _, _, _, _, rfl, _⟩ := h; rfl)
  · have hu := hu_of hr
    exact pss_one (ps_if (pt_not (pt_val (pe_call G_is_whole (hr.mono (by decide)) (by rfl) T.g_is_whole T.F_is_whole.kp T.b_is_whole .nil pass0 (pa_cons (pv 1) (pa_cons (pe_int) (pa_cons (pe_op op_subI (pe_callB call_lenQ (by rfl) T.m_len PySem.boot_len (pa_cons (pe_fld (pv 0) (by rfl)) (pa_nil))) (pe_int)) (pa_nil))))))) (pss_one (ps_never)) (pss_nil))
  · exact pure_look_cell ⟨T.cl_Rounds, T.na_Rounds_hands, T.na_Rounds_worth, T.na_Rounds_cells, T.na_Rounds_made⟩ h
set_option maxHeartbeats 8000000 in
theorem ok_Rounds__Rounds_after_swap (T : Txt K mg D) : FnOk P w K mg base CX0 1 D.f_Rounds_after_swap D.d_Rounds_after_swap ["self", "thing"] (sp_rafter D.c_Rounds) := by
  refine T.F_Rounds_after_swap.ok sc_Rounds_after_swap (fun vs H Q E h => ?_) (fun cdv A outer s H vs Q E hr h => ⟨t_Rounds_after_swap K, ?_, ?_⟩)
  · first | (obtain ⟨_, rfl, _⟩ := h; rfl) | (obtain ⟨_, _, rfl, _⟩ := h; rfl) | (obtain ⟨_, _, _, rfl, _⟩ := h; rfl) | (obtain ⟨_, _, _, _, rfl, _⟩ := h; rfl) | (obtain ⟨_, _, _, _, _, rfl, _⟩ := h; rfl) | (obtain ⟨_, _, _, _, _, _, rfl, _⟩ := h; rfl) | (obtain ⟨_, _, _, _, _, _, _, rfl, _⟩ := h; rfl) | (obtain ⟨_, _, _, _, _, _, _, _, rfl, _⟩ := h; rfl) | (obtain ⟨_, _, _, _, _, _, _, _, _, rfl, _⟩ := h; rfl) | (obtain ⟨_, _, _, _, _, _, _, _, _, _, rfl, _⟩ := h; rfl) | (obtain ⟨_, _, _, _, _, _, _, _, _, _, _, rfl, _⟩ := h; rfl) | (obtain ⟨_, _, _, _, _, _, _, _, _, _, _, _, rfl, _⟩ := h; rfl) | (obtain ⟨_, _, _, _, _, _, _, _, _, _, _, _, _, rfl, _⟩ := h; rfl) | (obtain ⟨_, _, _, _, _, _, _, _, _, _, _, _, _, _, rfl, _⟩ := h; rfl) | (obtain ⟨_, _, _, _, _, _, _, _, _, _, _, _, _, _, _, rfl, _⟩ := h; rfl)
  · have hu := hu_of hr
    exact pss_one (ps_dput hu (pe_fld (pv 0) (by rfl)) (pv 1) (pe_fld (pv 0) (by rfl)) (by rfl))
  · exact pure_rafter ⟨⟨T.cl_Rounds, T.na_Rounds_hands, T.na_Rounds_worth, T.na_Rounds_cells, T.na_Rounds_made⟩, T.na_Rounds_era, T.na_Rounds_inside, T.na_Rounds_saw, T.na_Rounds_waits⟩ h
set_option maxHeartbeats 8000000 in
theorem ok_Rounds__Store_swap (T : Txt K mg D) : FnOk P w K mg base CX0 3 D.f_Store_swap D.d_Store_swap ["self", "cell", "value"] (sp_swapR D.c_Rounds) := by
  have G_Rounds__Store_look_cell : FnOk P w K mg base CX0 2 D.f_Store_look_cell D.d_Store_look_cell ["self", "cell"] (sp_look_cell D.c_Rounds) := ok_Rounds__Store_look_cell T
  have G_look_number : FnOk P w K mg base CX0 2 D.f_look_number D.d_look_number ["thing", "low", "high"] (sp_look_number) := ok_look_number T
  have G_Rounds__Rounds_after_swap : FnOk P w K mg base CX0 1 D.f_Rounds_after_swap D.d_Rounds_after_swap ["self", "thing"] (sp_rafter D.c_Rounds) := ok_Rounds__Rounds_after_swap T
  refine T.F_Store_swap.ok sc_Store_swap (fun vs H Q E h => ?_) (fun cdv A outer s H vs Q E hr h => ⟨t_Store_swap K D.c_Rounds (sp_look_cell D.c_Rounds) (sp_look_number) (sp_rafter D.c_Rounds), ?_, ?_⟩)
  · first | (obtain ⟨_, rfl, _⟩ := h; rfl) | (obtain ⟨_, _, rfl, _⟩ := h; rfl) | (obtain ⟨_, _, _, rfl, _⟩ := h; rfl) | (obtain ⟨_, _, _, _, rfl, _⟩ := h; rfl) | (obtain ⟨_, _, _, _, _, rfl, _⟩ := h; rfl) | (obtain ⟨_, _, _, _, _, _, rfl, _⟩ := h; rfl) | (obtain ⟨_, _, _, _, _, _, _, rfl, _⟩ := h; rfl) | (obtain ⟨_, _, _, _, _, _, _, _, rfl, _⟩ := h; rfl) | (obtain ⟨_, _, _, _, _, _, _, _, _, rfl, _⟩ := h; rfl) | (obtain ⟨_, _, _, _, _, _, _, _, _, _, rfl, _⟩ := h; rfl) | (obtain ⟨_, _, _, _, _, _, _, _, _, _, _, rfl, _⟩ := h; rfl) | (obtain ⟨_, _, _, _, _, _, _, _, _, _, _, _, rfl, _⟩ := h; rfl) | (obtain ⟨_, _, _, _, _, _, _, _, _, _, _, _, _, rfl, _⟩ := h; rfl) | (obtain ⟨_, _, _, _, _, _, _, _, _, _, _, _, _, _, rfl, _⟩ := h; rfl) | (obtain ⟨_, _, _, _, _, _, _, _, _, _, _, _, _, _, _, rfl, _⟩ := h; rfl)
  · have hu := hu_of hr
    exact pss_cons (ps_expr (pe_meth (pv 0) T.cl_Rounds T.me_Rounds_look_cell G_Rounds__Store_look_cell (hr.mono (by decide)) T.b_Store_look_cell .nil pass0 (pa_cons (pv 1) (pa_nil))))
      (pss_cons (ps_expr (pe_call G_look_number (hr.mono (by decide)) (by rfl) T.g_look_number T.F_look_number.kp T.b_look_number .nil pass0 (pa_cons (pv 2) (pa_cons (pe_int) (pa_cons (pe_glob (by rfl) T.k_MOST_VALUE ⟨_, rfl⟩) (pa_nil))))))
      (pss_cons (ps_set (i := 3) sc_Store_swap.nd rfl (by first | exact Or.inl rfl | exact Or.inr rfl) (pe_ix ix_list (pe_fld (pv 0) (by rfl)) (pv 1) (fun _ _ => rfl)))
      (pss_cons (ps_dput hu (pe_fld (pv 0) (by rfl)) (pe_fld (pv 0) (by rfl)) (pv 2) (by rfl))
      (pss_cons (ps_asg (pe_fld (pv 0) (by rfl)) (pg_sub (pe_fld (pv 0) (by rfl)) (pv 1) set_list))
      (pss_cons (ps_fld (pv 0) (pe_op op_addI (pe_fld (pv 0) (by rfl)) (pe_int)) (by rfl))
      (pss_cons (ps_expr (pe_meth (pv 0) T.cl_Rounds T.me_Rounds_after_swap G_Rounds__Rounds_after_swap (hr.mono (by decide)) T.b_Rounds_after_swap .nil pass0 (pa_cons (pv 3) (pa_nil))))
      (pss_one (ps_ret (pv 3)))))))))
  · exact pure_swap ⟨T.cl_Rounds, T.na_Rounds_hands, T.na_Rounds_worth, T.na_Rounds_cells, T.na_Rounds_made⟩ h
set_option maxHeartbeats 8000000 in
theorem ok_Marks__Store_kept (T : Txt K mg D) : FnOk P w K mg base CX0 1 D.f_Store_kept D.d_Store_kept ["self"] (sp_kept D.c_Marks) := by
  refine T.F_Store_kept.ok sc_Store_kept (fun vs H Q E h => ?_) (fun cdv A outer s H vs Q E hr h => ⟨t_Store_kept K, ?_, ?_⟩)
  · first | (obtain ⟨_, rfl, _⟩ := h; rfl) | (obtain ⟨_, _, rfl, _⟩ := h; rfl) | (obtain ⟨_, _, _, rfl, _⟩ := h; rfl) | (obtain ⟨_, _, _, _, rfl, _⟩ := h; rfl) | (obtain ⟨_, _, _, _, _, rfl, _⟩ := h; rfl) | (obtain ⟨_, _, _, _, _, _, rfl, _⟩ := h; rfl) | (obtain ⟨_, _, _, _, _, _, _, rfl, _⟩ := h; rfl) | (obtain ⟨_, _, _, _, _, _, _, _, rfl, _⟩ := h; rfl) | (obtain ⟨_, _, _, _, _, _, _, _, _, rfl, _⟩ := h; rfl) | (obtain ⟨_, _, _, _, _, _, _, _, _, _, rfl, _⟩ := h; rfl) | (obtain ⟨_, _, _, _, _, _, _, _, _, _, _, rfl, _⟩ := h; rfl) | (obtain ⟨_, _, _, _, _, _, _, _, _, _, _, _, rfl, _⟩ := h; rfl) | (obtain ⟨_, _, _, _, _, _, _, _, _, _, _, _, _, rfl, _⟩ := h; rfl) | (obtain ⟨_, _, _, _, _, _, _, _, _, _, _, _, _, _, rfl, _⟩ := h; rfl) | (obtain ⟨_, _, _, _, _, _, _, _, _, _, _, _, _, _, _, rfl, _⟩ := h; rfl)
  · have hu := hu_of hr
    exact pss_one (ps_ret (pe_callB (call_sortD rfl) (by rfl) T.m_sorted (by decide +kernel) (pa_cons (pe_fld (pv 0) (by rfl)) (pa_nil))))
  · exact pure_kept ⟨T.cl_Marks, T.na_Marks_hands, T.na_Marks_worth, T.na_Marks_cells, T.na_Marks_made⟩ h
set_option maxHeartbeats 8000000 in
theorem ok_Marks__Marks_marked (T : Txt K mg D) : FnOk P w K mg base CX0 1 D.f_Marks_marked D.d_Marks_marked ["self"] (sp_marked D.c_Marks) := by
  refine T.F_Marks_marked.ok sc_Marks_marked (fun vs H Q E h => ?_) (fun cdv A outer s H vs Q E hr h => ⟨t_Marks_marked K, ?_, ?_⟩)
  · first | (obtain ⟨_, rfl, _⟩ := h; rfl) | (obtain ⟨_, _, rfl, _⟩ := h; rfl) | (obtain ⟨_, _, _, rfl, _⟩ := h; rfl) | (obtain ⟨_, _, _, _, rfl, _⟩ := h; rfl) | (obtain ⟨_, _, _, _, _, rfl, _⟩ := h; rfl) | (obtain ⟨_, _, _, _, _, _, rfl, _⟩ := h; rfl) | (obtain ⟨_, _, _, _, _, _, _, rfl, _⟩ := h; rfl) | (obtain ⟨_, _, _, _, _, _, _, _, rfl, _⟩ := h; rfl) | (obtain ⟨_, _, _, _, _, _, _, _, _, rfl, _⟩ := h; rfl) | (obtain ⟨_, _, _, _, _, _, _, _, _, _, rfl, _⟩ := h; rfl) | (obtain ⟨_, _, _, _, _, _, _, _, _, _, _, rfl, _⟩ := h; rfl) | (obtain ⟨_, _, _, _, _, _, _, _, _, _, _, _, rfl, _⟩ := h; rfl) | (obtain ⟨_, _, _, _, _, _, _, _, _, _, _, _, _, rfl, _⟩ := h; rfl) | (obtain ⟨_, _, _, _, _, _, _, _, _, _, _, _, _, _, rfl, _⟩ := h; rfl) | (obtain ⟨_, _, _, _, _, _, _, _, _, _, _, _, _, _, _, rfl, _⟩ := h; rfl)
  · have hu := hu_of hr
    exact pss_cons (ps_lock (ps_setLc (i := 1) (own := [("one", 2)]) (by rfl) sc_Marks_marked.nd rfl rfl (sw_true rfl rfl rfl (by decide +kernel)) (pi_keys (pe_fld (pv 0) (by rfl))) (blkOk_by (own := [("one", 2)]) (N := ["self", "found", "one"]) (sc := defScope s_Marks_marked) (by decide +kernel)) (fun _ _ _ _ _ => pg_name (i := 2) sc_Marks_marked.nd rfl (by first | exact Or.inl rfl | exact Or.inr rfl)) (fun _ _ _ _ _ => pts_one (pt_cmpR op_ne (pe_ix ix_tup (pe_dget hu (pe_fld (pv 0) (by rfl)) (pv 2) (fun _ _ => rfl)) (pe_int) (fun _ _ => rfl)) (pe_str) (nomark _))) (fun _ _ _ _ _ => pe_ix ix_tup (pe_dget hu (pe_fld (pv 0) (by rfl)) (pv 2) (fun _ _ => rfl)) (pe_int) (fun _ _ => rfl))))
      (pss_one (ps_ret (pe_sset rfl (by rfl) T.m_sorted (by rfl) T.m_set (pa_cons (pv 1) (pa_nil)))))
  · exact pure_marked ⟨⟨T.cl_Marks, T.na_Marks_hands, T.na_Marks_worth, T.na_Marks_cells, T.na_Marks_made⟩, T.na_Marks_marks, T.na_Marks_waits⟩ h
set_option maxHeartbeats 8000000 in
theorem ok_Marks__Store_let_go (T : Txt K mg D) : FnOk P w K mg base CX0 1 D.f_Store_let_go D.d_Store_let_go ["self", "things"] (sp_let_go D.c_Marks) := by
  refine T.F_Store_let_go.ok sc_Store_let_go (fun vs H Q E h => ?_) (fun cdv A outer s H vs Q E hr h => ⟨t_Store_let_go K, ?_, ?_⟩)
  · first | (obtain ⟨_, rfl, _⟩ := h; rfl) | (obtain ⟨_, _, rfl, _⟩ := h; rfl) | (obtain ⟨_, _, _, rfl, _⟩ := h; rfl) | (obtain ⟨_, _, _, _, rfl, _⟩ := h; rfl) | (obtain ⟨_, _, _, _, _, rfl, _⟩ := h; rfl) | (obtain ⟨_, _, _, _, _, _, rfl, _⟩ := h; rfl) | (obtain ⟨_, _, _, _, _, _, _, rfl, _⟩ := h; rfl) | (obtain ⟨_, _, _, _, _, _, _, _, rfl, _⟩ := h; rfl) | (obtain ⟨_, _, _, _, _, _, _, _, _, rfl, _⟩ := h; rfl) | (obtain ⟨_, _, _, _, _, _, _, _, _, _, rfl, _⟩ := h; rfl) | (obtain ⟨_, _, _, _, _, _, _, _, _, _, _, rfl, _⟩ := h; rfl) | (obtain ⟨_, _, _, _, _, _, _, _, _, _, _, _, rfl, _⟩ := h; rfl) | (obtain ⟨_, _, _, _, _, _, _, _, _, _, _, _, _, rfl, _⟩ := h; rfl) | (obtain ⟨_, _, _, _, _, _, _, _, _, _, _, _, _, _, rfl, _⟩ := h; rfl) | (obtain ⟨_, _, _, _, _, _, _, _, _, _, _, _, _, _, _, rfl, _⟩ := h; rfl)
  · have hu := hu_of hr
    exact pss_cons (ps_for PassesOwn.never rfl (pi_list (pv 1)) (pg_name (i := 2) sc_Store_let_go.nd rfl (by first | exact Or.inl rfl | exact Or.inr rfl)) (pss_one (ps_expr (pe_dpop1 (pe_fld (pv 0) (by rfl)) (pv 2) ⟨rfl, rfl, rfl, rfl⟩))))
      (pss_one (ps_ret (pe_callB cr_sortedI (by rfl) T.m_sorted (by decide +kernel) (pa_cons (pv 1) (pa_nil)))))
  · exact pure_let_go ⟨T.cl_Marks, T.na_Marks_hands, T.na_Marks_worth, T.na_Marks_cells, T.na_Marks_made⟩ h
set_option maxHeartbeats 8000000 in
theorem ok_Marks__Marks_sweep (T : Txt K mg D) : FnOk P w K mg base CX0 2 D.f_Marks_sweep D.d_Marks_sweep ["self"] (sp_sweep D.c_Marks) := by
  have G_Marks__Marks_marked : FnOk P w K mg base CX0 1 D.f_Marks_marked D.d_Marks_marked ["self"] (sp_marked D.c_Marks) := ok_Marks__Marks_marked T
  have G_Marks__Store_let_go : FnOk P w K mg base CX0 1 D.f_Store_let_go D.d_Store_let_go ["self", "things"] (sp_let_go D.c_Marks) := ok_Marks__Store_let_go T
  refine T.F_Marks_sweep.ok sc_Marks_sweep (fun vs H Q E h => ?_) (fun cdv A outer s H vs Q E hr h => ⟨t_Marks_sweep K D.c_Marks (sp_marked D.c_Marks) (sp_let_go D.c_Marks), ?_, ?_⟩)
  · first | (obtain ⟨_, rfl, _⟩ := h; rfl) | (obtain ⟨_, _, rfl, _⟩ := h; rfl) | (obtain ⟨_, _, _, rfl, _⟩ := h; rfl) | (obtain ⟨_, _, _, _, rfl, _⟩ := h; rfl) | (obtain ⟨_, _, _, _, _, rfl, _⟩ := h; rfl) | (obtain ⟨_, _, _, _, _, _, rfl, _⟩ := h; rfl) | (obtain ⟨_, _, _, _, _, _, _, rfl, _⟩ := h; rfl) | (obtain ⟨_, _, _, _, _, _, _, _, rfl, _⟩ := h; rfl) | (obtain ⟨_, _, _, _, _, _, _, _, _, rfl, _⟩ := h; rfl) | (obtain ⟨_, _, _, _, _, _, _, _, _, _, rfl, _⟩ := h; rfl) | (obtain ⟨_, _, _, _, _, _, _, _, _, _, _, rfl, _⟩ := h; rfl) | (obtain ⟨_, _, _, _, _, _, _, _, _, _, _, _, rfl, _⟩ := h; rfl) | (obtain ⟨_, _, _, _, _, _, _, _, _, _, _, _, _, rfl, _⟩ := h; rfl) | (obtain ⟨_, _, _, _, _, _, _, _, _, _, _, _, _, _, rfl, _⟩ := h; rfl) | (obtain ⟨_, _, _, _, _, _, _, _, _, _, _, _, _, _, _, rfl, _⟩ := h; rfl)
  · have hu := hu_of hr
    exact pss_cons (ps_set (i := 1) sc_Marks_sweep.nd rfl (by first | exact Or.inl rfl | exact Or.inr rfl) (pe_meth0 (pv 0) T.cl_Marks T.me_Marks_marked G_Marks__Marks_marked (hr.mono (by decide)) T.b_Marks_marked .nil pass0))
      (pss_cons (ps_setLc (i := 2) (own := [("thing", 3)]) (by rfl) sc_Marks_sweep.nd rfl rfl (sw_true rfl rfl rfl (by decide +kernel)) (pi_list (pe_fld (pv 0) (by rfl))) (blkOk_by (own := [("thing", 3)]) (N := ["self", "bear", "found", "thing"]) (sc := defScope s_Marks_sweep) (by decide +kernel)) (fun _ _ _ _ _ => pg_name (i := 3) sc_Marks_sweep.nd rfl (by first | exact Or.inl rfl | exact Or.inr rfl)) (fun _ _ _ _ _ => pts_one (pt_cmpR op_notIn_seq (pv 3) (pv 1) (by rfl))) (fun _ _ _ _ _ => pv 3))
      (pss_cons (ps_fld (pv 0) (pe_lc (own := [("thing", 3)]) (by rfl) sc_Marks_sweep.nd (pi_list (pe_fld (pv 0) (by rfl))) (blkOk_by (own := [("thing", 3)]) (N := ["self", "bear", "found", "thing"]) (sc := defScope s_Marks_sweep) (by decide +kernel)) (fun _ _ _ _ _ => pg_name (i := 3) sc_Marks_sweep.nd rfl (by first | exact Or.inl rfl | exact Or.inr rfl)) (fun _ _ _ _ _ => pts_one (pt_cmpR op_in_seq (pv 3) (pv 1) (by rfl))) (fun _ _ _ _ _ => pv 3)) (by rfl))
      (pss_one (ps_ret (pe_meth (pv 0) T.cl_Marks T.me_Marks_let_go G_Marks__Store_let_go (hr.mono (by decide)) T.b_Store_let_go .nil pass0 (pa_cons (pv 2) (pa_nil)))))))
  · exact pure_sweep ⟨⟨T.cl_Marks, T.na_Marks_hands, T.na_Marks_worth, T.na_Marks_cells, T.na_Marks_made⟩, T.na_Marks_marks, T.na_Marks_waits⟩ h
set_option maxHeartbeats 8000000 in
theorem ok_Marks__Store_look_cell (T : Txt K mg D) : FnOk P w K mg base CX0 2 D.f_Store_look_cell D.d_Store_look_cell ["self", "cell"] (sp_look_cell D.c_Marks) := by
  have G_is_whole : FnOk P w K mg base CX0 1 D.f_is_whole D.d_is_whole ["thing", "low", "high"] (sp_is_whole) := ok_is_whole T
  refine T.F_Store_look_cell.ok sc_Store_look_cell (fun vs H Q E h => ?_) (fun cdv A outer s H vs Q E hr h => ⟨t_Store_look_cell K (sp_is_whole), ?_, ?_⟩)
  · first | (obtain ⟨_, rfl, _⟩ := h; rfl) | (obtain ⟨_, _, rfl, _⟩ := h; rfl) | (obtain ⟨_, _, _, rfl, _⟩ := h; rfl) | (obtain ⟨_, _, _, _, rfl, _⟩ := h; rfl) | (obtain ⟨_, _, _, _, _, rfl, _⟩ := h; rfl) | (obtain ⟨_, _, _, _, _, _, rfl, _⟩ := h; rfl) | (obtain ⟨_, _, _, _, _, _, _, rfl, _⟩ := h; rfl) | (obtain ⟨_, _, _, _, _, _, _, _, rfl, _⟩ := h; rfl) | (obtain ⟨_, _, _, _, _, _, _, _, _, rfl, _⟩ := h; rfl) | (obtain ⟨_, _, _, _, _, _, _, _, _, _, rfl, _⟩ := h; rfl) | (obtain ⟨_, _, _, _, _, _, _, _, _, _, _, rfl, _⟩ := h; rfl) | (obtain ⟨_, _, _, _, _, _, _, _, _, _, _, _, rfl, _⟩ := h; rfl) | (obtain ⟨_, _, _, _, _, _, _, _, _, _, _, _, _, rfl, _⟩ := h; rfl) | (obtain ⟨_, _, _, _, _, _, _, _, _, _, _, _, _, _, rfl, _⟩ := h; rfl) | (obtain ⟨_, _, _, _, _, _, _, _, _, _, _, _, _, _, _, rfl, _⟩ := h; rfl)
  · have hu := hu_of hr
    exact pss_one (ps_if (pt_not (pt_val (pe_call G_is_whole (hr.mono (by decide)) (by rfl) T.g_is_whole T.F_is_whole.kp T.b_is_whole .nil pass0 (pa_cons (pv 1) (pa_cons (pe_int) (pa_cons (pe_op op_subI (pe_callB call_lenQ (by rfl) T.m_len PySem.boot_len (pa_cons (pe_fld (pv 0) (by rfl)) (pa_nil))) (pe_int)) (pa_nil))))))) (pss_one (ps_never)) (pss_nil))
  · exact pure_look_cell ⟨T.cl_Marks, T.na_Marks_hands, T.na_Marks_worth, T.na_Marks_cells, T.na_Marks_made⟩ h
set_option maxHeartbeats 8000000 in
theorem ok_Marks__Marks_after_swap (T : Txt K mg D) : FnOk P w K mg base CX0 1 D.f_Marks_after_swap D.d_Marks_after_swap ["self", "thing"] (sp_mafter D.c_Marks) := by
  refine T.F_Marks_after_swap.ok sc_Marks_after_swap (fun vs H Q E h => ?_) (fun cdv A outer s H vs Q E hr h => ⟨t_Marks_after_swap K, ?_, ?_⟩)
  · first | (obtain ⟨_, rfl, _⟩ := h; rfl) | (obtain ⟨_, _, rfl, _⟩ := h; rfl) | (obtain ⟨_, _, _, rfl, _⟩ := h; rfl) | (obtain ⟨_, _, _, _, rfl, _⟩ := h; rfl) | (obtain ⟨_, _, _, _, _, rfl, _⟩ := h; rfl) | (obtain ⟨_, _, _, _, _, _, rfl, _⟩ := h; rfl) | (obtain ⟨_, _, _, _, _, _, _, rfl, _⟩ := h; rfl) | (obtain ⟨_, _, _, _, _, _, _, _, rfl, _⟩ := h; rfl) | (obtain ⟨_, _, _, _, _, _, _, _, _, rfl, _⟩ := h; rfl) | (obtain ⟨_, _, _, _, _, _, _, _, _, _, rfl, _⟩ := h; rfl) | (obtain ⟨_, _, _, _, _, _, _, _, _, _, _, rfl, _⟩ := h; rfl) | (obtain ⟨_, _, _, _, _, _, _, _, _, _, _, _, rfl, _⟩ := h; rfl) | (obtain ⟨_, _, _, _, _, _, _, _, _, _, _, _, _, rfl, _⟩ := h; rfl) | (obtain ⟨_, _, _, _, _, _, _, _, _, _, _, _, _, _, rfl, _⟩ := h; rfl) | (obtain ⟨_, _, _, _, _, _, _, _, _, _, _, _, _, _, _, rfl, _⟩ := h; rfl)
  · have hu := hu_of hr
    exact pss_one (ps_expr (pe_bm PySem.F.plainAttrs_list PySem.F.slot_list_append PySem.F.type_list_append mt_append (pe_fld (pv 0) (by rfl)) (pa_cons (pv 1) (pa_nil))))
  · exact pure_mafter ⟨⟨T.cl_Marks, T.na_Marks_hands, T.na_Marks_worth, T.na_Marks_cells, T.na_Marks_made⟩, T.na_Marks_marks, T.na_Marks_waits⟩ h
set_option maxHeartbeats 8000000 in
theorem ok_Marks__Store_swap (T : Txt K mg D) : FnOk P w K mg base CX0 3 D.f_Store_swap D.d_Store_swap ["self", "cell", "value"] (sp_swapM D.c_Marks) := by
  have G_Marks__Store_look_cell : FnOk P w K mg base CX0 2 D.f_Store_look_cell D.d_Store_look_cell ["self", "cell"] (sp_look_cell D.c_Marks) := ok_Marks__Store_look_cell T
  have G_look_number : FnOk P w K mg base CX0 2 D.f_look_number D.d_look_number ["thing", "low", "high"] (sp_look_number) := ok_look_number T
  have G_Marks__Marks_after_swap : FnOk P w K mg base CX0 1 D.f_Marks_after_swap D.d_Marks_after_swap ["self", "thing"] (sp_mafter D.c_Marks) := ok_Marks__Marks_after_swap T
  refine T.F_Store_swap.ok sc_Store_swap (fun vs H Q E h => ?_) (fun cdv A outer s H vs Q E hr h => ⟨t_Store_swap K D.c_Marks (sp_look_cell D.c_Marks) (sp_look_number) (sp_mafter D.c_Marks), ?_, ?_⟩)
  · first | (obtain ⟨_, rfl, _⟩ := h; rfl) | (obtain ⟨_, _, rfl, _⟩ := h; rfl) | (obtain ⟨_, _, _, rfl, _⟩ := h; rfl) | (obtain ⟨_, _, _, _, rfl, _⟩ := h; rfl) | (obtain ⟨_, _, _, _, _, rfl, _⟩ := h; rfl) | (obtain ⟨_, _, _, _, _, _, rfl, _⟩ := h; rfl) | (obtain ⟨_, _, _, _, _, _, _, rfl, _⟩ := h; rfl) | (obtain ⟨_, _, _, _, _, _, _, _, rfl, _⟩ := h; rfl) | (obtain ⟨_, _, _, _, _, _, _, _, _, rfl, _⟩ := h; rfl) | (obtain ⟨_, _, _, _, _, _, _, _, _, _, rfl, _⟩ := h; rfl) | (obtain ⟨_, _, _, _, _, _, _, _, _, _, _, rfl, _⟩ := h; rfl) | (obtain ⟨_, _, _, _, _, _, _, _, _, _, _, _, rfl, _⟩ := h; rfl) | (obtain ⟨_, _, _, _, _, _, _, _, _, _, _, _, _, rfl, _⟩ := h; rfl) | (obtain ⟨_, _, _, _, _, _, _, _, _, _, _, _, _, _, rfl, _⟩ := h; rfl) | (obtain ⟨_, _, _, _, _, _, _, _, _, _, _, _, _, _, _, rfl, _⟩ := h; rfl)
  · have hu := hu_of hr
    exact pss_cons (ps_expr (pe_meth (pv 0) T.cl_Marks T.me_Marks_look_cell G_Marks__Store_look_cell (hr.mono (by decide)) T.b_Store_look_cell .nil pass0 (pa_cons (pv 1) (pa_nil))))
      (pss_cons (ps_expr (pe_call G_look_number (hr.mono (by decide)) (by rfl) T.g_look_number T.F_look_number.kp T.b_look_number .nil pass0 (pa_cons (pv 2) (pa_cons (pe_int) (pa_cons (pe_glob (by rfl) T.k_MOST_VALUE ⟨_, rfl⟩) (pa_nil))))))
      (pss_cons (ps_set (i := 3) sc_Store_swap.nd rfl (by first | exact Or.inl rfl | exact Or.inr rfl) (pe_ix ix_list (pe_fld (pv 0) (by rfl)) (pv 1) (fun _ _ => rfl)))
      (pss_cons (ps_dput hu (pe_fld (pv 0) (by rfl)) (pe_fld (pv 0) (by rfl)) (pv 2) (by rfl))
      (pss_cons (ps_asg (pe_fld (pv 0) (by rfl)) (pg_sub (pe_fld (pv 0) (by rfl)) (pv 1) set_list))
      (pss_cons (ps_fld (pv 0) (pe_op op_addI (pe_fld (pv 0) (by rfl)) (pe_int)) (by rfl))
      (pss_cons (ps_expr (pe_meth (pv 0) T.cl_Marks T.me_Marks_after_swap G_Marks__Marks_after_swap (hr.mono (by decide)) T.b_Marks_after_swap .nil pass0 (pa_cons (pv 3) (pa_nil))))
      (pss_one (ps_ret (pv 3)))))))))
  · exact pure_swap ⟨T.cl_Marks, T.na_Marks_hands, T.na_Marks_worth, T.na_Marks_cells, T.na_Marks_made⟩ h
set_option maxHeartbeats 8000000 in
theorem ok_Marks__Store_look_hand (T : Txt K mg D) : FnOk P w K mg base CX0 2 D.f_Store_look_hand D.d_Store_look_hand ["self", "hand"] (sp_look_hand D.c_Marks) := by
  have G_is_whole : FnOk P w K mg base CX0 1 D.f_is_whole D.d_is_whole ["thing", "low", "high"] (sp_is_whole) := ok_is_whole T
  refine T.F_Store_look_hand.ok sc_Store_look_hand (fun vs H Q E h => ?_) (fun cdv A outer s H vs Q E hr h => ⟨t_Store_look_hand K (sp_is_whole), ?_, ?_⟩)
  · first | (obtain ⟨_, rfl, _⟩ := h; rfl) | (obtain ⟨_, _, rfl, _⟩ := h; rfl) | (obtain ⟨_, _, _, rfl, _⟩ := h; rfl) | (obtain ⟨_, _, _, _, rfl, _⟩ := h; rfl) | (obtain ⟨_, _, _, _, _, rfl, _⟩ := h; rfl) | (obtain ⟨_, _, _, _, _, _, rfl, _⟩ := h; rfl) | (obtain ⟨_, _, _, _, _, _, _, rfl, _⟩ := h; rfl) | (obtain ⟨_, _, _, _, _, _, _, _, rfl, _⟩ := h; rfl) | (obtain ⟨_, _, _, _, _, _, _, _, _, rfl, _⟩ := h; rfl) | (obtain ⟨_, _, _, _, _, _, _, _, _, _, rfl, _⟩ := h; rfl) | (obtain ⟨_, _, _, _, _, _, _, _, _, _, _, rfl, _⟩ := h; rfl) | (obtain ⟨_, _, _, _, _, _, _, _, _, _, _, _, rfl, _⟩ := h; rfl) | (obtain ⟨_, _, _, _, _, _, _, _, _, _, _, _, _, rfl, _⟩ := h; rfl) | (obtain ⟨_, _, _, _, _, _, _, _, _, _, _, _, _, _, rfl, _⟩ := h; rfl) | (obtain ⟨_, _, _, _, _, _, _, _, _, _, _, _, _, _, _, rfl, _⟩ := h; rfl)
  · have hu := hu_of hr
    exact pss_one (ps_if (pt_not (pt_val (pe_call G_is_whole (hr.mono (by decide)) (by rfl) T.g_is_whole T.F_is_whole.kp T.b_is_whole .nil pass0 (pa_cons (pv 1) (pa_cons (pe_int) (pa_cons (pe_op op_subI (pe_fld (pv 0) (by rfl)) (pe_int)) (pa_nil))))))) (pss_one (ps_never)) (pss_nil))
  · exact pure_look_hand ⟨T.cl_Marks, T.na_Marks_hands, T.na_Marks_worth, T.na_Marks_cells, T.na_Marks_made⟩ h
set_option maxHeartbeats 8000000 in
theorem ok_Marks__Marks_look_mark (T : Txt K mg D) : FnOk P w K mg base CX0 3 D.f_Marks_look_mark D.d_Marks_look_mark ["self", "hand", "mark"] (sp_look_mark D.c_Marks) := by
  have G_Marks__Store_look_hand : FnOk P w K mg base CX0 2 D.f_Store_look_hand D.d_Store_look_hand ["self", "hand"] (sp_look_hand D.c_Marks) := ok_Marks__Store_look_hand T
  have G_is_whole : FnOk P w K mg base CX0 1 D.f_is_whole D.d_is_whole ["thing", "low", "high"] (sp_is_whole) := ok_is_whole T
  refine T.F_Marks_look_mark.ok sc_Marks_look_mark (fun vs H Q E h => ?_) (fun cdv A outer s H vs Q E hr h => ⟨t_Marks_look_mark K D.c_Marks (sp_look_hand D.c_Marks) (sp_is_whole), ?_, ?_⟩)
  · first | (obtain ⟨_, rfl, _⟩ := h; rfl) | (obtain ⟨_, _, rfl, _⟩ := h; rfl) | (obtain ⟨_, _, _, rfl, _⟩ := h; rfl) | (obtain ⟨_, _, _, _, rfl, _⟩ := h; rfl) | (obtain ⟨_, _, _, _, _, rfl, _⟩ := h; rfl) | (obtain ⟨_, _, _, _, _, _, rfl, _⟩ := h; rfl) | (obtain ⟨_, _, _, _, _, _, _, rfl, _⟩ := h; rfl) | (obtain ⟨_, _, _, _, _, _, _, _, rfl, _⟩ := h; rfl) | (obtain ⟨_, _, _, _, _, _, _, _, _, rfl, _⟩ := h; rfl) | (obtain ⟨_, _, _, _, _, _, _, _, _, _, rfl, _⟩ := h; rfl) | (obtain ⟨_, _, _, _, _, _, _, _, _, _, _, rfl, _⟩ := h; rfl) | (obtain ⟨_, _, _, _, _, _, _, _, _, _, _, _, rfl, _⟩ := h; rfl) | (obtain ⟨_, _, _, _, _, _, _, _, _, _, _, _, _, rfl, _⟩ := h; rfl) | (obtain ⟨_, _, _, _, _, _, _, _, _, _, _, _, _, _, rfl, _⟩ := h; rfl) | (obtain ⟨_, _, _, _, _, _, _, _, _, _, _, _, _, _, _, rfl, _⟩ := h; rfl)
  · have hu := hu_of hr
    exact pss_cons (ps_expr (pe_meth (pv 0) T.cl_Marks T.me_Marks_look_hand G_Marks__Store_look_hand (hr.mono (by decide)) T.b_Store_look_hand .nil pass0 (pa_cons (pv 1) (pa_nil))))
      (pss_one (ps_if (pt_not (pt_val (pe_call G_is_whole (hr.mono (by decide)) (by rfl) T.g_is_whole T.F_is_whole.kp T.b_is_whole .nil pass0 (pa_cons (pv 2) (pa_cons (pe_int) (pa_cons (pe_op op_subI (pe_glob (by rfl) T.k_MARKS ⟨_, rfl⟩) (pe_int)) (pa_nil))))))) (pss_one (ps_never)) (pss_nil)))
  · exact pure_look_mark ⟨⟨T.cl_Marks, T.na_Marks_hands, T.na_Marks_worth, T.na_Marks_cells, T.na_Marks_made⟩, T.na_Marks_marks, T.na_Marks_waits⟩ h
set_option maxHeartbeats 8000000 in
theorem ok_Marks__Marks_state_of (T : Txt K mg D) : FnOk P w K mg base CX0 4 D.f_Marks_state_of D.d_Marks_state_of ["self", "hand", "mark", "states"] (sp_state_of D.c_Marks) := by
  have G_Marks__Marks_look_mark : FnOk P w K mg base CX0 3 D.f_Marks_look_mark D.d_Marks_look_mark ["self", "hand", "mark"] (sp_look_mark D.c_Marks) := ok_Marks__Marks_look_mark T
  refine T.F_Marks_state_of.ok sc_Marks_state_of (fun vs H Q E h => ?_) (fun cdv A outer s H vs Q E hr h => ⟨t_Marks_state_of K D.c_Marks (sp_look_mark D.c_Marks), ?_, ?_⟩)
  · first | (obtain ⟨_, rfl, _⟩ := h; rfl) | (obtain ⟨_, _, rfl, _⟩ := h; rfl) | (obtain ⟨_, _, _, rfl, _⟩ := h; rfl) | (obtain ⟨_, _, _, _, rfl, _⟩ := h; rfl) | (obtain ⟨_, _, _, _, _, rfl, _⟩ := h; rfl) | (obtain ⟨_, _, _, _, _, _, rfl, _⟩ := h; rfl) | (obtain ⟨_, _, _, _, _, _, _, rfl, _⟩ := h; rfl) | (obtain ⟨_, _, _, _, _, _, _, _, rfl, _⟩ := h; rfl) | (obtain ⟨_, _, _, _, _, _, _, _, _, rfl, _⟩ := h; rfl) | (obtain ⟨_, _, _, _, _, _, _, _, _, _, rfl, _⟩ := h; rfl) | (obtain ⟨_, _, _, _, _, _, _, _, _, _, _, rfl, _⟩ := h; rfl) | (obtain ⟨_, _, _, _, _, _, _, _, _, _, _, _, rfl, _⟩ := h; rfl) | (obtain ⟨_, _, _, _, _, _, _, _, _, _, _, _, _, rfl, _⟩ := h; rfl) | (obtain ⟨_, _, _, _, _, _, _, _, _, _, _, _, _, _, rfl, _⟩ := h; rfl) | (obtain ⟨_, _, _, _, _, _, _, _, _, _, _, _, _, _, _, rfl, _⟩ := h; rfl)
  · have hu := hu_of hr
    exact pss_cons (ps_expr (pe_meth (pv 0) T.cl_Marks T.me_Marks_look_mark G_Marks__Marks_look_mark (hr.mono (by decide)) T.b_Marks_look_mark .nil pass0 (pa_cons (pv 1) (pa_cons (pv 2) (pa_nil)))))
      (pss_cons (ps_set (i := 4) sc_Marks_state_of.nd rfl (by first | exact Or.inl rfl | exact Or.inr rfl) (pe_dget2 hu (pe_fld (pv 0) (by rfl)) (pe_tup (pa_cons (pv 1) (pa_cons (pv 2) (pa_nil)))) (pe_tup (pa_cons (pe_str) (pa_cons (pe_int) (pa_cons (pe_int) (pa_nil))))) ⟨rfl, rfl, rfl, rfl⟩))
      (pss_cons (ps_if (pt_cmpR op_notIn_seq (pe_ix ix_tup (pv 4) (pe_int) (fun _ _ => rfl)) (pv 3) (by rfl)) (pss_one (ps_never)) (pss_nil))
      (pss_one (ps_ret (pv 4)))))
  · exact pure_state_of ⟨⟨T.cl_Marks, T.na_Marks_hands, T.na_Marks_worth, T.na_Marks_cells, T.na_Marks_made⟩, T.na_Marks_marks, T.na_Marks_waits⟩ h
set_option maxHeartbeats 8000000 in
theorem ok_Marks__Marks_set_mark (T : Txt K mg D) : FnOk P w K mg base CX0 5 D.f_Marks_set_mark D.d_Marks_set_mark ["self", "hand", "mark"] (sp_set_mark D.c_Marks) := by
  have G_Marks__Marks_state_of : FnOk P w K mg base CX0 4 D.f_Marks_state_of D.d_Marks_state_of ["self", "hand", "mark", "states"] (sp_state_of D.c_Marks) := ok_Marks__Marks_state_of T
  refine T.F_Marks_set_mark.ok sc_Marks_set_mark (fun vs H Q E h => ?_) (fun cdv A outer s H vs Q E hr h => ⟨t_Marks_set_mark K D.c_Marks (sp_state_of D.c_Marks), ?_, ?_⟩)
  · first | (obtain ⟨_, rfl, _⟩ := h; rfl) | (obtain ⟨_, _, rfl, _⟩ := h; rfl) | (obtain ⟨_, _, _, rfl, _⟩ := h; rfl) | (obtain ⟨_, _, _, _, rfl, _⟩ := h; rfl) | (obtain ⟨_, _, _, _, _, rfl, _⟩ := h; rfl) | (obtain ⟨_, _, _, _, _, _, rfl, _⟩ := h; rfl) | (obtain ⟨_, _, _, _, _, _, _, rfl, _⟩ := h; rfl) | (obtain ⟨_, _, _, _, _, _, _, _, rfl, _⟩ := h; rfl) | (obtain ⟨_, _, _, _, _, _, _, _, _, rfl, _⟩ := h; rfl) | (obtain ⟨_, _, _, _, _, _, _, _, _, _, rfl, _⟩ := h; rfl) | (obtain ⟨_, _, _, _, _, _, _, _, _, _, _, rfl, _⟩ := h; rfl) | (obtain ⟨_, _, _, _, _, _, _, _, _, _, _, _, rfl, _⟩ := h; rfl) | (obtain ⟨_, _, _, _, _, _, _, _, _, _, _, _, _, rfl, _⟩ := h; rfl) | (obtain ⟨_, _, _, _, _, _, _, _, _, _, _, _, _, _, rfl, _⟩ := h; rfl) | (obtain ⟨_, _, _, _, _, _, _, _, _, _, _, _, _, _, _, rfl, _⟩ := h; rfl)
  · have hu := hu_of hr
    exact pss_cons (ps_asg (pe_meth (pv 0) T.cl_Marks T.me_Marks_state_of G_Marks__Marks_state_of (hr.mono (by decide)) T.b_Marks_state_of .nil pass0 (pa_cons (pv 1) (pa_cons (pv 2) (pa_cons (pe_tup (pa_cons (pe_str) (pa_nil))) (pa_nil))))) (pg_tup rfl (pgs_cons (pg_name (i := 3) sc_Marks_set_mark.nd rfl (by first | exact Or.inl rfl | exact Or.inr rfl)) (pgs_cons (pg_name (i := 4) sc_Marks_set_mark.nd rfl (by first | exact Or.inl rfl | exact Or.inr rfl)) (pgs_cons (pg_name (i := 5) sc_Marks_set_mark.nd rfl (by first | exact Or.inl rfl | exact Or.inr rfl)) (pgs_nil))))))
      (pss_one (ps_dput hu (pe_fld (pv 0) (by rfl)) (pe_tup (pa_cons (pv 1) (pa_cons (pv 2) (pa_nil)))) (pe_tup (pa_cons (pe_str) (pa_cons (pv 4) (pa_cons (pv 5) (pa_nil))))) (by rfl)))
  · exact pure_set_mark ⟨⟨T.cl_Marks, T.na_Marks_hands, T.na_Marks_worth, T.na_Marks_cells, T.na_Marks_made⟩, T.na_Marks_marks, T.na_Marks_waits⟩ h
set_option maxHeartbeats 8000000 in
theorem ok_Marks__Marks_fetch (T : Txt K mg D) : FnOk P w K mg base CX0 4 D.f_Marks_fetch D.d_Marks_fetch ["self", "hand", "mark", "cell"] (sp_fetch D.c_Marks) := by
  have G_Marks__Marks_look_mark : FnOk P w K mg base CX0 3 D.f_Marks_look_mark D.d_Marks_look_mark ["self", "hand", "mark"] (sp_look_mark D.c_Marks) := ok_Marks__Marks_look_mark T
  have G_Marks__Store_look_cell : FnOk P w K mg base CX0 2 D.f_Store_look_cell D.d_Store_look_cell ["self", "cell"] (sp_look_cell D.c_Marks) := ok_Marks__Store_look_cell T
  refine T.F_Marks_fetch.ok sc_Marks_fetch (fun vs H Q E h => ?_) (fun cdv A outer s H vs Q E hr h => ⟨t_Marks_fetch K D.c_Marks (sp_look_mark D.c_Marks) (sp_look_cell D.c_Marks), ?_, ?_⟩)
  · first | (obtain ⟨_, rfl, _⟩ := h; rfl) | (obtain ⟨_, _, rfl, _⟩ := h; rfl) | (obtain ⟨_, _, _, rfl, _⟩ := h; rfl) | (obtain ⟨_, _, _, _, rfl, _⟩ := h; rfl) | (obtain ⟨_, _, _, _, _, rfl, _⟩ := h; rfl) | (obtain ⟨_, _, _, _, _, _, rfl, _⟩ := h; rfl) | (obtain ⟨_, _, _, _, _, _, _, rfl, _⟩ := h; rfl) | (obtain ⟨_, _, _, _, _, _, _, _, rfl, _⟩ := h; rfl) | (obtain ⟨_, _, _, _, _, _, _, _, _, rfl, _⟩ := h; rfl) | (obtain ⟨_, _, _, _, _, _, _, _, _, _, rfl, _⟩ := h; rfl) | (obtain ⟨_, _, _, _, _, _, _, _, _, _, _, rfl, _⟩ := h; rfl) | (obtain ⟨_, _, _, _, _, _, _, _, _, _, _, _, rfl, _⟩ := h; rfl) | (obtain ⟨_, _, _, _, _, _, _, _, _, _, _, _, _, rfl, _⟩ := h; rfl) | (obtain ⟨_, _, _, _, _, _, _, _, _, _, _, _, _, _, rfl, _⟩ := h; rfl) | (obtain ⟨_, _, _, _, _, _, _, _, _, _, _, _, _, _, _, rfl, _⟩ := h; rfl)
  · have hu := hu_of hr
    exact pss_cons (ps_expr (pe_meth (pv 0) T.cl_Marks T.me_Marks_look_mark G_Marks__Marks_look_mark (hr.mono (by decide)) T.b_Marks_look_mark .nil pass0 (pa_cons (pv 1) (pa_cons (pv 2) (pa_nil)))))
      (pss_cons (ps_expr (pe_meth (pv 0) T.cl_Marks T.me_Marks_look_cell G_Marks__Store_look_cell (hr.mono (by decide)) T.b_Store_look_cell .nil pass0 (pa_cons (pv 3) (pa_nil))))
      (pss_cons (ps_dput hu (pe_fld (pv 0) (by rfl)) (pe_tup (pa_cons (pv 1) (pa_cons (pv 2) (pa_nil)))) (pe_tup (pa_cons (pe_str) (pa_cons (pv 3) (pa_cons (pe_ix ix_list (pe_fld (pv 0) (by rfl)) (pv 3) (fun _ _ => rfl)) (pa_nil))))) (by rfl))
      (pss_one (ps_ret (pe_ix ix_list (pe_fld (pv 0) (by rfl)) (pv 3) (fun _ _ => rfl))))))
  · exact pure_fetch ⟨⟨T.cl_Marks, T.na_Marks_hands, T.na_Marks_worth, T.na_Marks_cells, T.na_Marks_made⟩, T.na_Marks_marks, T.na_Marks_waits⟩ h
set_option maxHeartbeats 8000000 in
theorem ok_Counts__Store_kept (T : Txt K mg D) : FnOk P w K mg base CX0 1 D.f_Store_kept D.d_Store_kept ["self"] (sp_kept D.c_Counts) := by
  refine T.F_Store_kept.ok sc_Store_kept (fun vs H Q E h => ?_) (fun cdv A outer s H vs Q E hr h => ⟨t_Store_kept K, ?_, ?_⟩)
  · first | (obtain ⟨_, rfl, _⟩ := h; rfl) | (obtain ⟨_, _, rfl, _⟩ := h; rfl) | (obtain ⟨_, _, _, rfl, _⟩ := h; rfl) | (obtain ⟨_, _, _, _, rfl, _⟩ := h; rfl) | (obtain ⟨_, _, _, _, _, rfl, _⟩ := h; rfl) | (obtain ⟨_, _, _, _, _, _, rfl, _⟩ := h; rfl) | (obtain ⟨_, _, _, _, _, _, _, rfl, _⟩ := h; rfl) | (obtain ⟨_, _, _, _, _, _, _, _, rfl, _⟩ := h; rfl) | (obtain ⟨_, _, _, _, _, _, _, _, _, rfl, _⟩ := h; rfl) | (obtain ⟨_, _, _, _, _, _, _, _, _, _, rfl, _⟩ := h; rfl) | (obtain ⟨_, _, _, _, _, _, _, _, _, _, _, rfl, _⟩ := h; rfl) | (obtain ⟨_, _, _, _, _, _, _, _, _, _, _, _, rfl, _⟩ := h; rfl) | (obtain ⟨_, _, _, _, _, _, _, _, _, _, _, _, _, rfl, _⟩ := h; rfl) | (obtain ⟨_, _, _, _, _, _, _, _, _, _, _, _, _, _, rfl, _⟩ := h; rfl) | (obtain ⟨_, _, _, _, _, _, _, _, _, _, _, _, _, _, _, rfl, _⟩ := h; rfl)
  · have hu := hu_of hr
    exact pss_one (ps_ret (pe_callB (call_sortD rfl) (by rfl) T.m_sorted (by decide +kernel) (pa_cons (pe_fld (pv 0) (by rfl)) (pa_nil))))
  · exact pure_kept ⟨T.cl_Counts, T.na_Counts_hands, T.na_Counts_worth, T.na_Counts_cells, T.na_Counts_made⟩ h
set_option maxHeartbeats 8000000 in
theorem ok_Counts__Store_look_hand (T : Txt K mg D) : FnOk P w K mg base CX0 2 D.f_Store_look_hand D.d_Store_look_hand ["self", "hand"] (sp_look_hand D.c_Counts) := by
  have G_is_whole : FnOk P w K mg base CX0 1 D.f_is_whole D.d_is_whole ["thing", "low", "high"] (sp_is_whole) := ok_is_whole T
  refine T.F_Store_look_hand.ok sc_Store_look_hand (fun vs H Q E h => ?_) (fun cdv A outer s H vs Q E hr h => ⟨t_Store_look_hand K (sp_is_whole), ?_, ?_⟩)
  · first | (obtain ⟨_, rfl, _⟩ := h; rfl) | (obtain ⟨_, _, rfl, _⟩ := h; rfl) | (obtain ⟨_, _, _, rfl, _⟩ := h; rfl) | (obtain ⟨_, _, _, _, rfl, _⟩ := h; rfl) | (obtain ⟨_, _, _, _, _, rfl, _⟩ := h; rfl) | (obtain ⟨_, _, _, _, _, _, rfl, _⟩ := h; rfl) | (obtain ⟨_, _, _, _, _, _, _, rfl, _⟩ := h; rfl) | (obtain ⟨_, _, _, _, _, _, _, _, rfl, _⟩ := h; rfl) | (obtain ⟨_, _, _, _, _, _, _, _, _, rfl, _⟩ := h; rfl) | (obtain ⟨_, _, _, _, _, _, _, _, _, _, rfl, _⟩ := h; rfl) | (obtain ⟨_, _, _, _, _, _, _, _, _, _, _, rfl, _⟩ := h; rfl) | (obtain ⟨_, _, _, _, _, _, _, _, _, _, _, _, rfl, _⟩ := h; rfl) | (obtain ⟨_, _, _, _, _, _, _, _, _, _, _, _, _, rfl, _⟩ := h; rfl) | (obtain ⟨_, _, _, _, _, _, _, _, _, _, _, _, _, _, rfl, _⟩ := h; rfl) | (obtain ⟨_, _, _, _, _, _, _, _, _, _, _, _, _, _, _, rfl, _⟩ := h; rfl)
  · have hu := hu_of hr
    exact pss_one (ps_if (pt_not (pt_val (pe_call G_is_whole (hr.mono (by decide)) (by rfl) T.g_is_whole T.F_is_whole.kp T.b_is_whole .nil pass0 (pa_cons (pv 1) (pa_cons (pe_int) (pa_cons (pe_op op_subI (pe_fld (pv 0) (by rfl)) (pe_int)) (pa_nil))))))) (pss_one (ps_never)) (pss_nil))
  · exact pure_look_hand ⟨T.cl_Counts, T.na_Counts_hands, T.na_Counts_worth, T.na_Counts_cells, T.na_Counts_made⟩ h
set_option maxHeartbeats 8000000 in
theorem ok_Counts__Counts_holds (T : Txt K mg D) : FnOk P w K mg base CX0 3 D.f_Counts_holds D.d_Counts_holds ["self", "hand"] (sp_holds D.c_Counts) := by
  have G_Counts__Store_look_hand : FnOk P w K mg base CX0 2 D.f_Store_look_hand D.d_Store_look_hand ["self", "hand"] (sp_look_hand D.c_Counts) := ok_Counts__Store_look_hand T
  refine T.F_Counts_holds.ok sc_Counts_holds (fun vs H Q E h => ?_) (fun cdv A outer s H vs Q E hr h => ⟨t_Counts_holds K D.c_Counts (sp_look_hand D.c_Counts), ?_, ?_⟩)
  · first | (obtain ⟨_, rfl, _⟩ := h; rfl) | (obtain ⟨_, _, rfl, _⟩ := h; rfl) | (obtain ⟨_, _, _, rfl, _⟩ := h; rfl) | (obtain ⟨_, _, _, _, rfl, _⟩ := h; rfl) | (obtain ⟨_, _, _, _, _, rfl, _⟩ := h; rfl) | (obtain ⟨_, _, _, _, _, _, rfl, _⟩ := h; rfl) | (obtain ⟨_, _, _, _, _, _, _, rfl, _⟩ := h; rfl) | (obtain ⟨_, _, _, _, _, _, _, _, rfl, _⟩ := h; rfl) | (obtain ⟨_, _, _, _, _, _, _, _, _, rfl, _⟩ := h; rfl) | (obtain ⟨_, _, _, _, _, _, _, _, _, _, rfl, _⟩ := h; rfl) | (obtain ⟨_, _, _, _, _, _, _, _, _, _, _, rfl, _⟩ := h; rfl) | (obtain ⟨_, _, _, _, _, _, _, _, _, _, _, _, rfl, _⟩ := h; rfl) | (obtain ⟨_, _, _, _, _, _, _, _, _, _, _, _, _, rfl, _⟩ := h; rfl) | (obtain ⟨_, _, _, _, _, _, _, _, _, _, _, _, _, _, rfl, _⟩ := h; rfl) | (obtain ⟨_, _, _, _, _, _, _, _, _, _, _, _, _, _, _, rfl, _⟩ := h; rfl)
  · have hu := hu_of hr
    exact pss_cons (ps_expr (pe_meth (pv 0) T.cl_Counts T.me_Counts_look_hand G_Counts__Store_look_hand (hr.mono (by decide)) T.b_Store_look_hand .nil pass0 (pa_cons (pv 1) (pa_nil))))
      (pss_one (ps_ret (pe_callB cr_sortedPO (by rfl) T.m_sorted (by decide +kernel) (pa_cons (pe_lock (pe_lc (own := [("one", 2), ("thing", 3)]) (by rfl) sc_Counts_holds.nd (pi_keys (pe_fld (pv 0) (by rfl))) (blkOk_by (own := [("one", 2), ("thing", 3)]) (N := ["self", "hand", "one", "thing"]) (sc := defScope s_Counts_holds) (by decide +kernel)) (fun _ _ _ _ _ => pg_tup rfl (pgs_cons (pg_name (i := 2) sc_Counts_holds.nd rfl (by first | exact Or.inl rfl | exact Or.inr rfl)) (pgs_cons (pg_name (i := 3) sc_Counts_holds.nd rfl (by first | exact Or.inl rfl | exact Or.inr rfl)) (pgs_nil)))) (fun _ _ _ _ _ => pts_one (pt_cmpR op_eq (pv 2) (pv 1) (nomark _))) (fun _ _ _ _ _ => pe_tup (pa_cons (pv 3) (pa_cons (pe_dget hu (pe_fld (pv 0) (by rfl)) (pe_tup (pa_cons (pv 2) (pa_cons (pv 3) (pa_nil)))) (fun _ _ => rfl)) (pa_nil)))))) (pa_nil)))))
  · exact pure_holds ⟨⟨T.cl_Counts, T.na_Counts_hands, T.na_Counts_worth, T.na_Counts_cells, T.na_Counts_made⟩, T.na_Counts_held⟩ h
set_option maxHeartbeats 8000000 in
theorem ok_Counts__Store_look_cell (T : Txt K mg D) : FnOk P w K mg base CX0 2 D.f_Store_look_cell D.d_Store_look_cell ["self", "cell"] (sp_look_cell D.c_Counts) := by
  have G_is_whole : FnOk P w K mg base CX0 1 D.f_is_whole D.d_is_whole ["thing", "low", "high"] (sp_is_whole) := ok_is_whole T
  refine T.F_Store_look_cell.ok sc_Store_look_cell (fun vs H Q E h => ?_) (fun cdv A outer s H vs Q E hr h => ⟨t_Store_look_cell K (sp_is_whole), ?_, ?_⟩)
  · first | (obtain ⟨_, rfl, _⟩ := h; rfl) | (obtain ⟨_, _, rfl, _⟩ := h; rfl) | (obtain ⟨_, _, _, rfl, _⟩ := h; rfl) | (obtain ⟨_, _, _, _, rfl, _⟩ := h; rfl) | (obtain ⟨_, _, _, _, _, rfl, _⟩ := h; rfl) | (obtain ⟨_, _, _, _, _, _, rfl, _⟩ := h; rfl) | (obtain ⟨_, _, _, _, _, _, _, rfl, _⟩ := h; rfl) | (obtain ⟨_, _, _, _, _, _, _, _, rfl, _⟩ := h; rfl) | (obtain ⟨_, _, _, _, _, _, _, _, _, rfl, _⟩ := h; rfl) | (obtain ⟨_, _, _, _, _, _, _, _, _, _, rfl, _⟩ := h; rfl) | (obtain ⟨_, _, _, _, _, _, _, _, _, _, _, rfl, _⟩ := h; rfl) | (obtain ⟨_, _, _, _, _, _, _, _, _, _, _, _, rfl, _⟩ := h; rfl) | (obtain ⟨_, _, _, _, _, _, _, _, _, _, _, _, _, rfl, _⟩ := h; rfl) | (obtain ⟨_, _, _, _, _, _, _, _, _, _, _, _, _, _, rfl, _⟩ := h; rfl) | (obtain ⟨_, _, _, _, _, _, _, _, _, _, _, _, _, _, _, rfl, _⟩ := h; rfl)
  · have hu := hu_of hr
    exact pss_one (ps_if (pt_not (pt_val (pe_call G_is_whole (hr.mono (by decide)) (by rfl) T.g_is_whole T.F_is_whole.kp T.b_is_whole .nil pass0 (pa_cons (pv 1) (pa_cons (pe_int) (pa_cons (pe_op op_subI (pe_callB call_lenQ (by rfl) T.m_len PySem.boot_len (pa_cons (pe_fld (pv 0) (by rfl)) (pa_nil))) (pe_int)) (pa_nil))))))) (pss_one (ps_never)) (pss_nil))
  · exact pure_look_cell ⟨T.cl_Counts, T.na_Counts_hands, T.na_Counts_worth, T.na_Counts_cells, T.na_Counts_made⟩ h
set_option maxHeartbeats 8000000 in
theorem ok_Counts__Counts_count_of (T : Txt K mg D) : FnOk P w K mg base CX0 1 D.f_Counts_count_of D.d_Counts_count_of ["self", "thing"] (sp_count_of D.c_Counts) := by
  refine T.F_Counts_count_of.ok sc_Counts_count_of (fun vs H Q E h => ?_) (fun cdv A outer s H vs Q E hr h => ⟨t_Counts_count_of K, ?_, ?_⟩)
  · first | (obtain ⟨_, rfl, _⟩ := h; rfl) | (obtain ⟨_, _, rfl, _⟩ := h; rfl) | (obtain ⟨_, _, _, rfl, _⟩ := h; rfl) | (obtain ⟨_, _, _, _, rfl, _⟩ := h; rfl) | (obtain ⟨_, _, _, _, _, rfl, _⟩ := h; rfl) | (obtain ⟨_, _, _, _, _, _, rfl, _⟩ := h; rfl) | (obtain ⟨_, _, _, _, _, _, _, rfl, _⟩ := h; rfl) | (obtain ⟨_, _, _, _, _, _, _, _, rfl, _⟩ := h; rfl) | (obtain ⟨_, _, _, _, _, _, _, _, _, rfl, _⟩ := h; rfl) | (obtain ⟨_, _, _, _, _, _, _, _, _, _, rfl, _⟩ := h; rfl) | (obtain ⟨_, _, _, _, _, _, _, _, _, _, _, rfl, _⟩ := h; rfl) | (obtain ⟨_, _, _, _, _, _, _, _, _, _, _, _, rfl, _⟩ := h; rfl) | (obtain ⟨_, _, _, _, _, _, _, _, _, _, _, _, _, rfl, _⟩ := h; rfl) | (obtain ⟨_, _, _, _, _, _, _, _, _, _, _, _, _, _, rfl, _⟩ := h; rfl) | (obtain ⟨_, _, _, _, _, _, _, _, _, _, _, _, _, _, _, rfl, _⟩ := h; rfl)
  · have hu := hu_of hr
    exact pss_one (ps_ret (pe_callB (cr_sum rfl) (by rfl) T.m_sum (by decide +kernel) (pa_cons (pe_lock (pe_lc (own := [("one", 2)]) (by rfl) sc_Counts_count_of.nd (pi_keys (pe_fld (pv 0) (by rfl))) (blkOk_by (own := [("one", 2)]) (N := ["self", "thing", "one"]) (sc := defScope s_Counts_count_of) (by decide +kernel)) (fun _ _ _ _ _ => pg_name (i := 2) sc_Counts_count_of.nd rfl (by first | exact Or.inl rfl | exact Or.inr rfl)) (fun _ _ _ _ _ => pts_one (pt_cmpR op_eq (pe_ix ix_tup (pv 2) (pe_int) (fun _ _ => rfl)) (pv 1) (nomark _))) (fun _ _ _ _ _ => pe_dget hu (pe_fld (pv 0) (by rfl)) (pv 2) (fun _ _ => rfl)))) (pa_nil))))
  · exact pure_count_of ⟨⟨T.cl_Counts, T.na_Counts_hands, T.na_Counts_worth, T.na_Counts_cells, T.na_Counts_made⟩, T.na_Counts_held⟩ h
set_option maxHeartbeats 8000000 in
theorem ok_Counts__Store_is_out (T : Txt K mg D) : FnOk P w K mg base CX0 1 D.f_Store_is_out D.d_Store_is_out ["self", "thing"] (sp_is_out D.c_Counts) := by
  refine T.F_Store_is_out.ok sc_Store_is_out (fun vs H Q E h => ?_) (fun cdv A outer s H vs Q E hr h => ⟨t_Store_is_out K, ?_, ?_⟩)
  · first | (obtain ⟨_, rfl, _⟩ := h; rfl) | (obtain ⟨_, _, rfl, _⟩ := h; rfl) | (obtain ⟨_, _, _, rfl, _⟩ := h; rfl) | (obtain ⟨_, _, _, _, rfl, _⟩ := h; rfl) | (obtain ⟨_, _, _, _, _, rfl, _⟩ := h; rfl) | (obtain ⟨_, _, _, _, _, _, rfl, _⟩ := h; rfl) | (obtain ⟨_, _, _, _, _, _, _, rfl, _⟩ := h; rfl) | (obtain ⟨_, _, _, _, _, _, _, _, rfl, _⟩ := h; rfl) | (obtain ⟨_, _, _, _, _, _, _, _, _, rfl, _⟩ := h; rfl) | (obtain ⟨_, _, _, _, _, _, _, _, _, _, rfl, _⟩ := h; rfl) | (obtain ⟨_, _, _, _, _, _, _, _, _, _, _, rfl, _⟩ := h; rfl) | (obtain ⟨_, _, _, _, _, _, _, _, _, _, _, _, rfl, _⟩ := h; rfl) | (obtain ⟨_, _, _, _, _, _, _, _, _, _, _, _, _, rfl, _⟩ := h; rfl) | (obtain ⟨_, _, _, _, _, _, _, _, _, _, _, _, _, _, rfl, _⟩ := h; rfl) | (obtain ⟨_, _, _, _, _, _, _, _, _, _, _, _, _, _, _, rfl, _⟩ := h; rfl)
  · have hu := hu_of hr
    exact pss_one (ps_ret (pe_cmpR op_notIn_seq (pv 1) (pe_fld (pv 0) (by rfl)) (by rfl)))
  · exact pure_is_out ⟨T.cl_Counts, T.na_Counts_hands, T.na_Counts_worth, T.na_Counts_cells, T.na_Counts_made⟩ h
set_option maxHeartbeats 8000000 in
theorem ok_Counts__Store_let_go (T : Txt K mg D) : FnOk P w K mg base CX0 1 D.f_Store_let_go D.d_Store_let_go ["self", "things"] (sp_let_go D.c_Counts) := by
  refine T.F_Store_let_go.ok sc_Store_let_go (fun vs H Q E h => ?_) (fun cdv A outer s H vs Q E hr h => ⟨t_Store_let_go K, ?_, ?_⟩)
  · first | (obtain ⟨_, rfl, _⟩ := h; rfl) | (obtain ⟨_, _, rfl, _⟩ := h; rfl) | (obtain ⟨_, _, _, rfl, _⟩ := h; rfl) | (obtain ⟨_, _, _, _, rfl, _⟩ := h; rfl) | (obtain ⟨_, _, _, _, _, rfl, _⟩ := h; rfl) | (obtain ⟨_, _, _, _, _, _, rfl, _⟩ := h; rfl) | (obtain ⟨_, _, _, _, _, _, _, rfl, _⟩ := h; rfl) | (obtain ⟨_, _, _, _, _, _, _, _, rfl, _⟩ := h; rfl) | (obtain ⟨_, _, _, _, _, _, _, _, _, rfl, _⟩ := h; rfl) | (obtain ⟨_, _, _, _, _, _, _, _, _, _, rfl, _⟩ := h; rfl) | (obtain ⟨_, _, _, _, _, _, _, _, _, _, _, rfl, _⟩ := h; rfl) | (obtain ⟨_, _, _, _, _, _, _, _, _, _, _, _, rfl, _⟩ := h; rfl) | (obtain ⟨_, _, _, _, _, _, _, _, _, _, _, _, _, rfl, _⟩ := h; rfl) | (obtain ⟨_, _, _, _, _, _, _, _, _, _, _, _, _, _, rfl, _⟩ := h; rfl) | (obtain ⟨_, _, _, _, _, _, _, _, _, _, _, _, _, _, _, rfl, _⟩ := h; rfl)
  · have hu := hu_of hr
    exact pss_cons (ps_for PassesOwn.never rfl (pi_list (pv 1)) (pg_name (i := 2) sc_Store_let_go.nd rfl (by first | exact Or.inl rfl | exact Or.inr rfl)) (pss_one (ps_expr (pe_dpop1 (pe_fld (pv 0) (by rfl)) (pv 2) ⟨rfl, rfl, rfl, rfl⟩))))
      (pss_one (ps_ret (pe_callB cr_sortedI (by rfl) T.m_sorted (by decide +kernel) (pa_cons (pv 1) (pa_nil)))))
  · exact pure_let_go ⟨T.cl_Counts, T.na_Counts_hands, T.na_Counts_worth, T.na_Counts_cells, T.na_Counts_made⟩ h
set_option maxHeartbeats 8000000 in
theorem ok_Counts__Counts_loose (T : Txt K mg D) : FnOk P w K mg base CX0 2 D.f_Counts_loose D.d_Counts_loose ["self", "thing"] (sp_loose D.c_Counts) := by
  have G_Counts__Counts_count_of : FnOk P w K mg base CX0 1 D.f_Counts_count_of D.d_Counts_count_of ["self", "thing"] (sp_count_of D.c_Counts) := ok_Counts__Counts_count_of T
  have G_Counts__Store_is_out : FnOk P w K mg base CX0 1 D.f_Store_is_out D.d_Store_is_out ["self", "thing"] (sp_is_out D.c_Counts) := ok_Counts__Store_is_out T
  have G_Counts__Store_let_go : FnOk P w K mg base CX0 1 D.f_Store_let_go D.d_Store_let_go ["self", "things"] (sp_let_go D.c_Counts) := ok_Counts__Store_let_go T
  refine T.F_Counts_loose.ok sc_Counts_loose (fun vs H Q E h => ?_) (fun cdv A outer s H vs Q E hr h => ⟨t_Counts_loose K D.c_Counts (sp_count_of D.c_Counts) (sp_is_out D.c_Counts) (sp_let_go D.c_Counts), ?_, ?_⟩)
  · first | (obtain ⟨_, rfl, _⟩ := h; rfl) | (obtain ⟨_, _, rfl, _⟩ := h; rfl) | (obtain ⟨_, _, _, rfl, _⟩ := h; rfl) | (obtain ⟨_, _, _, _, rfl, _⟩ := h; rfl) | (obtain ⟨_, _, _, _, _, rfl, _⟩ := h; rfl) | (obtain ⟨_, _, _, _, _, _, rfl, _⟩ := h; rfl) | (obtain ⟨_, _, _, _, _, _, _, rfl, _⟩ := h; rfl) | (obtain ⟨_, _, _, _, _, _, _, _, rfl, _⟩ := h; rfl) | (obtain ⟨_, _, _, _, _, _, _, _, _, rfl, _⟩ := h; rfl) | (obtain ⟨_, _, _, _, _, _, _, _, _, _, rfl, _⟩ := h; rfl) | (obtain ⟨_, _, _, _, _, _, _, _, _, _, _, rfl, _⟩ := h; rfl) | (obtain ⟨_, _, _, _, _, _, _, _, _, _, _, _, rfl, _⟩ := h; rfl) | (obtain ⟨_, _, _, _, _, _, _, _, _, _, _, _, _, rfl, _⟩ := h; rfl) | (obtain ⟨_, _, _, _, _, _, _, _, _, _, _, _, _, _, rfl, _⟩ := h; rfl) | (obtain ⟨_, _, _, _, _, _, _, _, _, _, _, _, _, _, _, rfl, _⟩ := h; rfl)
  · have hu := hu_of hr
    exact pss_cons (ps_if (PW.pt (pw_or (pt_cmpR op_gtI (pe_meth (pv 0) T.cl_Counts T.me_Counts_count_of G_Counts__Counts_count_of (hr.mono (by decide)) T.b_Counts_count_of .nil pass0 (pa_cons (pv 1) (pa_nil))) (pe_int) (nomark _)) (pw_or1 (pt_not (pt_val (pe_meth (pv 0) T.cl_Counts T.me_Counts_is_out G_Counts__Store_is_out (hr.mono (by decide)) T.b_Store_is_out .nil pass0 (pa_cons (pv 1) (pa_nil)))))))) (pss_one (ps_ret (pe_bl))) (pss_nil))
      (pss_cons (ps_expr (pe_meth (pv 0) T.cl_Counts T.me_Counts_let_go G_Counts__Store_let_go (hr.mono (by decide)) T.b_Store_let_go .nil pass0 (pa_cons (pe_lst (pa_cons (pv 1) (pa_nil))) (pa_nil))))
      (pss_one (ps_ret (pe_bl))))
  · exact pure_loose ⟨⟨T.cl_Counts, T.na_Counts_hands, T.na_Counts_worth, T.na_Counts_cells, T.na_Counts_made⟩, T.na_Counts_held⟩ h
set_option maxHeartbeats 8000000 in
theorem ok_Counts__Counts_after_swap (T : Txt K mg D) : FnOk P w K mg base CX0 3 D.f_Counts_after_swap D.d_Counts_after_swap ["self", "thing"] (sp_cafter D.c_Counts) := by
  have G_Counts__Counts_loose : FnOk P w K mg base CX0 2 D.f_Counts_loose D.d_Counts_loose ["self", "thing"] (sp_loose D.c_Counts) := ok_Counts__Counts_loose T
  refine T.F_Counts_after_swap.ok sc_Counts_after_swap (fun vs H Q E h => ?_) (fun cdv A outer s H vs Q E hr h => ⟨t_Counts_after_swap K D.c_Counts (sp_loose D.c_Counts), ?_, ?_⟩)
  · first | (obtain ⟨_, rfl, _⟩ := h; rfl) | (obtain ⟨_, _, rfl, _⟩ := h; rfl) | (obtain ⟨_, _, _, rfl, _⟩ := h; rfl) | (obtain ⟨_, _, _, _, rfl, _⟩ := h; rfl) | (obtain ⟨_, _, _, _, _, rfl, _⟩ := h; rfl) | (obtain ⟨_, _, _, _, _, _, rfl, _⟩ := h; rfl) | (obtain ⟨_, _, _, _, _, _, _, rfl, _⟩ := h; rfl) | (obtain ⟨_, _, _, _, _, _, _, _, rfl, _⟩ := h; rfl) | (obtain ⟨_, _, _, _, _, _, _, _, _, rfl, _⟩ := h; rfl) | (obtain ⟨_, _, _, _, _, _, _, _, _, _, rfl, _⟩ := h; rfl) | (obtain ⟨_, _, _, _, _, _, _, _, _, _, _, rfl, _⟩ := h; rfl) | (obtain ⟨_, _, _, _, _, _, _, _, _, _, _, _, rfl, _⟩ := h; rfl) | (obtain ⟨_, _, _, _, _, _, _, _, _, _, _, _, _, rfl, _⟩ := h; rfl) | (obtain ⟨_, _, _, _, _, _, _, _, _, _, _, _, _, _, rfl, _⟩ := h; rfl) | (obtain ⟨_, _, _, _, _, _, _, _, _, _, _, _, _, _, _, rfl, _⟩ := h; rfl)
  · have hu := hu_of hr
    exact pss_one (ps_expr (pe_meth (pv 0) T.cl_Counts T.me_Counts_loose G_Counts__Counts_loose (hr.mono (by decide)) T.b_Counts_loose .nil pass0 (pa_cons (pv 1) (pa_nil))))
  · exact pure_cafter ⟨⟨T.cl_Counts, T.na_Counts_hands, T.na_Counts_worth, T.na_Counts_cells, T.na_Counts_made⟩, T.na_Counts_held⟩ h
set_option maxHeartbeats 8000000 in
theorem ok_Counts__Store_swap (T : Txt K mg D) : FnOk P w K mg base CX0 4 D.f_Store_swap D.d_Store_swap ["self", "cell", "value"] (sp_swapC D.c_Counts) := by
  have G_Counts__Store_look_cell : FnOk P w K mg base CX0 2 D.f_Store_look_cell D.d_Store_look_cell ["self", "cell"] (sp_look_cell D.c_Counts) := ok_Counts__Store_look_cell T
  have G_look_number : FnOk P w K mg base CX0 2 D.f_look_number D.d_look_number ["thing", "low", "high"] (sp_look_number) := ok_look_number T
  have G_Counts__Counts_after_swap : FnOk P w K mg base CX0 3 D.f_Counts_after_swap D.d_Counts_after_swap ["self", "thing"] (sp_cafter D.c_Counts) := ok_Counts__Counts_after_swap T
  refine T.F_Store_swap.ok sc_Store_swap (fun vs H Q E h => ?_) (fun cdv A outer s H vs Q E hr h => ⟨t_Store_swap K D.c_Counts (sp_look_cell D.c_Counts) (sp_look_number) (sp_cafter D.c_Counts), ?_, ?_⟩)
  · first | (obtain ⟨_, rfl, _⟩ := h; rfl) | (obtain ⟨_, _, rfl, _⟩ := h; rfl) | (obtain ⟨_, _, _, rfl, _⟩ := h; rfl) | (obtain ⟨_, _, _, _, rfl, _⟩ := h; rfl) | (obtain ⟨_, _, _, _, _, rfl, _⟩ := h; rfl) | (obtain ⟨_, _, _, _, _, _, rfl, _⟩ := h; rfl) | (obtain ⟨_, _, _, _, _, _, _, rfl, _⟩ := h; rfl) | (obtain ⟨_, _, _, _, _, _, _, _, rfl, _⟩ := h; rfl) | (obtain ⟨_, _, _, _, _, _, _, _, _, rfl, _⟩ := h; rfl) | (obtain ⟨_, _, _, _, _, _, _, _, _, _, rfl, _⟩ := h; rfl) | (obtain ⟨_, _, _, _, _, _, _, _, _, _, _, rfl, _⟩ := h; rfl) | (obtain ⟨_, _, _, _, _, _, _, _, _, _, _, _, rfl, _⟩ := h; rfl) | (obtain ⟨_, _, _, _, _, _, _, _, _, _, _, _, _, rfl, _⟩ := h; rfl) | (obtain ⟨_, _, _, _, _, _, _, _, _, _, _, _, _, _, rfl, _⟩ := h; rfl) | (obtain ⟨_, _, _, _, _, _, _, _, _, _, _, _, _, _, _, rfl, _⟩ := h; rfl)
  · have hu := hu_of hr
    exact pss_cons (ps_expr (pe_meth (pv 0) T.cl_Counts T.me_Counts_look_cell G_Counts__Store_look_cell (hr.mono (by decide)) T.b_Store_look_cell .nil pass0 (pa_cons (pv 1) (pa_nil))))
      (pss_cons (ps_expr (pe_call G_look_number (hr.mono (by decide)) (by rfl) T.g_look_number T.F_look_number.kp T.b_look_number .nil pass0 (pa_cons (pv 2) (pa_cons (pe_int) (pa_cons (pe_glob (by rfl) T.k_MOST_VALUE ⟨_, rfl⟩) (pa_nil))))))
      (pss_cons (ps_set (i := 3) sc_Store_swap.nd rfl (by first | exact Or.inl rfl | exact Or.inr rfl) (pe_ix ix_list (pe_fld (pv 0) (by rfl)) (pv 1) (fun _ _ => rfl)))
      (pss_cons (ps_dput hu (pe_fld (pv 0) (by rfl)) (pe_fld (pv 0) (by rfl)) (pv 2) (by rfl))
      (pss_cons (ps_asg (pe_fld (pv 0) (by rfl)) (pg_sub (pe_fld (pv 0) (by rfl)) (pv 1) set_list))
      (pss_cons (ps_fld (pv 0) (pe_op op_addI (pe_fld (pv 0) (by rfl)) (pe_int)) (by rfl))
      (pss_cons (ps_expr (pe_meth (pv 0) T.cl_Counts T.me_Counts_after_swap G_Counts__Counts_after_swap (hr.mono (by decide)) T.b_Counts_after_swap .nil pass0 (pa_cons (pv 3) (pa_nil))))
      (pss_one (ps_ret (pv 3)))))))))
  · exact pure_swap ⟨T.cl_Counts, T.na_Counts_hands, T.na_Counts_worth, T.na_Counts_cells, T.na_Counts_made⟩ h
set_option maxHeartbeats 8000000 in
theorem ok_Counts__Counts_hold (T : Txt K mg D) : FnOk P w K mg base CX0 3 D.f_Counts_hold D.d_Counts_hold ["self", "hand", "cell"] (sp_hold D.c_Counts) := by
  have G_Counts__Store_look_hand : FnOk P w K mg base CX0 2 D.f_Store_look_hand D.d_Store_look_hand ["self", "hand"] (sp_look_hand D.c_Counts) := ok_Counts__Store_look_hand T
  have G_Counts__Store_look_cell : FnOk P w K mg base CX0 2 D.f_Store_look_cell D.d_Store_look_cell ["self", "cell"] (sp_look_cell D.c_Counts) := ok_Counts__Store_look_cell T
  refine T.F_Counts_hold.ok sc_Counts_hold (fun vs H Q E h => ?_) (fun cdv A outer s H vs Q E hr h => ⟨t_Counts_hold K D.c_Counts (sp_look_hand D.c_Counts) (sp_look_cell D.c_Counts), ?_, ?_⟩)
  · first | (obtain ⟨_, rfl, _⟩ := h; rfl) | (obtain ⟨_, _, rfl, _⟩ := h; rfl) | (obtain ⟨_, _, _, rfl, _⟩ := h; rfl) | (obtain ⟨_, _, _, _, rfl, _⟩ := h; rfl) | (obtain ⟨_, _, _, _, _, rfl, _⟩ := h; rfl) | (obtain ⟨_, _, _, _, _, _, rfl, _⟩ := h; rfl) | (obtain ⟨_, _, _, _, _, _, _, rfl, _⟩ := h; rfl) | (obtain ⟨_, _, _, _, _, _, _, _, rfl, _⟩ := h; rfl) | (obtain ⟨_, _, _, _, _, _, _, _, _, rfl, _⟩ := h; rfl) | (obtain ⟨_, _, _, _, _, _, _, _, _, _, rfl, _⟩ := h; rfl) | (obtain ⟨_, _, _, _, _, _, _, _, _, _, _, rfl, _⟩ := h; rfl) | (obtain ⟨_, _, _, _, _, _, _, _, _, _, _, _, rfl, _⟩ := h; rfl) | (obtain ⟨_, _, _, _, _, _, _, _, _, _, _, _, _, rfl, _⟩ := h; rfl) | (obtain ⟨_, _, _, _, _, _, _, _, _, _, _, _, _, _, rfl, _⟩ := h; rfl) | (obtain ⟨_, _, _, _, _, _, _, _, _, _, _, _, _, _, _, rfl, _⟩ := h; rfl)
  · have hu := hu_of hr
    exact pss_cons (ps_expr (pe_meth (pv 0) T.cl_Counts T.me_Counts_look_hand G_Counts__Store_look_hand (hr.mono (by decide)) T.b_Store_look_hand .nil pass0 (pa_cons (pv 1) (pa_nil))))
      (pss_cons (ps_expr (pe_meth (pv 0) T.cl_Counts T.me_Counts_look_cell G_Counts__Store_look_cell (hr.mono (by decide)) T.b_Store_look_cell .nil pass0 (pa_cons (pv 2) (pa_nil))))
      (pss_cons (ps_set (i := 3) sc_Counts_hold.nd rfl (by first | exact Or.inl rfl | exact Or.inr rfl) (pe_ix ix_list (pe_fld (pv 0) (by rfl)) (pv 2) (fun _ _ => rfl)))
      (pss_cons (ps_dput hu (pe_fld (pv 0) (by rfl)) (pe_tup (pa_cons (pv 1) (pa_cons (pv 3) (pa_nil)))) (pe_op op_addI (pe_dget2 hu (pe_fld (pv 0) (by rfl)) (pe_tup (pa_cons (pv 1) (pa_cons (pv 3) (pa_nil)))) (pe_int) ⟨rfl, rfl, rfl, rfl⟩) (pe_int)) (by rfl))
      (pss_one (ps_ret (pv 3))))))
  · exact pure_hold ⟨⟨T.cl_Counts, T.na_Counts_hands, T.na_Counts_worth, T.na_Counts_cells, T.na_Counts_made⟩, T.na_Counts_held⟩ h
set_option maxHeartbeats 8000000 in
theorem ok_Versions__Versions_version_now (T : Txt K mg D) : FnOk P w K mg base CX0 1 D.f_Versions_version_now D.d_Versions_version_now ["self"] (sp_version_now D.c_Versions) := by
  refine T.F_Versions_version_now.ok sc_Versions_version_now (fun vs H Q E h => ?_) (fun cdv A outer s H vs Q E hr h => ⟨t_Versions_version_now K, ?_, ?_⟩)
  · first | (obtain ⟨_, rfl, _⟩ := h; rfl) | (obtain ⟨_, _, rfl, _⟩ := h; rfl) | (obtain ⟨_, _, _, rfl, _⟩ := h; rfl) | (obtain ⟨_, _, _, _, rfl, _⟩ := h; rfl) | (obtain ⟨_, _, _, _, _, rfl, _⟩ := h; rfl) | (obtain ⟨_, _, _, _, _, _, rfl, _⟩ := h; rfl) | (obtain ⟨_, _, _, _, _, _, _, rfl, _⟩ := h; rfl) | (obtain ⟨_, _, _, _, _, _, _, _, rfl, _⟩ := h; rfl) | (obtain ⟨_, _, _, _, _, _, _, _, _, rfl, _⟩ := h; rfl) | (obtain ⟨_, _, _, _, _, _, _, _, _, _, rfl, _⟩ := h; rfl) | (obtain ⟨_, _, _, _, _, _, _, _, _, _, _, rfl, _⟩ := h; rfl) | (obtain ⟨_, _, _, _, _, _, _, _, _, _, _, _, rfl, _⟩ := h; rfl) | (obtain ⟨_, _, _, _, _, _, _, _, _, _, _, _, _, rfl, _⟩ := h; rfl) | (obtain ⟨_, _, _, _, _, _, _, _, _, _, _, _, _, _, rfl, _⟩ := h; rfl) | (obtain ⟨_, _, _, _, _, _, _, _, _, _, _, _, _, _, _, rfl, _⟩ := h; rfl)
  · have hu := hu_of hr
    exact pss_one (ps_ret (pe_fld (pv 0) (by rfl)))
  · exact pure_version_now ⟨T.cl_Versions, T.na_Versions_hands, T.na_Versions_rows, T.na_Versions_version, T.na_Versions_begun, T.na_Versions_asked⟩ h
set_option maxHeartbeats 8000000 in
theorem ok_Versions__Versions_trim (T : Txt K mg D) : FnOk P w K mg base CX0 1 D.f_Versions_trim D.d_Versions_trim ["self"] (sp_vtrim D.c_Versions) := by
  refine T.F_Versions_trim.ok sc_Versions_trim (fun vs H Q E h => ?_) (fun cdv A outer s H vs Q E hr h => ⟨t_Versions_trim K, ?_, ?_⟩)
  · first | (obtain ⟨_, rfl, _⟩ := h; rfl) | (obtain ⟨_, _, rfl, _⟩ := h; rfl) | (obtain ⟨_, _, _, rfl, _⟩ := h; rfl) | (obtain ⟨_, _, _, _, rfl, _⟩ := h; rfl) | (obtain ⟨_, _, _, _, _, rfl, _⟩ := h; rfl) | (obtain ⟨_, _, _, _, _, _, rfl, _⟩ := h; rfl) | (obtain ⟨_, _, _, _, _, _, _, rfl, _⟩ := h; rfl) | (obtain ⟨_, _, _, _, _, _, _, _, rfl, _⟩ := h; rfl) | (obtain ⟨_, _, _, _, _, _, _, _, _, rfl, _⟩ := h; rfl) | (obtain ⟨_, _, _, _, _, _, _, _, _, _, rfl, _⟩ := h; rfl) | (obtain ⟨_, _, _, _, _, _, _, _, _, _, _, rfl, _⟩ := h; rfl) | (obtain ⟨_, _, _, _, _, _, _, _, _, _, _, _, rfl, _⟩ := h; rfl) | (obtain ⟨_, _, _, _, _, _, _, _, _, _, _, _, _, rfl, _⟩ := h; rfl) | (obtain ⟨_, _, _, _, _, _, _, _, _, _, _, _, _, _, rfl, _⟩ := h; rfl) | (obtain ⟨_, _, _, _, _, _, _, _, _, _, _, _, _, _, _, rfl, _⟩ := h; rfl)
  · have hu := hu_of hr
    exact pss_cons (ps_set (i := 1) sc_Versions_trim.nd rfl (by first | exact Or.inl rfl | exact Or.inr rfl) (pe_sset rfl (by rfl) T.m_sorted (by rfl) T.m_set (pa_cons (pe_op op_cat (pe_listVals rfl (pe_fld (pv 0) (by rfl)) (by rfl) T.m_list (by decide +kernel)) (pe_lst (pa_cons (pe_fld (pv 0) (by rfl)) (pa_nil)))) (pa_nil))))
      (pss_cons (ps_set (i := 2) sc_Versions_trim.nd rfl (by first | exact Or.inl rfl | exact Or.inr rfl) (pe_int))
      (pss_cons (ps_for PassesOwn.never rfl (pi_range1 (by rfl) T.m_range (pa_cons (pe_callB call_lenQ (by rfl) T.m_len PySem.boot_len (pa_cons (pe_fld (pv 0) (by rfl)) (pa_nil))) (pa_nil))) (pg_name (i := 3) sc_Versions_trim.nd rfl (by first | exact Or.inl rfl | exact Or.inr rfl)) (pss_cons (ps_set (i := 4) sc_Versions_trim.nd rfl (by first | exact Or.inl rfl | exact Or.inr rfl) (pe_ix ix_list (pe_fld (pv 0) (by rfl)) (pv 3) (fun _ _ => rfl)))
      (pss_cons (ps_set (i := 5) sc_Versions_trim.nd rfl (by first | exact Or.inl rfl | exact Or.inr rfl) (pe_lc (own := [("version", 8)]) (by rfl) sc_Versions_trim.nd (pi_list (pv 1)) (blkOk_by (own := [("version", 8)]) (N := ["self", "seen", "many", "cell", "row", "needed", "made", "value", "version", "one"]) (sc := defScope s_Versions_trim) (by decide +kernel)) (fun _ _ _ _ _ => pg_name (i := 8) sc_Versions_trim.nd rfl (by first | exact Or.inl rfl | exact Or.inr rfl)) (fun _ _ _ _ _ => pts_nil) (fun _ _ _ _ _ => pe_callB (cr_max rfl) (by rfl) T.m_max (by decide +kernel) (pa_cons (pe_lc (own := [("made", 6), ("value", 7)]) (by rfl) sc_Versions_trim.nd (pi_list (pv 4)) (blkOk_by (own := [("made", 6), ("value", 7)]) (N := ["self", "seen", "many", "cell", "row", "needed", "made", "value", "version", "one"]) (sc := { kind := ScopeKind.function, names := [(".0", NameKind.local), ("version", NameKind.cell), ("max", NameKind.globalImplicit), ("row", NameKind.cell)], isGenerator := false, isCoroutine := false }) (by decide +kernel)) (fun _ _ _ _ _ => pg_tup rfl (pgs_cons (pg_name (i := 6) sc_Versions_trim.nd rfl (by first | exact Or.inl rfl | exact Or.inr rfl)) (pgs_cons (pg_name (i := 7) sc_Versions_trim.nd rfl (by first | exact Or.inl rfl | exact Or.inr rfl)) (pgs_nil)))) (fun _ _ _ _ _ => pts_one (pt_cmpR op_leI (pv 6) (pv 8) (nomark _))) (fun _ _ _ _ _ => pv 6)) (pa_nil)))))
      (pss_cons (ps_asg (pe_lc (own := [("one", 9)]) (by rfl) sc_Versions_trim.nd (pi_list (pv 4)) (blkOk_by (own := [("one", 9)]) (N := ["self", "seen", "many", "cell", "row", "needed", "made", "value", "version", "one"]) (sc := defScope s_Versions_trim) (by decide +kernel)) (fun _ _ _ _ _ => pg_name (i := 9) sc_Versions_trim.nd rfl (by first | exact Or.inl rfl | exact Or.inr rfl)) (fun _ _ _ _ _ => pts_one (pt_cmpR op_in_seq (pe_ix ix_tup (pv 9) (pe_int) (fun _ _ => rfl)) (pv 5) (by rfl))) (fun _ _ _ _ _ => pv 9)) (pg_sub (pe_fld (pv 0) (by rfl)) (pv 3) set_list))
      (pss_one (ps_set (i := 2) sc_Versions_trim.nd rfl (by first | exact Or.inl rfl | exact Or.inr rfl) (pe_op op_subI (pe_op op_addI (pv 2) (pe_callB call_lenQ (by rfl) T.m_len PySem.boot_len (pa_cons (pv 4) (pa_nil)))) (pe_callB call_lenQ (by rfl) T.m_len PySem.boot_len (pa_cons (pe_ix ix_list (pe_fld (pv 0) (by rfl)) (pv 3) (fun _ _ => rfl)) (pa_nil))))))))))
      (pss_one (ps_ret (pv 2)))))
  · exact pure_vtrim ⟨T.cl_Versions, T.na_Versions_hands, T.na_Versions_rows, T.na_Versions_version, T.na_Versions_begun, T.na_Versions_asked⟩ h
set_option maxHeartbeats 8000000 in
theorem ok_Versions__Versions_look_cell (T : Txt K mg D) : FnOk P w K mg base CX0 2 D.f_Versions_look_cell D.d_Versions_look_cell ["self", "cell"] (sp_vlook_cell D.c_Versions) := by
  have G_is_whole : FnOk P w K mg base CX0 1 D.f_is_whole D.d_is_whole ["thing", "low", "high"] (sp_is_whole) := ok_is_whole T
  refine T.F_Versions_look_cell.ok sc_Versions_look_cell (fun vs H Q E h => ?_) (fun cdv A outer s H vs Q E hr h => ⟨t_Versions_look_cell K (sp_is_whole), ?_, ?_⟩)
  · first | (obtain ⟨_, rfl, _⟩ := h; rfl) | (obtain ⟨_, _, rfl, _⟩ := h; rfl) | (obtain ⟨_, _, _, rfl, _⟩ := h; rfl) | (obtain ⟨_, _, _, _, rfl, _⟩ := h; rfl) | (obtain ⟨_, _, _, _, _, rfl, _⟩ := h; rfl) | (obtain ⟨_, _, _, _, _, _, rfl, _⟩ := h; rfl) | (obtain ⟨_, _, _, _, _, _, _, rfl, _⟩ := h; rfl) | (obtain ⟨_, _, _, _, _, _, _, _, rfl, _⟩ := h; rfl) | (obtain ⟨_, _, _, _, _, _, _, _, _, rfl, _⟩ := h; rfl) | (obtain ⟨_, _, _, _, _, _, _, _, _, _, rfl, _⟩ := h; rfl) | (obtain ⟨_, _, _, _, _, _, _, _, _, _, _, rfl, _⟩ := h; rfl) | (obtain ⟨_, _, _, _, _, _, _, _, _, _, _, _, rfl, _⟩ := h; rfl) | (obtain ⟨_, _, _, _, _, _, _, _, _, _, _, _, _, rfl, _⟩ := h; rfl) | (obtain ⟨_, _, _, _, _, _, _, _, _, _, _, _, _, _, rfl, _⟩ := h; rfl) | (obtain ⟨_, _, _, _, _, _, _, _, _, _, _, _, _, _, _, rfl, _⟩ := h; rfl)
  · have hu := hu_of hr
    exact pss_one (ps_if (pt_not (pt_val (pe_call G_is_whole (hr.mono (by decide)) (by rfl) T.g_is_whole T.F_is_whole.kp T.b_is_whole .nil pass0 (pa_cons (pv 1) (pa_cons (pe_int) (pa_cons (pe_op op_subI (pe_callB call_lenQ (by rfl) T.m_len PySem.boot_len (pa_cons (pe_fld (pv 0) (by rfl)) (pa_nil))) (pe_int)) (pa_nil))))))) (pss_one (ps_never)) (pss_nil))
  · exact pure_vlook_cell ⟨T.cl_Versions, T.na_Versions_hands, T.na_Versions_rows, T.na_Versions_version, T.na_Versions_begun, T.na_Versions_asked⟩ h
set_option maxHeartbeats 8000000 in
theorem ok_Versions__Versions_kept (T : Txt K mg D) : FnOk P w K mg base CX0 3 D.f_Versions_kept D.d_Versions_kept ["self", "cell"] (sp_vkept D.c_Versions) := by
  have G_Versions__Versions_look_cell : FnOk P w K mg base CX0 2 D.f_Versions_look_cell D.d_Versions_look_cell ["self", "cell"] (sp_vlook_cell D.c_Versions) := ok_Versions__Versions_look_cell T
  refine T.F_Versions_kept.ok sc_Versions_kept (fun vs H Q E h => ?_) (fun cdv A outer s H vs Q E hr h => ⟨t_Versions_kept K D.c_Versions (sp_vlook_cell D.c_Versions), ?_, ?_⟩)
  · first | (obtain ⟨_, rfl, _⟩ := h; rfl) | (obtain ⟨_, _, rfl, _⟩ := h; rfl) | (obtain ⟨_, _, _, rfl, _⟩ := h; rfl) | (obtain ⟨_, _, _, _, rfl, _⟩ := h; rfl) | (obtain ⟨_, _, _, _, _, rfl, _⟩ := h; rfl) | (obtain ⟨_, _, _, _, _, _, rfl, _⟩ := h; rfl) | (obtain ⟨_, _, _, _, _, _, _, rfl, _⟩ := h; rfl) | (obtain ⟨_, _, _, _, _, _, _, _, rfl, _⟩ := h; rfl) | (obtain ⟨_, _, _, _, _, _, _, _, _, rfl, _⟩ := h; rfl) | (obtain ⟨_, _, _, _, _, _, _, _, _, _, rfl, _⟩ := h; rfl) | (obtain ⟨_, _, _, _, _, _, _, _, _, _, _, rfl, _⟩ := h; rfl) | (obtain ⟨_, _, _, _, _, _, _, _, _, _, _, _, rfl, _⟩ := h; rfl) | (obtain ⟨_, _, _, _, _, _, _, _, _, _, _, _, _, rfl, _⟩ := h; rfl) | (obtain ⟨_, _, _, _, _, _, _, _, _, _, _, _, _, _, rfl, _⟩ := h; rfl) | (obtain ⟨_, _, _, _, _, _, _, _, _, _, _, _, _, _, _, rfl, _⟩ := h; rfl)
  · have hu := hu_of hr
    exact pss_cons (ps_expr (pe_meth (pv 0) T.cl_Versions T.me_Versions_look_cell G_Versions__Versions_look_cell (hr.mono (by decide)) T.b_Versions_look_cell .nil pass0 (pa_cons (pv 1) (pa_nil))))
      (pss_one (ps_ret (pe_lc (own := [("made", 2), ("value", 3)]) (by rfl) sc_Versions_kept.nd (pi_list (pe_ix ix_list (pe_fld (pv 0) (by rfl)) (pv 1) (fun _ _ => rfl))) (blkOk_by (own := [("made", 2), ("value", 3)]) (N := ["self", "cell", "made", "value"]) (sc := defScope s_Versions_kept) (by decide +kernel)) (fun _ _ _ _ _ => pg_tup rfl (pgs_cons (pg_name (i := 2) sc_Versions_kept.nd rfl (by first | exact Or.inl rfl | exact Or.inr rfl)) (pgs_cons (pg_name (i := 3) sc_Versions_kept.nd rfl (by first | exact Or.inl rfl | exact Or.inr rfl)) (pgs_nil)))) (fun _ _ _ _ _ => pts_nil) (fun _ _ _ _ _ => pv 2))))
  · exact pure_vkept ⟨T.cl_Versions, T.na_Versions_hands, T.na_Versions_rows, T.na_Versions_version, T.na_Versions_begun, T.na_Versions_asked⟩ h
set_option maxHeartbeats 8000000 in
theorem ok_Versions__Versions_now (T : Txt K mg D) : FnOk P w K mg base CX0 1 D.f_Versions_now D.d_Versions_now ["self"] (sp_vnow D.c_Versions) := by
  refine T.F_Versions_now.ok sc_Versions_now (fun vs H Q E h => ?_) (fun cdv A outer s H vs Q E hr h => ⟨t_Versions_now K, ?_, ?_⟩)
  · first | (obtain ⟨_, rfl, _⟩ := h; rfl) | (obtain ⟨_, _, rfl, _⟩ := h; rfl) | (obtain ⟨_, _, _, rfl, _⟩ := h; rfl) | (obtain ⟨_, _, _, _, rfl, _⟩ := h; rfl) | (obtain ⟨_, _, _, _, _, rfl, _⟩ := h; rfl) | (obtain ⟨_, _, _, _, _, _, rfl, _⟩ := h; rfl) | (obtain ⟨_, _, _, _, _, _, _, rfl, _⟩ := h; rfl) | (obtain ⟨_, _, _, _, _, _, _, _, rfl, _⟩ := h; rfl) | (obtain ⟨_, _, _, _, _, _, _, _, _, rfl, _⟩ := h; rfl) | (obtain ⟨_, _, _, _, _, _, _, _, _, _, rfl, _⟩ := h; rfl) | (obtain ⟨_, _, _, _, _, _, _, _, _, _, _, rfl, _⟩ := h; rfl) | (obtain ⟨_, _, _, _, _, _, _, _, _, _, _, _, rfl, _⟩ := h; rfl) | (obtain ⟨_, _, _, _, _, _, _, _, _, _, _, _, _, rfl, _⟩ := h; rfl) | (obtain ⟨_, _, _, _, _, _, _, _, _, _, _, _, _, _, rfl, _⟩ := h; rfl) | (obtain ⟨_, _, _, _, _, _, _, _, _, _, _, _, _, _, _, rfl, _⟩ := h; rfl)
  · have hu := hu_of hr
    exact pss_one (ps_ret (pe_lc (own := [("row", 1)]) (by rfl) sc_Versions_now.nd (pi_list (pe_fld (pv 0) (by rfl))) (blkOk_by (own := [("row", 1)]) (N := ["self", "row"]) (sc := defScope s_Versions_now) (by decide +kernel)) (fun _ _ _ _ _ => pg_name (i := 1) sc_Versions_now.nd rfl (by first | exact Or.inl rfl | exact Or.inr rfl)) (fun _ _ _ _ _ => pts_nil) (fun _ _ _ _ _ => pe_ix ix_tup (pe_ix ix_list (pv 1) (pe_un un_neg (pe_int)) (fun _ _ => rfl)) (pe_int) (fun _ _ => rfl))))
  · exact pure_vnow ⟨T.cl_Versions, T.na_Versions_hands, T.na_Versions_rows, T.na_Versions_version, T.na_Versions_begun, T.na_Versions_asked⟩ h
set_option maxHeartbeats 8000000 in
theorem ok_Versions__Versions_look_pairs (T : Txt K mg D) : FnOk P w K mg base CX0 2 D.f_Versions_look_pairs D.d_Versions_look_pairs ["self", "pairs"] (sp_vlook_pairs D.c_Versions) := by
  have G_is_whole : FnOk P w K mg base CX0 1 D.f_is_whole D.d_is_whole ["thing", "low", "high"] (sp_is_whole) := ok_is_whole T
  refine T.F_Versions_look_pairs.ok sc_Versions_look_pairs (fun vs H Q E h => ?_) (fun cdv A outer s H vs Q E hr h => ⟨t_Versions_look_pairs K (sp_is_whole), ?_, ?_⟩)
  · first | (obtain ⟨_, rfl, _⟩ := h; rfl) | (obtain ⟨_, _, rfl, _⟩ := h; rfl) | (obtain ⟨_, _, _, rfl, _⟩ := h; rfl) | (obtain ⟨_, _, _, _, rfl, _⟩ := h; rfl) | (obtain ⟨_, _, _, _, _, rfl, _⟩ := h; rfl) | (obtain ⟨_, _, _, _, _, _, rfl, _⟩ := h; rfl) | (obtain ⟨_, _, _, _, _, _, _, rfl, _⟩ := h; rfl) | (obtain ⟨_, _, _, _, _, _, _, _, rfl, _⟩ := h; rfl) | (obtain ⟨_, _, _, _, _, _, _, _, _, rfl, _⟩ := h; rfl) | (obtain ⟨_, _, _, _, _, _, _, _, _, _, rfl, _⟩ := h; rfl) | (obtain ⟨_, _, _, _, _, _, _, _, _, _, _, rfl, _⟩ := h; rfl) | (obtain ⟨_, _, _, _, _, _, _, _, _, _, _, _, rfl, _⟩ := h; rfl) | (obtain ⟨_, _, _, _, _, _, _, _, _, _, _, _, _, rfl, _⟩ := h; rfl) | (obtain ⟨_, _, _, _, _, _, _, _, _, _, _, _, _, _, rfl, _⟩ := h; rfl) | (obtain ⟨_, _, _, _, _, _, _, _, _, _, _, _, _, _, _, rfl, _⟩ := h; rfl)
  · have hu := hu_of hr
    exact pss_cons (ps_set (i := 2) sc_Versions_look_pairs.nd rfl (by first | exact Or.inl rfl | exact Or.inr rfl) (pe_and (pe_callB call_isi (by rfl) T.m_isinstance (by decide +kernel) (pa_cons (pv 1) (pa_cons (pe_bltn (v := .ty "list") (by rfl) T.m_list (by decide +kernel) rfl) (pa_nil)))) (pe_one (pe_cmpR (op_neD hr.units) (pv 1) (pe_lst (pa_nil)) (nomark _)))))
      (pss_cons (ps_if (PW.pt (pw_or (pt_not (pt_val (pv 2))) (pw_or1 (pt_not (pt_val (pe_callB (cr_all rfl) (by rfl) T.m_all (by decide +kernel) (pa_cons (pe_lc (own := [("one", 3)]) (by rfl) sc_Versions_look_pairs.nd (pi_list (pv 1)) (blkOk_by (own := [("one", 3)]) (N := ["self", "pairs", "fine", "one", "cells", "cell", "value"]) (sc := defScope s_Versions_look_pairs) (by decide +kernel)) (fun _ _ _ _ _ => pg_name (i := 3) sc_Versions_look_pairs.nd rfl (by first | exact Or.inl rfl | exact Or.inr rfl)) (fun _ _ _ _ _ => pts_nil) (fun _ _ _ _ _ => pe_and (pe_callB call_isi (by rfl) T.m_isinstance (by decide +kernel) (pa_cons (pv 3) (pa_cons (pe_bltn (v := .ty "tuple") (by rfl) T.m_tuple (by decide +kernel) rfl) (pa_nil)))) (pe_one (pe_cmpR op_eq (pe_callB call_lenQ (by rfl) T.m_len PySem.boot_len (pa_cons (pv 3) (pa_nil))) (pe_int) (nomark _))))) (pa_nil)))))))) (pss_one (ps_never)) (pss_nil))
      (pss_cons (ps_if (pt_not (pt_val (pe_callB (cr_all rfl) (by rfl) T.m_all (by decide +kernel) (pa_cons (pe_lc (own := [("one", 3)]) (by rfl) sc_Versions_look_pairs.nd (pi_list (pv 1)) (blkOk_by (own := [("one", 3)]) (N := ["self", "pairs", "fine", "one", "cells", "cell", "value"]) (sc := defScope s_Versions_look_pairs) (by decide +kernel)) (fun _ _ _ _ _ => pg_name (i := 3) sc_Versions_look_pairs.nd rfl (by first | exact Or.inl rfl | exact Or.inr rfl)) (fun _ _ _ _ _ => pts_nil) (fun _ _ _ _ _ => pe_and (pe_call G_is_whole (hr.mono (by decide)) (by rfl) T.g_is_whole T.F_is_whole.kp T.b_is_whole .nil pass0 (pa_cons (pe_ix ix_tup (pv 3) (pe_int) (fun _ _ => rfl)) (pa_cons (pe_int) (pa_cons (pe_op op_subI (pe_callB call_lenQ (by rfl) T.m_len PySem.boot_len (pa_cons (pe_fld (pv 0) (by rfl)) (pa_nil))) (pe_int)) (pa_nil))))) (pe_one (pe_call G_is_whole (hr.mono (by decide)) (by rfl) T.g_is_whole T.F_is_whole.kp T.b_is_whole .nil pass0 (pa_cons (pe_ix ix_tup (pv 3) (pe_int) (fun _ _ => rfl)) (pa_cons (pe_int) (pa_cons (pe_glob (by rfl) T.k_MOST_VALUE ⟨_, rfl⟩) (pa_nil)))))))) (pa_nil))))) (pss_one (ps_never)) (pss_nil))
      (pss_cons (ps_setLc (i := 4) (own := [("cell", 5), ("value", 6)]) (by rfl) sc_Versions_look_pairs.nd rfl rfl (sw_true rfl rfl rfl (by decide +kernel)) (pi_list (pv 1)) (blkOk_by (own := [("cell", 5), ("value", 6)]) (N := ["self", "pairs", "fine", "one", "cells", "cell", "value"]) (sc := defScope s_Versions_look_pairs) (by decide +kernel)) (fun _ _ _ _ _ => pg_tup rfl (pgs_cons (pg_name (i := 5) sc_Versions_look_pairs.nd rfl (by first | exact Or.inl rfl | exact Or.inr rfl)) (pgs_cons (pg_name (i := 6) sc_Versions_look_pairs.nd rfl (by first | exact Or.inl rfl | exact Or.inr rfl)) (pgs_nil)))) (fun _ _ _ _ _ => pts_nil) (fun _ _ _ _ _ => pv 5))
      (pss_one (ps_if (pt_cmpR (op_neD hr.units) (pe_sset rfl (by rfl) T.m_sorted (by rfl) T.m_set (pa_cons (pv 4) (pa_nil))) (pv 4) (nomark _)) (pss_one (ps_never)) (pss_nil))))))
  · exact pure_vlook_pairs ⟨T.cl_Versions, T.na_Versions_hands, T.na_Versions_rows, T.na_Versions_version, T.na_Versions_begun, T.na_Versions_asked⟩ h
set_option maxHeartbeats 8000000 in
theorem ok_Versions__Versions_write (T : Txt K mg D) : FnOk P w K mg base CX0 3 D.f_Versions_write D.d_Versions_write ["self", "pairs"] (sp_vwrite D.c_Versions) := by
  have G_Versions__Versions_look_pairs : FnOk P w K mg base CX0 2 D.f_Versions_look_pairs D.d_Versions_look_pairs ["self", "pairs"] (sp_vlook_pairs D.c_Versions) := ok_Versions__Versions_look_pairs T
  refine T.F_Versions_write.ok sc_Versions_write (fun vs H Q E h => ?_) (fun cdv A outer s H vs Q E hr h => ⟨t_Versions_write K D.c_Versions (sp_vlook_pairs D.c_Versions), ?_, ?_⟩)
  · first | (obtain ⟨_, rfl, _⟩ := h; rfl) | (obtain ⟨_, _, rfl, _⟩ := h; rfl) | (obtain ⟨_, _, _, rfl, _⟩ := h; rfl) | (obtain ⟨_, _, _, _, rfl, _⟩ := h; rfl) | (obtain ⟨_, _, _, _, _, rfl, _⟩ := h; rfl) | (obtain ⟨_, _, _, _, _, _, rfl, _⟩ := h; rfl) | (obtain ⟨_, _, _, _, _, _, _, rfl, _⟩ := h; rfl) | (obtain ⟨_, _, _, _, _, _, _, _, rfl, _⟩ := h; rfl) | (obtain ⟨_, _, _, _, _, _, _, _, _, rfl, _⟩ := h; rfl) | (obtain ⟨_, _, _, _, _, _, _, _, _, _, rfl, _⟩ := h; rfl) | (obtain ⟨_, _, _, _, _, _, _, _, _, _, _, rfl, _⟩ := h; rfl) | (obtain ⟨_, _, _, _, _, _, _, _, _, _, _, _, rfl, _⟩ := h; rfl) | (obtain ⟨_, _, _, _, _, _, _, _, _, _, _, _, _, rfl, _⟩ := h; rfl) | (obtain ⟨_, _, _, _, _, _, _, _, _, _, _, _, _, _, rfl, _⟩ := h; rfl) | (obtain ⟨_, _, _, _, _, _, _, _, _, _, _, _, _, _, _, rfl, _⟩ := h; rfl)
  · have hu := hu_of hr
    exact pss_cons (ps_expr (pe_meth (pv 0) T.cl_Versions T.me_Versions_look_pairs G_Versions__Versions_look_pairs (hr.mono (by decide)) T.b_Versions_look_pairs .nil pass0 (pa_cons (pv 1) (pa_nil))))
      (pss_cons (ps_fld (pv 0) (pe_op op_addI (pe_fld (pv 0) (by rfl)) (pe_int)) (by rfl))
      (pss_cons (ps_for PassesOwn.never rfl (pi_list (pv 1)) (pg_tup rfl (pgs_cons (pg_name (i := 2) sc_Versions_write.nd rfl (by first | exact Or.inl rfl | exact Or.inr rfl)) (pgs_cons (pg_name (i := 3) sc_Versions_write.nd rfl (by first | exact Or.inl rfl | exact Or.inr rfl)) (pgs_nil)))) (pss_one (ps_expr (pe_bm PySem.F.plainAttrs_list PySem.F.slot_list_append PySem.F.type_list_append mt_append (pe_ix ix_list (pe_fld (pv 0) (by rfl)) (pv 2) (fun _ _ => rfl)) (pa_cons (pe_tup (pa_cons (pe_fld (pv 0) (by rfl)) (pa_cons (pv 3) (pa_nil)))) (pa_nil))))))
      (pss_one (ps_ret (pe_fld (pv 0) (by rfl))))))
  · exact pure_vwrite ⟨T.cl_Versions, T.na_Versions_hands, T.na_Versions_rows, T.na_Versions_version, T.na_Versions_begun, T.na_Versions_asked⟩ h
set_option maxHeartbeats 8000000 in
theorem ok_Chain__Chain_go_on (T : Txt K mg D) : FnOk P w K mg base CX0 1 D.f_Chain_go_on D.d_Chain_go_on ["self"] (sp_chgo D.c_Chain D.c_Link) := by
  refine T.F_Chain_go_on.ok sc_Chain_go_on (fun vs H Q E h => ?_) (fun cdv A outer s H vs Q E hr h => ⟨t_Chain_go_on K, ?_, ?_⟩)
  · first | (obtain ⟨_, rfl, _⟩ := h; rfl) | (obtain ⟨_, _, rfl, _⟩ := h; rfl) | (obtain ⟨_, _, _, rfl, _⟩ := h; rfl) | (obtain ⟨_, _, _, _, rfl, _⟩ := h; rfl) | (obtain ⟨_, _, _, _, _, rfl, _⟩ := h; rfl) | (obtain ⟨_, _, _, _, _, _, rfl, _⟩ := h; rfl) | (obtain ⟨_, _, _, _, _, _, _, rfl, _⟩ := h; rfl) | (obtain ⟨_, _, _, _, _, _, _, _, rfl, _⟩ := h; rfl) | (obtain ⟨_, _, _, _, _, _, _, _, _, rfl, _⟩ := h; rfl) | (obtain ⟨_, _, _, _, _, _, _, _, _, _, rfl, _⟩ := h; rfl) | (obtain ⟨_, _, _, _, _, _, _, _, _, _, _, rfl, _⟩ := h; rfl) | (obtain ⟨_, _, _, _, _, _, _, _, _, _, _, _, rfl, _⟩ := h; rfl) | (obtain ⟨_, _, _, _, _, _, _, _, _, _, _, _, _, rfl, _⟩ := h; rfl) | (obtain ⟨_, _, _, _, _, _, _, _, _, _, _, _, _, _, rfl, _⟩ := h; rfl) | (obtain ⟨_, _, _, _, _, _, _, _, _, _, _, _, _, _, _, rfl, _⟩ := h; rfl)
  · have hu := hu_of hr
    exact pss_cons (ps_if (pt_not (pt_val (pe_callB (cr_all rfl) (by rfl) T.m_all (by decide +kernel) (pa_cons (pe_lock (pe_lc (own := [("hand", 1)]) (by rfl) sc_Chain_go_on.nd (pi_keys (pe_fld (pv 0) (by rfl))) (blkOk_by (own := [("hand", 1)]) (N := ["self", "hand", "found", "name"]) (sc := defScope s_Chain_go_on) (by decide +kernel)) (fun _ _ _ _ _ => pg_name (i := 1) sc_Chain_go_on.nd rfl (by first | exact Or.inl rfl | exact Or.inr rfl)) (fun _ _ _ _ _ => pts_nil) (fun _ _ _ _ _ => pe_cmpR op_eq (pe_dget hu (pe_fld (pv 0) (by rfl)) (pv 1) (fun _ _ => rfl)) (pe_fld (pv 0) (by rfl)) (nomark _)))) (pa_nil))))) (pss_one (ps_ret (pe_non))) (pss_nil))
      (pss_cons (ps_fld (pv 0) (pe_op op_addI (pe_fld (pv 0) (by rfl)) (pe_int)) (by rfl))
      (pss_cons (ps_lock (ps_setLc (i := 2) (own := [("name", 3)]) (by rfl) sc_Chain_go_on.nd rfl rfl (sw_true rfl rfl rfl (by decide +kernel)) (pi_keys (pe_fld (pv 0) (by rfl))) (blkOk_by (own := [("name", 3)]) (N := ["self", "hand", "found", "name"]) (sc := defScope s_Chain_go_on) (by decide +kernel)) (fun _ _ _ _ _ => pg_name (i := 3) sc_Chain_go_on.nd rfl (by first | exact Or.inl rfl | exact Or.inr rfl)) (fun _ _ _ _ _ => pts_one (pt_cmpR op_leI (pe_dget hu (pe_fld (pv 0) (by rfl)) (pv 3) (fun _ _ => rfl)) (pe_op op_subI (pe_fld (pv 0) (by rfl)) (pe_int)) (nomark _))) (fun _ _ _ _ _ => pv 3)))
      (pss_cons (ps_for PassesOwn.never rfl (pi_list (pv 2)) (pg_name (i := 3) sc_Chain_go_on.nd rfl (by first | exact Or.inl rfl | exact Or.inr rfl)) (pss_cons (ps_expr (pe_dpop1 (pe_fld (pv 0) (by rfl)) (pv 3) ⟨rfl, rfl, rfl, rfl⟩))
      (pss_one (ps_expr (pe_dpop1 (pe_fld (pv 0) (by rfl)) (pv 3) ⟨rfl, rfl, rfl, rfl⟩)))))
      (pss_one (ps_ret (pe_callB call_lenQ (by rfl) T.m_len PySem.boot_len (pa_cons (pv 2) (pa_nil))))))))
  · exact pure_chgo ⟨T.cl_Chain, T.na_Chain_hands, T.na_Chain_links, T.na_Chain_made, T.na_Chain_era, T.na_Chain_inside, T.na_Chain_at, T.na_Chain_waits, T.cl_Link, T.na_Link_key, T.na_Link_after⟩ h
set_option maxHeartbeats 8000000 in
theorem ok_Chain__Chain_len (T : Txt K mg D) : FnOk P w K mg base CX0 1 D.f_Chain_len D.d_Chain_len ["self"] (sp_chlen D.c_Chain D.c_Link) := by
  refine T.F_Chain_len.ok sc_Chain_len (fun vs H Q E h => ?_) (fun cdv A outer s H vs Q E hr h => ⟨t_Chain_len K, ?_, ?_⟩)
  · first | (obtain ⟨_, rfl, _⟩ := h; rfl) | (obtain ⟨_, _, rfl, _⟩ := h; rfl) | (obtain ⟨_, _, _, rfl, _⟩ := h; rfl) | (obtain ⟨_, _, _, _, rfl, _⟩ := h; rfl) | (obtain ⟨_, _, _, _, _, rfl, _⟩ := h; rfl) | (obtain ⟨_, _, _, _, _, _, rfl, _⟩ := h; rfl) | (obtain ⟨_, _, _, _, _, _, _, rfl, _⟩ := h; rfl) | (obtain ⟨_, _, _, _, _, _, _, _, rfl, _⟩ := h; rfl) | (obtain ⟨_, _, _, _, _, _, _, _, _, rfl, _⟩ := h; rfl) | (obtain ⟨_, _, _, _, _, _, _, _, _, _, rfl, _⟩ := h; rfl) | (obtain ⟨_, _, _, _, _, _, _, _, _, _, _, rfl, _⟩ := h; rfl) | (obtain ⟨_, _, _, _, _, _, _, _, _, _, _, _, rfl, _⟩ := h; rfl) | (obtain ⟨_, _, _, _, _, _, _, _, _, _, _, _, _, rfl, _⟩ := h; rfl) | (obtain ⟨_, _, _, _, _, _, _, _, _, _, _, _, _, _, rfl, _⟩ := h; rfl) | (obtain ⟨_, _, _, _, _, _, _, _, _, _, _, _, _, _, _, rfl, _⟩ := h; rfl)
  · have hu := hu_of hr
    exact pss_one (ps_ret (pe_callB call_lenK (by rfl) T.m_len PySem.boot_len (pa_cons (pe_fld (pv 0) (by rfl)) (pa_nil))))
  · exact pure_chlen ⟨T.cl_Chain, T.na_Chain_hands, T.na_Chain_links, T.na_Chain_made, T.na_Chain_era, T.na_Chain_inside, T.na_Chain_at, T.na_Chain_waits, T.cl_Link, T.na_Link_key, T.na_Link_after⟩ h
set_option maxHeartbeats 8000000 in
theorem ok_Chain__Chain_place_of (T : Txt K mg D) : FnOk P w K mg base CX0 1 D.f_Chain_place_of D.d_Chain_place_of ["self", "key"] (sp_place_of D.c_Chain D.c_Link) := by
  refine T.F_Chain_place_of.ok sc_Chain_place_of (fun vs H Q E h => ?_) (fun cdv A outer s H vs Q E hr h => ⟨t_Chain_place_of K, ?_, ?_⟩)
  · first | (obtain ⟨_, rfl, _⟩ := h; rfl) | (obtain ⟨_, _, rfl, _⟩ := h; rfl) | (obtain ⟨_, _, _, rfl, _⟩ := h; rfl) | (obtain ⟨_, _, _, _, rfl, _⟩ := h; rfl) | (obtain ⟨_, _, _, _, _, rfl, _⟩ := h; rfl) | (obtain ⟨_, _, _, _, _, _, rfl, _⟩ := h; rfl) | (obtain ⟨_, _, _, _, _, _, _, rfl, _⟩ := h; rfl) | (obtain ⟨_, _, _, _, _, _, _, _, rfl, _⟩ := h; rfl) | (obtain ⟨_, _, _, _, _, _, _, _, _, rfl, _⟩ := h; rfl) | (obtain ⟨_, _, _, _, _, _, _, _, _, _, rfl, _⟩ := h; rfl) | (obtain ⟨_, _, _, _, _, _, _, _, _, _, _, rfl, _⟩ := h; rfl) | (obtain ⟨_, _, _, _, _, _, _, _, _, _, _, _, rfl, _⟩ := h; rfl) | (obtain ⟨_, _, _, _, _, _, _, _, _, _, _, _, _, rfl, _⟩ := h; rfl) | (obtain ⟨_, _, _, _, _, _, _, _, _, _, _, _, _, _, rfl, _⟩ := h; rfl) | (obtain ⟨_, _, _, _, _, _, _, _, _, _, _, _, _, _, _, rfl, _⟩ := h; rfl)
  · have hu := hu_of hr
    exact pss_cons (ps_set (i := 2) sc_Chain_place_of.nd rfl (by first | exact Or.inl rfl | exact Or.inr rfl) (pe_int))
      (pss_cons (ps_set (i := 3) sc_Chain_place_of.nd rfl (by first | exact Or.inl rfl | exact Or.inr rfl) (pe_fld (pe_dget hu (pe_fld (pv 0) (by rfl)) (pv 2) (fun _ _ => rfl)) (by rfl)))
      (pss_cons (ps_while PassesOwn.never (PW.pt (pw_and (pt_cmpR op_notNo (pv 3) (pe_non) (nomark _)) (pw_and1 (pt_cmpR op_ltI (pe_fld (pe_dget hu (pe_fld (pv 0) (by rfl)) (pv 3) (fun _ _ => rfl)) (by rfl)) (pv 1) (nomark _))))) (pss_cons (ps_set (i := 2) sc_Chain_place_of.nd rfl (by first | exact Or.inl rfl | exact Or.inr rfl) (pv 3))
      (pss_one (ps_set (i := 3) sc_Chain_place_of.nd rfl (by first | exact Or.inl rfl | exact Or.inr rfl) (pe_fld (pe_dget hu (pe_fld (pv 0) (by rfl)) (pv 2) (fun _ _ => rfl)) (by rfl))))))
      (pss_one (ps_ret (pv 2)))))
  · exact pure_place_of ⟨T.cl_Chain, T.na_Chain_hands, T.na_Chain_links, T.na_Chain_made, T.na_Chain_era, T.na_Chain_inside, T.na_Chain_at, T.na_Chain_waits, T.cl_Link, T.na_Link_key, T.na_Link_after⟩ h
set_option maxHeartbeats 8000000 in
theorem ok_Chain__Chain_has (T : Txt K mg D) : FnOk P w K mg base CX0 3 D.f_Chain_has D.d_Chain_has ["self", "key"] (sp_chhas D.c_Chain D.c_Link) := by
  have G_look_number : FnOk P w K mg base CX0 2 D.f_look_number D.d_look_number ["thing", "low", "high"] (sp_look_number) := ok_look_number T
  have G_Chain__Chain_place_of : FnOk P w K mg base CX0 1 D.f_Chain_place_of D.d_Chain_place_of ["self", "key"] (sp_place_of D.c_Chain D.c_Link) := ok_Chain__Chain_place_of T
  refine T.F_Chain_has.ok sc_Chain_has (fun vs H Q E h => ?_) (fun cdv A outer s H vs Q E hr h => ⟨t_Chain_has K D.c_Chain (sp_look_number) (sp_place_of D.c_Chain D.c_Link), ?_, ?_⟩)
  · first | (obtain ⟨_, rfl, _⟩ := h; rfl) | (obtain ⟨_, _, rfl, _⟩ := h; rfl) | (obtain ⟨_, _, _, rfl, _⟩ := h; rfl) | (obtain ⟨_, _, _, _, rfl, _⟩ := h; rfl) | (obtain ⟨_, _, _, _, _, rfl, _⟩ := h; rfl) | (obtain ⟨_, _, _, _, _, _, rfl, _⟩ := h; rfl) | (obtain ⟨_, _, _, _, _, _, _, rfl, _⟩ := h; rfl) | (obtain ⟨_, _, _, _, _, _, _, _, rfl, _⟩ := h; rfl) | (obtain ⟨_, _, _, _, _, _, _, _, _, rfl, _⟩ := h; rfl) | (obtain ⟨_, _, _, _, _, _, _, _, _, _, rfl, _⟩ := h; rfl) | (obtain ⟨_, _, _, _, _, _, _, _, _, _, _, rfl, _⟩ := h; rfl) | (obtain ⟨_, _, _, _, _, _, _, _, _, _, _, _, rfl, _⟩ := h; rfl) | (obtain ⟨_, _, _, _, _, _, _, _, _, _, _, _, _, rfl, _⟩ := h; rfl) | (obtain ⟨_, _, _, _, _, _, _, _, _, _, _, _, _, _, rfl, _⟩ := h; rfl) | (obtain ⟨_, _, _, _, _, _, _, _, _, _, _, _, _, _, _, rfl, _⟩ := h; rfl)
  · have hu := hu_of hr
    exact pss_cons (ps_expr (pe_call G_look_number (hr.mono (by decide)) (by rfl) T.g_look_number T.F_look_number.kp T.b_look_number .nil pass0 (pa_cons (pv 1) (pa_cons (pe_int) (pa_cons (pe_glob (by rfl) T.k_MOST_KEY ⟨_, rfl⟩) (pa_nil))))))
      (pss_cons (ps_set (i := 2) sc_Chain_has.nd rfl (by first | exact Or.inl rfl | exact Or.inr rfl) (pe_fld (pe_dget hu (pe_fld (pv 0) (by rfl)) (pe_meth (pv 0) T.cl_Chain T.me_Chain_place_of G_Chain__Chain_place_of (hr.mono (by decide)) T.b_Chain_place_of .nil pass0 (pa_cons (pv 1) (pa_nil))) (fun _ _ => rfl)) (by rfl)))
      (pss_one (ps_ret (pe_and (pe_cmpR op_notNo (pv 2) (pe_non) (nomark _)) (pe_one (pe_cmpR op_eq (pe_fld (pe_dget hu (pe_fld (pv 0) (by rfl)) (pv 2) (fun _ _ => rfl)) (by rfl)) (pv 1) (nomark _)))))))
  · exact pure_chhas ⟨T.cl_Chain, T.na_Chain_hands, T.na_Chain_links, T.na_Chain_made, T.na_Chain_era, T.na_Chain_inside, T.na_Chain_at, T.na_Chain_waits, T.cl_Link, T.na_Link_key, T.na_Link_after⟩ h
set_option maxHeartbeats 8000000 in
theorem ok_Chain__Chain_take_out (T : Txt K mg D) : FnOk P w K mg base CX0 4 D.f_Chain_take_out D.d_Chain_take_out ["self", "key"] (sp_chout D.c_Chain D.c_Link) := by
  have G_Chain__Chain_has : FnOk P w K mg base CX0 3 D.f_Chain_has D.d_Chain_has ["self", "key"] (sp_chhas D.c_Chain D.c_Link) := ok_Chain__Chain_has T
  have G_Chain__Chain_place_of : FnOk P w K mg base CX0 1 D.f_Chain_place_of D.d_Chain_place_of ["self", "key"] (sp_place_of D.c_Chain D.c_Link) := ok_Chain__Chain_place_of T
  refine T.F_Chain_take_out.ok sc_Chain_take_out (fun vs H Q E h => ?_) (fun cdv A outer s H vs Q E hr h => ⟨t_Chain_take_out K D.c_Chain (sp_chhas D.c_Chain D.c_Link) (sp_place_of D.c_Chain D.c_Link), ?_, ?_⟩)
  · first | (obtain ⟨_, rfl, _⟩ := h; rfl) | (obtain ⟨_, _, rfl, _⟩ := h; rfl) | (obtain ⟨_, _, _, rfl, _⟩ := h; rfl) | (obtain ⟨_, _, _, _, rfl, _⟩ := h; rfl) | (obtain ⟨_, _, _, _, _, rfl, _⟩ := h; rfl) | (obtain ⟨_, _, _, _, _, _, rfl, _⟩ := h; rfl) | (obtain ⟨_, _, _, _, _, _, _, rfl, _⟩ := h; rfl) | (obtain ⟨_, _, _, _, _, _, _, _, rfl, _⟩ := h; rfl) | (obtain ⟨_, _, _, _, _, _, _, _, _, rfl, _⟩ := h; rfl) | (obtain ⟨_, _, _, _, _, _, _, _, _, _, rfl, _⟩ := h; rfl) | (obtain ⟨_, _, _, _, _, _, _, _, _, _, _, rfl, _⟩ := h; rfl) | (obtain ⟨_, _, _, _, _, _, _, _, _, _, _, _, rfl, _⟩ := h; rfl) | (obtain ⟨_, _, _, _, _, _, _, _, _, _, _, _, _, rfl, _⟩ := h; rfl) | (obtain ⟨_, _, _, _, _, _, _, _, _, _, _, _, _, _, rfl, _⟩ := h; rfl) | (obtain ⟨_, _, _, _, _, _, _, _, _, _, _, _, _, _, _, rfl, _⟩ := h; rfl)
  · have hu := hu_of hr
    exact pss_cons (ps_if (pt_not (pt_val (pe_meth (pv 0) T.cl_Chain T.me_Chain_has G_Chain__Chain_has (hr.mono (by decide)) T.b_Chain_has .nil pass0 (pa_cons (pv 1) (pa_nil))))) (pss_one (ps_ret (pe_bl))) (pss_nil))
      (pss_cons (ps_set (i := 2) sc_Chain_take_out.nd rfl (by first | exact Or.inl rfl | exact Or.inr rfl) (pe_dget hu (pe_fld (pv 0) (by rfl)) (pe_meth (pv 0) T.cl_Chain T.me_Chain_place_of G_Chain__Chain_place_of (hr.mono (by decide)) T.b_Chain_place_of .nil pass0 (pa_cons (pv 1) (pa_nil))) (fun _ _ => rfl)))
      (pss_cons (ps_set (i := 3) sc_Chain_take_out.nd rfl (by first | exact Or.inl rfl | exact Or.inr rfl) (pe_fld (pv 2) (by rfl)))
      (pss_cons (ps_fld (pv 2) (pe_fld (pe_dget hu (pe_fld (pv 0) (by rfl)) (pv 3) (fun _ _ => rfl)) (by rfl)) (by rfl))
      (pss_cons (ps_dput hu (pe_fld (pv 0) (by rfl)) (pv 3) (pe_fld (pv 0) (by rfl)) (by rfl))
      (pss_one (ps_ret (pe_bl)))))))
  · exact pure_chout ⟨T.cl_Chain, T.na_Chain_hands, T.na_Chain_links, T.na_Chain_made, T.na_Chain_era, T.na_Chain_inside, T.na_Chain_at, T.na_Chain_waits, T.cl_Link, T.na_Link_key, T.na_Link_after⟩ h
set_option maxHeartbeats 8000000 in
theorem ok_Chain__Chain_keys_in (T : Txt K mg D) : FnOk P w K mg base CX0 1 D.f_Chain_keys_in D.d_Chain_keys_in ["self"] (sp_keys_in D.c_Chain D.c_Link) := by
  refine T.F_Chain_keys_in.ok sc_Chain_keys_in (fun vs H Q E h => ?_) (fun cdv A outer s H vs Q E hr h => ⟨t_Chain_keys_in K, ?_, ?_⟩)
  · first | (obtain ⟨_, rfl, _⟩ := h; rfl) | (obtain ⟨_, _, rfl, _⟩ := h; rfl) | (obtain ⟨_, _, _, rfl, _⟩ := h; rfl) | (obtain ⟨_, _, _, _, rfl, _⟩ := h; rfl) | (obtain ⟨_, _, _, _, _, rfl, _⟩ := h; rfl) | (obtain ⟨_, _, _, _, _, _, rfl, _⟩ := h; rfl) | (obtain ⟨_, _, _, _, _, _, _, rfl, _⟩ := h; rfl) | (obtain ⟨_, _, _, _, _, _, _, _, rfl, _⟩ := h; rfl) | (obtain ⟨_, _, _, _, _, _, _, _, _, rfl, _⟩ := h; rfl) | (obtain ⟨_, _, _, _, _, _, _, _, _, _, rfl, _⟩ := h; rfl) | (obtain ⟨_, _, _, _, _, _, _, _, _, _, _, rfl, _⟩ := h; rfl) | (obtain ⟨_, _, _, _, _, _, _, _, _, _, _, _, rfl, _⟩ := h; rfl) | (obtain ⟨_, _, _, _, _, _, _, _, _, _, _, _, _, rfl, _⟩ := h; rfl) | (obtain ⟨_, _, _, _, _, _, _, _, _, _, _, _, _, _, rfl, _⟩ := h; rfl) | (obtain ⟨_, _, _, _, _, _, _, _, _, _, _, _, _, _, _, rfl, _⟩ := h; rfl)
  · have hu := hu_of hr
    exact pss_cons (ps_set (i := 1) sc_Chain_keys_in.nd rfl (by first | exact Or.inl rfl | exact Or.inr rfl) (pe_lst (pa_nil)))
      (pss_cons (ps_set (i := 2) sc_Chain_keys_in.nd rfl (by first | exact Or.inl rfl | exact Or.inr rfl) (pe_fld (pe_dget hu (pe_fld (pv 0) (by rfl)) (pe_int) (fun _ _ => rfl)) (by rfl)))
      (pss_cons (ps_while PassesOwn.never (pt_cmpR op_notNo (pv 2) (pe_non) (nomark _)) (pss_cons (ps_expr (pe_bm PySem.F.plainAttrs_list PySem.F.slot_list_append PySem.F.type_list_append mt_append (pv 1) (pa_cons (pe_fld (pe_dget hu (pe_fld (pv 0) (by rfl)) (pv 2) (fun _ _ => rfl)) (by rfl)) (pa_nil))))
      (pss_one (ps_set (i := 2) sc_Chain_keys_in.nd rfl (by first | exact Or.inl rfl | exact Or.inr rfl) (pe_fld (pe_dget hu (pe_fld (pv 0) (by rfl)) (pv 2) (fun _ _ => rfl)) (by rfl))))))
      (pss_one (ps_ret (pv 1)))))
  · exact pure_keys_in ⟨T.cl_Chain, T.na_Chain_hands, T.na_Chain_links, T.na_Chain_made, T.na_Chain_era, T.na_Chain_inside, T.na_Chain_at, T.na_Chain_waits, T.cl_Link, T.na_Link_key, T.na_Link_after⟩ h
set_option maxHeartbeats 8000000 in
theorem ok_Chain__Chain_put (T : Txt K mg D) : FnOk P w K mg base CX0 4 D.f_Chain_put D.d_Chain_put ["self", "key"] (sp_chput D.c_Chain D.c_Link) := by
  have G_Chain__Chain_has : FnOk P w K mg base CX0 3 D.f_Chain_has D.d_Chain_has ["self", "key"] (sp_chhas D.c_Chain D.c_Link) := ok_Chain__Chain_has T
  have G_Chain__Chain_place_of : FnOk P w K mg base CX0 1 D.f_Chain_place_of D.d_Chain_place_of ["self", "key"] (sp_place_of D.c_Chain D.c_Link) := ok_Chain__Chain_place_of T
  have G_mk_Link : FnOk P w K mg base CX0 1 D.f_Link_init D.d_Link_init ["self", "key", "after"] (sp_lkinit D.c_Link) := ok_mk_Link T
  refine T.F_Chain_put.ok sc_Chain_put (fun vs H Q E h => ?_) (fun cdv A outer s H vs Q E hr h => ⟨t_Chain_put K D.c_Chain D.c_Link (sp_chhas D.c_Chain D.c_Link) (sp_place_of D.c_Chain D.c_Link) (sp_lkinit D.c_Link), ?_, ?_⟩)
  · first | (obtain ⟨_, rfl, _⟩ := h; rfl) | (obtain ⟨_, _, rfl, _⟩ := h; rfl) | (obtain ⟨_, _, _, rfl, _⟩ := h; rfl) | (obtain ⟨_, _, _, _, rfl, _⟩ := h; rfl) | (obtain ⟨_, _, _, _, _, rfl, _⟩ := h; rfl) | (obtain ⟨_, _, _, _, _, _, rfl, _⟩ := h; rfl) | (obtain ⟨_, _, _, _, _, _, _, rfl, _⟩ := h; rfl) | (obtain ⟨_, _, _, _, _, _, _, _, rfl, _⟩ := h; rfl) | (obtain ⟨_, _, _, _, _, _, _, _, _, rfl, _⟩ := h; rfl) | (obtain ⟨_, _, _, _, _, _, _, _, _, _, rfl, _⟩ := h; rfl) | (obtain ⟨_, _, _, _, _, _, _, _, _, _, _, rfl, _⟩ := h; rfl) | (obtain ⟨_, _, _, _, _, _, _, _, _, _, _, _, rfl, _⟩ := h; rfl) | (obtain ⟨_, _, _, _, _, _, _, _, _, _, _, _, _, rfl, _⟩ := h; rfl) | (obtain ⟨_, _, _, _, _, _, _, _, _, _, _, _, _, _, rfl, _⟩ := h; rfl) | (obtain ⟨_, _, _, _, _, _, _, _, _, _, _, _, _, _, _, rfl, _⟩ := h; rfl)
  · have hu := hu_of hr
    exact pss_cons (ps_if (pt_val (pe_meth (pv 0) T.cl_Chain T.me_Chain_has G_Chain__Chain_has (hr.mono (by decide)) T.b_Chain_has .nil pass0 (pa_cons (pv 1) (pa_nil)))) (pss_one (ps_ret (pe_bl))) (pss_nil))
      (pss_cons (ps_set (i := 2) sc_Chain_put.nd rfl (by first | exact Or.inl rfl | exact Or.inr rfl) (pe_dget hu (pe_fld (pv 0) (by rfl)) (pe_meth (pv 0) T.cl_Chain T.me_Chain_place_of G_Chain__Chain_place_of (hr.mono (by decide)) T.b_Chain_place_of .nil pass0 (pa_cons (pv 1) (pa_nil))) (fun _ _ => rfl)))
      (pss_cons (ps_dput hu (pe_fld (pv 0) (by rfl)) (pe_fld (pv 0) (by rfl)) (pe_make T.mk_Link G_mk_Link (hr.mono (by decide)) (by rfl) T.g_Link T.b_Link_init .nil pass0 (pa_cons (pv 1) (pa_cons (pe_fld (pv 2) (by rfl)) (pa_nil)))) (by rfl))
      (pss_cons (ps_fld (pv 2) (pe_fld (pv 0) (by rfl)) (by rfl))
      (pss_cons (ps_fld (pv 0) (pe_op op_addI (pe_fld (pv 0) (by rfl)) (pe_int)) (by rfl))
      (pss_one (ps_ret (pe_bl)))))))
  · exact pure_chput ⟨T.cl_Chain, T.na_Chain_hands, T.na_Chain_links, T.na_Chain_made, T.na_Chain_era, T.na_Chain_inside, T.na_Chain_at, T.na_Chain_waits, T.cl_Link, T.na_Link_key, T.na_Link_after⟩ h
set_option maxHeartbeats 8000000 in
theorem ok__law_tell (T : Txt K mg D) : FnOk P w K mg base CX0 6 D.f__law_tell D.d__law_tell ["kind", "some", "what"] (sp__law_tell D.c_Rounds D.c_Marks D.c_Counts D.c_Versions D.c_Chain D.c_Link) := by
  have G_Rounds__Rounds_go_on : FnOk P w K mg base CX0 2 D.f_Rounds_go_on D.d_Rounds_go_on ["self"] (sp_go_on D.c_Rounds) := ok_Rounds__Rounds_go_on T
  have G_Rounds__Store_now : FnOk P w K mg base CX0 1 D.f_Store_now D.d_Store_now ["self"] (sp_now D.c_Rounds) := ok_Rounds__Store_now T
  have G_Rounds__Store_kept : FnOk P w K mg base CX0 1 D.f_Store_kept D.d_Store_kept ["self"] (sp_kept D.c_Rounds) := ok_Rounds__Store_kept T
  have G_Rounds__Store_swap : FnOk P w K mg base CX0 3 D.f_Store_swap D.d_Store_swap ["self", "cell", "value"] (sp_swapR D.c_Rounds) := ok_Rounds__Store_swap T
  have G_Marks__Store_kept : FnOk P w K mg base CX0 1 D.f_Store_kept D.d_Store_kept ["self"] (sp_kept D.c_Marks) := ok_Marks__Store_kept T
  have G_Marks__Marks_sweep : FnOk P w K mg base CX0 2 D.f_Marks_sweep D.d_Marks_sweep ["self"] (sp_sweep D.c_Marks) := ok_Marks__Marks_sweep T
  have G_Marks__Marks_marked : FnOk P w K mg base CX0 1 D.f_Marks_marked D.d_Marks_marked ["self"] (sp_marked D.c_Marks) := ok_Marks__Marks_marked T
  have G_Marks__Store_swap : FnOk P w K mg base CX0 3 D.f_Store_swap D.d_Store_swap ["self", "cell", "value"] (sp_swapM D.c_Marks) := ok_Marks__Store_swap T
  have G_Marks__Marks_set_mark : FnOk P w K mg base CX0 5 D.f_Marks_set_mark D.d_Marks_set_mark ["self", "hand", "mark"] (sp_set_mark D.c_Marks) := ok_Marks__Marks_set_mark T
  have G_Marks__Marks_fetch : FnOk P w K mg base CX0 4 D.f_Marks_fetch D.d_Marks_fetch ["self", "hand", "mark", "cell"] (sp_fetch D.c_Marks) := ok_Marks__Marks_fetch T
  have G_Counts__Store_kept : FnOk P w K mg base CX0 1 D.f_Store_kept D.d_Store_kept ["self"] (sp_kept D.c_Counts) := ok_Counts__Store_kept T
  have G_Counts__Counts_holds : FnOk P w K mg base CX0 3 D.f_Counts_holds D.d_Counts_holds ["self", "hand"] (sp_holds D.c_Counts) := ok_Counts__Counts_holds T
  have G_Counts__Store_swap : FnOk P w K mg base CX0 4 D.f_Store_swap D.d_Store_swap ["self", "cell", "value"] (sp_swapC D.c_Counts) := ok_Counts__Store_swap T
  have G_Counts__Counts_hold : FnOk P w K mg base CX0 3 D.f_Counts_hold D.d_Counts_hold ["self", "hand", "cell"] (sp_hold D.c_Counts) := ok_Counts__Counts_hold T
  have G_Versions__Versions_version_now : FnOk P w K mg base CX0 1 D.f_Versions_version_now D.d_Versions_version_now ["self"] (sp_version_now D.c_Versions) := ok_Versions__Versions_version_now T
  have G_Versions__Versions_trim : FnOk P w K mg base CX0 1 D.f_Versions_trim D.d_Versions_trim ["self"] (sp_vtrim D.c_Versions) := ok_Versions__Versions_trim T
  have G_Versions__Versions_kept : FnOk P w K mg base CX0 3 D.f_Versions_kept D.d_Versions_kept ["self", "cell"] (sp_vkept D.c_Versions) := ok_Versions__Versions_kept T
  have G_Versions__Versions_now : FnOk P w K mg base CX0 1 D.f_Versions_now D.d_Versions_now ["self"] (sp_vnow D.c_Versions) := ok_Versions__Versions_now T
  have G_Versions__Versions_write : FnOk P w K mg base CX0 3 D.f_Versions_write D.d_Versions_write ["self", "pairs"] (sp_vwrite D.c_Versions) := ok_Versions__Versions_write T
  have G_Chain__Chain_go_on : FnOk P w K mg base CX0 1 D.f_Chain_go_on D.d_Chain_go_on ["self"] (sp_chgo D.c_Chain D.c_Link) := ok_Chain__Chain_go_on T
  have G_Chain__Chain_len : FnOk P w K mg base CX0 1 D.f_Chain_len D.d_Chain_len ["self"] (sp_chlen D.c_Chain D.c_Link) := ok_Chain__Chain_len T
  have G_Chain__Chain_take_out : FnOk P w K mg base CX0 4 D.f_Chain_take_out D.d_Chain_take_out ["self", "key"] (sp_chout D.c_Chain D.c_Link) := ok_Chain__Chain_take_out T
  have G_Chain__Chain_keys_in : FnOk P w K mg base CX0 1 D.f_Chain_keys_in D.d_Chain_keys_in ["self"] (sp_keys_in D.c_Chain D.c_Link) := ok_Chain__Chain_keys_in T
  have G_Chain__Chain_put : FnOk P w K mg base CX0 4 D.f_Chain_put D.d_Chain_put ["self", "key"] (sp_chput D.c_Chain D.c_Link) := ok_Chain__Chain_put T
  refine T.F__law_tell.ok sc__law_tell (fun vs H Q E h => ?_) (fun cdv A outer s H vs Q E hr h => ⟨t__law_tell K D.c_Rounds D.c_Marks D.c_Counts D.c_Versions D.c_Chain (sp_go_on D.c_Rounds) (sp_now D.c_Rounds) (sp_kept D.c_Rounds) (sp_swapR D.c_Rounds) (sp_kept D.c_Marks) (sp_sweep D.c_Marks) (sp_marked D.c_Marks) (sp_swapM D.c_Marks) (sp_set_mark D.c_Marks) (sp_fetch D.c_Marks) (sp_kept D.c_Counts) (sp_holds D.c_Counts) (sp_swapC D.c_Counts) (sp_hold D.c_Counts) (sp_version_now D.c_Versions) (sp_vtrim D.c_Versions) (sp_vkept D.c_Versions) (sp_vnow D.c_Versions) (sp_vwrite D.c_Versions) (sp_chgo D.c_Chain D.c_Link) (sp_chlen D.c_Chain D.c_Link) (sp_chout D.c_Chain D.c_Link) (sp_keys_in D.c_Chain D.c_Link) (sp_chput D.c_Chain D.c_Link), ?_, ?_⟩)
  · first | (obtain ⟨_, rfl, _⟩ := h; rfl) | (obtain ⟨_, _, rfl, _⟩ := h; rfl) | (obtain ⟨_, _, _, rfl, _⟩ := h; rfl) | (obtain ⟨_, _, _, _, rfl, _⟩ := h; rfl) | (obtain ⟨_, _, _, _, _, rfl, _⟩ := h; rfl) | (obtain ⟨_, _, _, _, _, _, rfl, _⟩ := h; rfl) | (obtain ⟨_, _, _, _, _, _, _, rfl, _⟩ := h; rfl) | (obtain ⟨_, _, _, _, _, _, _, _, rfl, _⟩ := h; rfl) | (obtain ⟨_, _, _, _, _, _, _, _, _, rfl, _⟩ := h; rfl) | (obtain ⟨_, _, _, _, _, _, _, _, _, _, rfl, _⟩ := h; rfl) | (obtain ⟨_, _, _, _, _, _, _, _, _, _, _, rfl, _⟩ := h; rfl) | (obtain ⟨_, _, _, _, _, _, _, _, _, _, _, _, rfl, _⟩ := h; rfl) | (obtain ⟨_, _, _, _, _, _, _, _, _, _, _, _, _, rfl, _⟩ := h; rfl) | (obtain ⟨_, _, _, _, _, _, _, _, _, _, _, _, _, _, rfl, _⟩ := h; rfl) | (obtain ⟨_, _, _, _, _, _, _, _, _, _, _, _, _, _, _, rfl, _⟩ := h; rfl)
  · have hu := hu_of hr
    exact pss_cons (ps_if (pt_cmpR op_eq (pv 0) (pe_int) (nomark _)) (pss_one (ps_ret (pe_lst (pa_cons (pe_meth (pv 1) T.cl_Rounds T.me_Rounds_swap G_Rounds__Store_swap (hr.mono (by decide)) T.b_Store_swap .nil pass0 (pa_cons (pe_int) (pa_cons (pv 2) (pa_nil)))) (pa_cons (pe_meth0 (pv 1) T.cl_Rounds T.me_Rounds_kept G_Rounds__Store_kept (hr.mono (by decide)) T.b_Store_kept .nil pass0) (pa_cons (pe_meth0 (pv 1) T.cl_Rounds T.me_Rounds_now G_Rounds__Store_now (hr.mono (by decide)) T.b_Store_now .nil pass0) (pa_cons (pe_meth0 (pv 1) T.cl_Rounds T.me_Rounds_go_on G_Rounds__Rounds_go_on (hr.mono (by decide)) T.b_Rounds_go_on .nil pass0) (pa_nil)))))))) (pss_nil))
      (pss_cons (ps_if (pt_cmpR op_eq (pv 0) (pe_int) (nomark _)) (pss_one (ps_ret (pe_lst (pa_cons (pe_meth (pv 1) T.cl_Marks T.me_Marks_fetch G_Marks__Marks_fetch (hr.mono (by decide)) T.b_Marks_fetch .nil pass0 (pa_cons (pe_int) (pa_cons (pe_int) (pa_cons (pe_int) (pa_nil))))) (pa_cons (pe_meth (pv 1) T.cl_Marks T.me_Marks_set_mark G_Marks__Marks_set_mark (hr.mono (by decide)) T.b_Marks_set_mark .nil pass0 (pa_cons (pe_int) (pa_cons (pe_int) (pa_nil)))) (pa_cons (pe_meth (pv 1) T.cl_Marks T.me_Marks_swap G_Marks__Store_swap (hr.mono (by decide)) T.b_Store_swap .nil pass0 (pa_cons (pe_int) (pa_cons (pv 2) (pa_nil)))) (pa_cons (pe_meth0 (pv 1) T.cl_Marks T.me_Marks_marked G_Marks__Marks_marked (hr.mono (by decide)) T.b_Marks_marked .nil pass0) (pa_cons (pe_meth0 (pv 1) T.cl_Marks T.me_Marks_sweep G_Marks__Marks_sweep (hr.mono (by decide)) T.b_Marks_sweep .nil pass0) (pa_cons (pe_meth0 (pv 1) T.cl_Marks T.me_Marks_kept G_Marks__Store_kept (hr.mono (by decide)) T.b_Store_kept .nil pass0) (pa_nil)))))))))) (pss_nil))
      (pss_cons (ps_if (pt_cmpR op_eq (pv 0) (pe_int) (nomark _)) (pss_one (ps_ret (pe_lst (pa_cons (pe_meth (pv 1) T.cl_Counts T.me_Counts_hold G_Counts__Counts_hold (hr.mono (by decide)) T.b_Counts_hold .nil pass0 (pa_cons (pe_int) (pa_cons (pe_int) (pa_nil)))) (pa_cons (pe_meth (pv 1) T.cl_Counts T.me_Counts_swap G_Counts__Store_swap (hr.mono (by decide)) T.b_Store_swap .nil pass0 (pa_cons (pe_int) (pa_cons (pv 2) (pa_nil)))) (pa_cons (pe_meth (pv 1) T.cl_Counts T.me_Counts_holds G_Counts__Counts_holds (hr.mono (by decide)) T.b_Counts_holds .nil pass0 (pa_cons (pe_int) (pa_nil))) (pa_cons (pe_meth0 (pv 1) T.cl_Counts T.me_Counts_kept G_Counts__Store_kept (hr.mono (by decide)) T.b_Store_kept .nil pass0) (pa_nil)))))))) (pss_nil))
      (pss_cons (ps_if (pt_cmpR op_eq (pv 0) (pe_int) (nomark _)) (pss_one (ps_ret (pe_lst (pa_cons (pe_meth (pv 1) T.cl_Versions T.me_Versions_write G_Versions__Versions_write (hr.mono (by decide)) T.b_Versions_write .nil pass0 (pa_cons (pe_lst (pa_cons (pe_tup (pa_cons (pe_int) (pa_cons (pv 2) (pa_nil)))) (pa_nil))) (pa_nil))) (pa_cons (pe_meth0 (pv 1) T.cl_Versions T.me_Versions_now G_Versions__Versions_now (hr.mono (by decide)) T.b_Versions_now .nil pass0) (pa_cons (pe_meth (pv 1) T.cl_Versions T.me_Versions_kept G_Versions__Versions_kept (hr.mono (by decide)) T.b_Versions_kept .nil pass0 (pa_cons (pe_int) (pa_nil))) (pa_cons (pe_meth0 (pv 1) T.cl_Versions T.me_Versions_trim G_Versions__Versions_trim (hr.mono (by decide)) T.b_Versions_trim .nil pass0) (pa_cons (pe_meth0 (pv 1) T.cl_Versions T.me_Versions_version_now G_Versions__Versions_version_now (hr.mono (by decide)) T.b_Versions_version_now .nil pass0) (pa_nil))))))))) (pss_nil))
      (pss_one (ps_ret (pe_lst (pa_cons (pe_meth (pv 1) T.cl_Chain T.me_Chain_put G_Chain__Chain_put (hr.mono (by decide)) T.b_Chain_put .nil pass0 (pa_cons (pv 2) (pa_nil))) (pa_cons (pe_meth0 (pv 1) T.cl_Chain T.me_Chain_keys_in G_Chain__Chain_keys_in (hr.mono (by decide)) T.b_Chain_keys_in .nil pass0) (pa_cons (pe_meth (pv 1) T.cl_Chain T.me_Chain_take_out G_Chain__Chain_take_out (hr.mono (by decide)) T.b_Chain_take_out .nil pass0 (pa_cons (pe_op op_subI (pv 2) (pe_op op_modI (pv 2) (pe_int))) (pa_nil))) (pa_cons (pe_callB (call_lenO G_Chain__Chain_len (hr.mono (by decide)) T.me_Chain___len__ T.b_Chain_len pass0) (by rfl) T.m_len PySem.boot_len (pa_cons (pv 1) (pa_nil))) (pa_cons (pe_meth0 (pv 1) T.cl_Chain T.me_Chain_go_on G_Chain__Chain_go_on (hr.mono (by decide)) T.b_Chain_go_on .nil pass0) (pa_nil))))))))))))
  · exact pure__law_tell h
set_option maxHeartbeats 8000000 in
theorem ok_law (T : Txt K mg D) : FnOk P w K mg base CX0 7 D.f_law D.d_law ["script"] (sp_law K) := by
  have G__law_town : FnOk P w K mg base CX0 1 D.f__law_town D.d__law_town ["script"] (sp__law_town K) := ok__law_town T
  have G__law_draw : FnOk P w K mg base CX0 1 D.f__law_draw D.d__law_draw ["town", "many"] (sp__law_draw) := ok__law_draw T
  have G__law_made : FnOk P w K mg base CX0 6 D.f__law_made D.d__law_made ["kind"] (sp__law_made D.c_Rounds D.c_Marks D.c_Counts D.c_Versions D.c_Chain D.c_Link) := ok__law_made T
  have G__law_value : FnOk P w K mg base CX0 3 D.f__law_value D.d__law_value ["town"] (sp__law_value) := ok__law_value T
  have G__law_tell : FnOk P w K mg base CX0 6 D.f__law_tell D.d__law_tell ["kind", "some", "what"] (sp__law_tell D.c_Rounds D.c_Marks D.c_Counts D.c_Versions D.c_Chain D.c_Link) := ok__law_tell T
  refine T.F_law.ok sc_law (fun vs H Q E h => ?_) (fun cdv A outer s H vs Q E hr h => ⟨t_law K (sp__law_town K) (sp__law_draw) (sp__law_made D.c_Rounds D.c_Marks D.c_Counts D.c_Versions D.c_Chain D.c_Link) (sp__law_value) (sp__law_tell D.c_Rounds D.c_Marks D.c_Counts D.c_Versions D.c_Chain D.c_Link), ?_, ?_⟩)
  · first | (obtain ⟨_, rfl, _⟩ := h; rfl) | (obtain ⟨_, _, rfl, _⟩ := h; rfl) | (obtain ⟨_, _, _, rfl, _⟩ := h; rfl) | (obtain ⟨_, _, _, _, rfl, _⟩ := h; rfl) | (obtain ⟨_, _, _, _, _, rfl, _⟩ := h; rfl) | (obtain ⟨_, _, _, _, _, _, rfl, _⟩ := h; rfl) | (obtain ⟨_, _, _, _, _, _, _, rfl, _⟩ := h; rfl) | (obtain ⟨_, _, _, _, _, _, _, _, rfl, _⟩ := h; rfl) | (obtain ⟨_, _, _, _, _, _, _, _, _, rfl, _⟩ := h; rfl) | (obtain ⟨_, _, _, _, _, _, _, _, _, _, rfl, _⟩ := h; rfl) | (obtain ⟨_, _, _, _, _, _, _, _, _, _, _, rfl, _⟩ := h; rfl) | (obtain ⟨_, _, _, _, _, _, _, _, _, _, _, _, rfl, _⟩ := h; rfl) | (obtain ⟨_, _, _, _, _, _, _, _, _, _, _, _, _, rfl, _⟩ := h; rfl) | (obtain ⟨_, _, _, _, _, _, _, _, _, _, _, _, _, _, rfl, _⟩ := h; rfl) | (obtain ⟨_, _, _, _, _, _, _, _, _, _, _, _, _, _, _, rfl, _⟩ := h; rfl)
  · have hu := hu_of hr
    exact pss_cons (ps_set (i := 1) sc_law.nd rfl (by first | exact Or.inl rfl | exact Or.inr rfl) (pe_call G__law_town (hr.mono (by decide)) (by rfl) T.g__law_town T.F__law_town.kp T.b__law_town .nil pass0 (pa_cons (pv 0) (pa_nil))))
      (pss_cons (ps_set (i := 2) sc_law.nd rfl (by first | exact Or.inl rfl | exact Or.inr rfl) (pe_call G__law_draw (hr.mono (by decide)) (by rfl) T.g__law_draw T.F__law_draw.kp T.b__law_draw .nil pass0 (pa_cons (pv 1) (pa_cons (pe_int) (pa_nil)))))
      (pss_cons (ps_set (i := 3) sc_law.nd rfl (by first | exact Or.inl rfl | exact Or.inr rfl) (pe_lst (pa_cons (pe_call G__law_made (hr.mono (by decide)) (by rfl) T.g__law_made T.F__law_made.kp T.b__law_made .nil pass0 (pa_cons (pv 2) (pa_nil))) (pa_cons (pe_call G__law_made (hr.mono (by decide)) (by rfl) T.g__law_made T.F__law_made.kp T.b__law_made .nil pass0 (pa_cons (pv 2) (pa_nil))) (pa_nil)))))
      (pss_cons (ps_set (i := 4) sc_law.nd rfl (by first | exact Or.inl rfl | exact Or.inr rfl) (pe_lst (pa_cons (pe_lst (pa_nil)) (pa_cons (pe_lst (pa_nil)) (pa_nil)))))
      (pss_cons (ps_set (i := 5) sc_law.nd rfl (by first | exact Or.inl rfl | exact Or.inr rfl) (pe_lst (pa_cons (pe_lst (pa_nil)) (pa_cons (pe_lst (pa_nil)) (pa_nil)))))
      (pss_cons (ps_for PassesOwn.never rfl (pi_range1 (by rfl) T.m_range (pa_cons (pe_int) (pa_nil))) (pg_name (i := 6) sc_law.nd rfl (by first | exact Or.inl rfl | exact Or.inr rfl)) (pss_cons (ps_set (i := 7) sc_law.nd rfl (by first | exact Or.inl rfl | exact Or.inr rfl) (pe_call G__law_draw (hr.mono (by decide)) (by rfl) T.g__law_draw T.F__law_draw.kp T.b__law_draw .nil pass0 (pa_cons (pv 1) (pa_cons (pe_int) (pa_nil)))))
      (pss_cons (ps_expr (pe_bm PySem.F.plainAttrs_list PySem.F.slot_list_append PySem.F.type_list_append mt_append (pe_ix ix_list (pv 4) (pv 7) (fun _ _ => rfl)) (pa_cons (pe_call G__law_value (hr.mono (by decide)) (by rfl) T.g__law_value T.F__law_value.kp T.b__law_value .nil pass0 (pa_cons (pv 1) (pa_nil))) (pa_nil))))
      (pss_cons (ps_set (i := 8) sc_law.nd rfl (by first | exact Or.inl rfl | exact Or.inr rfl) (pe_call G__law_tell (hr.mono (by decide)) (by rfl) T.g__law_tell T.F__law_tell.kp T.b__law_tell .nil pass0 (pa_cons (pv 2) (pa_cons (pe_ix ix_list (pv 3) (pv 7) (fun _ _ => rfl)) (pa_cons (pe_ix ix_list (pe_ix ix_list (pv 4) (pv 7) (fun _ _ => rfl)) (pe_un un_neg (pe_int)) (fun _ _ => rfl)) (pa_nil))))))
      (pss_cons (ps_expr (pe_bm PySem.F.plainAttrs_list PySem.F.slot_list_append PySem.F.type_list_append mt_append (pe_ix ix_list (pv 5) (pv 7) (fun _ _ => rfl)) (pa_cons (pe_lc (own := [("one", 9)]) (by rfl) sc_law.nd (pi_list (pv 8)) (blkOk_by (own := [("one", 9)]) (N := ["script", "town", "kind", "two", "whats", "tells", "turn", "k", "told", "one", "alone", "what"]) (sc := defScope s_law) (by decide +kernel)) (fun _ _ _ _ _ => pg_name (i := 9) sc_law.nd rfl (by first | exact Or.inl rfl | exact Or.inr rfl)) (fun _ _ _ _ _ => pts_nil) (fun _ _ _ _ _ => pe_ifExp (pt_val (pe_callB call_isi (by rfl) T.m_isinstance (by decide +kernel) (pa_cons (pv 9) (pa_cons (pe_bltn (v := .ty "list") (by rfl) T.m_list (by decide +kernel) rfl) (pa_nil))))) (pe_callTy call_listOf (by rfl) T.m_list (by decide +kernel) (pa_cons (pv 9) (pa_nil))) (pv 9))) (pa_nil))))
      (pss_one (ps_for PassesOwn.never rfl (pi_list (pv 8)) (pg_name (i := 9) sc_law.nd rfl (by first | exact Or.inl rfl | exact Or.inr rfl)) (pss_one (ps_if (pt_val (pe_callB call_isi (by rfl) T.m_isinstance (by decide +kernel) (pa_cons (pv 9) (pa_cons (pe_bltn (v := .ty "list") (by rfl) T.m_list (by decide +kernel) rfl) (pa_nil))))) (pss_cons (ps_expr (pe_bm PySem.F.plainAttrs_list PySem.F.slot_list_append PySem.F.type_list_append mt_append (pv 9) (pa_cons (pe_str) (pa_nil))))
      (pss_one (ps_expr (pe_bm PySem.F.plainAttrs_list PySem.F.slot_list_append PySem.F.type_list_append mt_append (pv 9) (pa_cons (pe_int) (pa_nil)))))) (pss_nil))))))))))
      (pss_cons (ps_for PassesOwn.never rfl (pi_range1 (by rfl) T.m_range (pa_cons (pe_int) (pa_nil))) (pg_name (i := 7) sc_law.nd rfl (by first | exact Or.inl rfl | exact Or.inr rfl)) (pss_cons (ps_set (i := 10) sc_law.nd rfl (by first | exact Or.inl rfl | exact Or.inr rfl) (pe_call G__law_made (hr.mono (by decide)) (by rfl) T.g__law_made T.F__law_made.kp T.b__law_made .nil pass0 (pa_cons (pv 2) (pa_nil))))
      (pss_one (ps_if (pt_cmpR (op_neD hr.units) (pe_lc (own := [("what", 11)]) (by rfl) sc_law.nd (pi_list (pe_ix ix_list (pv 4) (pv 7) (fun _ _ => rfl))) (blkOk_by (own := [("what", 11)]) (N := ["script", "town", "kind", "two", "whats", "tells", "turn", "k", "told", "one", "alone", "what"]) (sc := defScope s_law) (by decide +kernel)) (fun _ _ _ _ _ => pg_name (i := 11) sc_law.nd rfl (by first | exact Or.inl rfl | exact Or.inr rfl)) (fun _ _ _ _ _ => pts_nil) (fun _ _ _ _ _ => pe_call G__law_tell (hr.mono (by decide)) (by rfl) T.g__law_tell T.F__law_tell.kp T.b__law_tell .nil pass0 (pa_cons (pv 2) (pa_cons (pv 10) (pa_cons (pv 11) (pa_nil)))))) (pe_ix ix_list (pv 5) (pv 7) (fun _ _ => rfl)) (nomark _)) (pss_one (ps_ret (pe_bl))) (pss_nil)))))
      (pss_one (ps_ret (pe_bl)))))))))
  · exact pure_law h
end
theorem all_mk {l : PySem.W.OpenLaw} {w : World} {K : PySem.W.Frag} {h : Heap} {mg : Str → Option Value} {fa c_Rounds c_Store c_Marks c_Counts c_Versions c_Link c_Chain f__law_town f__law_draw f_is_whole f_look_number f_Store_init f_Rounds_init f_Marks_init f_Counts_init f_Versions_init f_Link_init f_Chain_init f__law_made f__law_pick f__law_value f_Store_let_go f_Rounds_go_on f_Store_now f_Store_kept f_Store_look_cell f_Rounds_after_swap f_Store_swap f_Marks_marked f_Marks_sweep f_Marks_after_swap f_Store_look_hand f_Marks_look_mark f_Marks_state_of f_Marks_set_mark f_Marks_fetch f_Counts_holds f_Counts_count_of f_Store_is_out f_Counts_loose f_Counts_after_swap f_Counts_hold f_Versions_version_now f_Versions_trim f_Versions_look_cell f_Versions_kept f_Versions_now f_Versions_look_pairs f_Versions_write f_Chain_go_on f_Chain_len f_Chain_place_of f_Chain_has f_Chain_take_out f_Chain_keys_in f_Chain_put f__law_tell f_law : Addr} (X : K.In h) (G : h.Ns mainGlobals mg) (hfa : mg "law" = some (.ref fa))
    {od__law_town an__law_town od__law_draw an__law_draw od_is_whole an_is_whole od_look_number an_look_number od_Store_init an_Store_init od_Rounds_init an_Rounds_init od_Marks_init an_Marks_init od_Counts_init an_Counts_init od_Versions_init an_Versions_init od_Link_init an_Link_init od_Chain_init an_Chain_init od__law_made an__law_made od__law_pick an__law_pick od__law_value an__law_value od_Store_let_go an_Store_let_go od_Rounds_go_on an_Rounds_go_on od_Store_now an_Store_now od_Store_kept an_Store_kept od_Store_look_cell an_Store_look_cell od_Rounds_after_swap an_Rounds_after_swap od_Store_swap an_Store_swap od_Marks_marked an_Marks_marked od_Marks_sweep an_Marks_sweep od_Marks_after_swap an_Marks_after_swap od_Store_look_hand an_Store_look_hand od_Marks_look_mark an_Marks_look_mark od_Marks_state_of an_Marks_state_of od_Marks_set_mark an_Marks_set_mark od_Marks_fetch an_Marks_fetch od_Counts_holds an_Counts_holds od_Counts_count_of an_Counts_count_of od_Store_is_out an_Store_is_out od_Counts_loose an_Counts_loose od_Counts_after_swap an_Counts_after_swap od_Counts_hold an_Counts_hold od_Versions_version_now an_Versions_version_now od_Versions_trim an_Versions_trim od_Versions_look_cell an_Versions_look_cell od_Versions_kept an_Versions_kept od_Versions_now an_Versions_now od_Versions_look_pairs an_Versions_look_pairs od_Versions_write an_Versions_write od_Chain_go_on an_Chain_go_on od_Chain_len an_Chain_len od_Chain_place_of an_Chain_place_of od_Chain_has an_Chain_has od_Chain_take_out an_Chain_take_out od_Chain_keys_in an_Chain_keys_in od_Chain_put an_Chain_put od__law_tell an__law_tell od_law an_law : Option Addr} {sl__law_town sl__law_draw sl_is_whole sl_look_number sl_Store_init sl_Rounds_init sl_Marks_init sl_Counts_init sl_Versions_init sl_Link_init sl_Chain_init sl__law_made sl__law_pick sl__law_value sl_Store_let_go sl_Rounds_go_on sl_Store_now sl_Store_kept sl_Store_look_cell sl_Rounds_after_swap sl_Store_swap sl_Marks_marked sl_Marks_sweep sl_Marks_after_swap sl_Store_look_hand sl_Marks_look_mark sl_Marks_state_of sl_Marks_set_mark sl_Marks_fetch sl_Counts_holds sl_Counts_count_of sl_Store_is_out sl_Counts_loose sl_Counts_after_swap sl_Counts_hold sl_Versions_version_now sl_Versions_trim sl_Versions_look_cell sl_Versions_kept sl_Versions_now sl_Versions_look_pairs sl_Versions_write sl_Chain_go_on sl_Chain_len sl_Chain_place_of sl_Chain_has sl_Chain_take_out sl_Chain_keys_in sl_Chain_put sl__law_tell sl_law : Array (Option Value)} {oc__law_town kV__law_town dc__law_town pm__law_town cd__law_town ct__law_town oc__law_draw kV__law_draw dc__law_draw pm__law_draw cd__law_draw ct__law_draw oc_is_whole kV_is_whole dc_is_whole pm_is_whole cd_is_whole ct_is_whole oc_look_number kV_look_number dc_look_number pm_look_number cd_look_number ct_look_number oc_Store_init kV_Store_init dc_Store_init pm_Store_init cd_Store_init ct_Store_init oc_Rounds_init kV_Rounds_init dc_Rounds_init pm_Rounds_init cd_Rounds_init ct_Rounds_init oc_Marks_init kV_Marks_init dc_Marks_init pm_Marks_init cd_Marks_init ct_Marks_init oc_Counts_init kV_Counts_init dc_Counts_init pm_Counts_init cd_Counts_init ct_Counts_init oc_Versions_init kV_Versions_init dc_Versions_init pm_Versions_init cd_Versions_init ct_Versions_init oc_Link_init kV_Link_init dc_Link_init pm_Link_init cd_Link_init ct_Link_init oc_Chain_init kV_Chain_init dc_Chain_init pm_Chain_init cd_Chain_init ct_Chain_init oc__law_made kV__law_made dc__law_made pm__law_made cd__law_made ct__law_made oc__law_pick kV__law_pick dc__law_pick pm__law_pick cd__law_pick ct__law_pick oc__law_value kV__law_value dc__law_value pm__law_value cd__law_value ct__law_value oc_Store_let_go kV_Store_let_go dc_Store_let_go pm_Store_let_go cd_Store_let_go ct_Store_let_go oc_Rounds_go_on kV_Rounds_go_on dc_Rounds_go_on pm_Rounds_go_on cd_Rounds_go_on ct_Rounds_go_on oc_Store_now kV_Store_now dc_Store_now pm_Store_now cd_Store_now ct_Store_now oc_Store_kept kV_Store_kept dc_Store_kept pm_Store_kept cd_Store_kept ct_Store_kept oc_Store_look_cell kV_Store_look_cell dc_Store_look_cell pm_Store_look_cell cd_Store_look_cell ct_Store_look_cell oc_Rounds_after_swap kV_Rounds_after_swap dc_Rounds_after_swap pm_Rounds_after_swap cd_Rounds_after_swap ct_Rounds_after_swap oc_Store_swap kV_Store_swap dc_Store_swap pm_Store_swap cd_Store_swap ct_Store_swap oc_Marks_marked kV_Marks_marked dc_Marks_marked pm_Marks_marked cd_Marks_marked ct_Marks_marked oc_Marks_sweep kV_Marks_sweep dc_Marks_sweep pm_Marks_sweep cd_Marks_sweep ct_Marks_sweep oc_Marks_after_swap kV_Marks_after_swap dc_Marks_after_swap pm_Marks_after_swap cd_Marks_after_swap ct_Marks_after_swap oc_Store_look_hand kV_Store_look_hand dc_Store_look_hand pm_Store_look_hand cd_Store_look_hand ct_Store_look_hand oc_Marks_look_mark kV_Marks_look_mark dc_Marks_look_mark pm_Marks_look_mark cd_Marks_look_mark ct_Marks_look_mark oc_Marks_state_of kV_Marks_state_of dc_Marks_state_of pm_Marks_state_of cd_Marks_state_of ct_Marks_state_of oc_Marks_set_mark kV_Marks_set_mark dc_Marks_set_mark pm_Marks_set_mark cd_Marks_set_mark ct_Marks_set_mark oc_Marks_fetch kV_Marks_fetch dc_Marks_fetch pm_Marks_fetch cd_Marks_fetch ct_Marks_fetch oc_Counts_holds kV_Counts_holds dc_Counts_holds pm_Counts_holds cd_Counts_holds ct_Counts_holds oc_Counts_count_of kV_Counts_count_of dc_Counts_count_of pm_Counts_count_of cd_Counts_count_of ct_Counts_count_of oc_Store_is_out kV_Store_is_out dc_Store_is_out pm_Store_is_out cd_Store_is_out ct_Store_is_out oc_Counts_loose kV_Counts_loose dc_Counts_loose pm_Counts_loose cd_Counts_loose ct_Counts_loose oc_Counts_after_swap kV_Counts_after_swap dc_Counts_after_swap pm_Counts_after_swap cd_Counts_after_swap ct_Counts_after_swap oc_Counts_hold kV_Counts_hold dc_Counts_hold pm_Counts_hold cd_Counts_hold ct_Counts_hold oc_Versions_version_now kV_Versions_version_now dc_Versions_version_now pm_Versions_version_now cd_Versions_version_now ct_Versions_version_now oc_Versions_trim kV_Versions_trim dc_Versions_trim pm_Versions_trim cd_Versions_trim ct_Versions_trim oc_Versions_look_cell kV_Versions_look_cell dc_Versions_look_cell pm_Versions_look_cell cd_Versions_look_cell ct_Versions_look_cell oc_Versions_kept kV_Versions_kept dc_Versions_kept pm_Versions_kept cd_Versions_kept ct_Versions_kept oc_Versions_now kV_Versions_now dc_Versions_now pm_Versions_now cd_Versions_now ct_Versions_now oc_Versions_look_pairs kV_Versions_look_pairs dc_Versions_look_pairs pm_Versions_look_pairs cd_Versions_look_pairs ct_Versions_look_pairs oc_Versions_write kV_Versions_write dc_Versions_write pm_Versions_write cd_Versions_write ct_Versions_write oc_Chain_go_on kV_Chain_go_on dc_Chain_go_on pm_Chain_go_on cd_Chain_go_on ct_Chain_go_on oc_Chain_len kV_Chain_len dc_Chain_len pm_Chain_len cd_Chain_len ct_Chain_len oc_Chain_place_of kV_Chain_place_of dc_Chain_place_of pm_Chain_place_of cd_Chain_place_of ct_Chain_place_of oc_Chain_has kV_Chain_has dc_Chain_has pm_Chain_has cd_Chain_has ct_Chain_has oc_Chain_take_out kV_Chain_take_out dc_Chain_take_out pm_Chain_take_out cd_Chain_take_out ct_Chain_take_out oc_Chain_keys_in kV_Chain_keys_in dc_Chain_keys_in pm_Chain_keys_in cd_Chain_keys_in ct_Chain_keys_in oc_Chain_put kV_Chain_put dc_Chain_put pm_Chain_put cd_Chain_put ct_Chain_put oc__law_tell kV__law_tell dc__law_tell pm__law_tell cd__law_tell ct__law_tell oc_law kV_law dc_law pm_law cd_law ct_law : Value}
    {t_END t_MARKS t_MOST_CELLS t_MOST_HANDS_chains t_MOST_HANDS_stores t_MOST_KEY t_MOST_VALUE : Tok}
    {td_Versions_init : Addr} {toc_Versions_init : Value} {tod_Versions_init : Option Addr} {tn_Versions_init : Nat} {tsl_Versions_init : Array (Option Value)} {tt_Versions_init_0 : Tok}
    (aC_Rounds : PySem.W.nsIn K mainGlobals "Rounds" = some (some (.ref c_Rounds)))
    (pg_Rounds : PySem.W.plainGet K c_Rounds Str.empty = true)
    (hd_Rounds : PySem.W.hasDictIn K c_Rounds = true)
    (po_Rounds : PySem.W.plainOver K c_Rounds = true)
    (sa_Rounds : PySem.W.findIn K (.ref c_Rounds) "__setattr__" = some (some (.builtin "object.__setattr__")))
    (mk_Rounds : PySem.W.makesIn K c_Rounds = true)
    (kc_Rounds : PySem.W.keepIn K (.ref c_Rounds) = true)
    (ai_Rounds : PySem.W.findIn K (.ref c_Rounds) "__init__" = some (some (.ref f_Rounds_init)))
    (ii_Rounds : PySem.W.isFn K (.ref f_Rounds_init) = true)
    (na_Rounds_hands : PySem.W.findIn K (.ref c_Rounds) "hands" = some none)
    (na_Rounds_worth : PySem.W.findIn K (.ref c_Rounds) "worth" = some none)
    (na_Rounds_cells : PySem.W.findIn K (.ref c_Rounds) "cells" = some none)
    (na_Rounds_made : PySem.W.findIn K (.ref c_Rounds) "made" = some none)
    (na_Rounds_era : PySem.W.findIn K (.ref c_Rounds) "era" = some none)
    (na_Rounds_inside : PySem.W.findIn K (.ref c_Rounds) "inside" = some none)
    (na_Rounds_saw : PySem.W.findIn K (.ref c_Rounds) "saw" = some none)
    (na_Rounds_waits : PySem.W.findIn K (.ref c_Rounds) "waits" = some none)
    (aC_Store : PySem.W.nsIn K mainGlobals "Store" = some (some (.ref c_Store)))
    (pg_Store : PySem.W.plainGet K c_Store Str.empty = true)
    (hd_Store : PySem.W.hasDictIn K c_Store = true)
    (po_Store : PySem.W.plainOver K c_Store = true)
    (sa_Store : PySem.W.findIn K (.ref c_Store) "__setattr__" = some (some (.builtin "object.__setattr__")))
    (aC_Marks : PySem.W.nsIn K mainGlobals "Marks" = some (some (.ref c_Marks)))
    (pg_Marks : PySem.W.plainGet K c_Marks Str.empty = true)
    (hd_Marks : PySem.W.hasDictIn K c_Marks = true)
    (po_Marks : PySem.W.plainOver K c_Marks = true)
    (sa_Marks : PySem.W.findIn K (.ref c_Marks) "__setattr__" = some (some (.builtin "object.__setattr__")))
    (mk_Marks : PySem.W.makesIn K c_Marks = true)
    (kc_Marks : PySem.W.keepIn K (.ref c_Marks) = true)
    (ai_Marks : PySem.W.findIn K (.ref c_Marks) "__init__" = some (some (.ref f_Marks_init)))
    (ii_Marks : PySem.W.isFn K (.ref f_Marks_init) = true)
    (na_Marks_hands : PySem.W.findIn K (.ref c_Marks) "hands" = some none)
    (na_Marks_worth : PySem.W.findIn K (.ref c_Marks) "worth" = some none)
    (na_Marks_cells : PySem.W.findIn K (.ref c_Marks) "cells" = some none)
    (na_Marks_made : PySem.W.findIn K (.ref c_Marks) "made" = some none)
    (na_Marks_marks : PySem.W.findIn K (.ref c_Marks) "marks" = some none)
    (na_Marks_waits : PySem.W.findIn K (.ref c_Marks) "waits" = some none)
    (aC_Counts : PySem.W.nsIn K mainGlobals "Counts" = some (some (.ref c_Counts)))
    (pg_Counts : PySem.W.plainGet K c_Counts Str.empty = true)
    (hd_Counts : PySem.W.hasDictIn K c_Counts = true)
    (po_Counts : PySem.W.plainOver K c_Counts = true)
    (sa_Counts : PySem.W.findIn K (.ref c_Counts) "__setattr__" = some (some (.builtin "object.__setattr__")))
    (mk_Counts : PySem.W.makesIn K c_Counts = true)
    (kc_Counts : PySem.W.keepIn K (.ref c_Counts) = true)
    (ai_Counts : PySem.W.findIn K (.ref c_Counts) "__init__" = some (some (.ref f_Counts_init)))
    (ii_Counts : PySem.W.isFn K (.ref f_Counts_init) = true)
    (na_Counts_hands : PySem.W.findIn K (.ref c_Counts) "hands" = some none)
    (na_Counts_worth : PySem.W.findIn K (.ref c_Counts) "worth" = some none)
    (na_Counts_cells : PySem.W.findIn K (.ref c_Counts) "cells" = some none)
    (na_Counts_made : PySem.W.findIn K (.ref c_Counts) "made" = some none)
    (na_Counts_held : PySem.W.findIn K (.ref c_Counts) "held" = some none)
    (aC_Versions : PySem.W.nsIn K mainGlobals "Versions" = some (some (.ref c_Versions)))
    (pg_Versions : PySem.W.plainGet K c_Versions Str.empty = true)
    (hd_Versions : PySem.W.hasDictIn K c_Versions = true)
    (po_Versions : PySem.W.plainOver K c_Versions = true)
    (sa_Versions : PySem.W.findIn K (.ref c_Versions) "__setattr__" = some (some (.builtin "object.__setattr__")))
    (mk_Versions : PySem.W.makesIn K c_Versions = true)
    (kc_Versions : PySem.W.keepIn K (.ref c_Versions) = true)
    (ai_Versions : PySem.W.findIn K (.ref c_Versions) "__init__" = some (some (.ref f_Versions_init)))
    (ii_Versions : PySem.W.isFn K (.ref f_Versions_init) = true)
    (na_Versions_hands : PySem.W.findIn K (.ref c_Versions) "hands" = some none)
    (na_Versions_rows : PySem.W.findIn K (.ref c_Versions) "rows" = some none)
    (na_Versions_version : PySem.W.findIn K (.ref c_Versions) "version" = some none)
    (na_Versions_begun : PySem.W.findIn K (.ref c_Versions) "begun" = some none)
    (na_Versions_asked : PySem.W.findIn K (.ref c_Versions) "asked" = some none)
    (aC_Link : PySem.W.nsIn K mainGlobals "Link" = some (some (.ref c_Link)))
    (pg_Link : PySem.W.plainGet K c_Link Str.empty = true)
    (hd_Link : PySem.W.hasDictIn K c_Link = true)
    (po_Link : PySem.W.plainOver K c_Link = true)
    (sa_Link : PySem.W.findIn K (.ref c_Link) "__setattr__" = some (some (.builtin "object.__setattr__")))
    (mk_Link : PySem.W.makesIn K c_Link = true)
    (kc_Link : PySem.W.keepIn K (.ref c_Link) = true)
    (ai_Link : PySem.W.findIn K (.ref c_Link) "__init__" = some (some (.ref f_Link_init)))
    (ii_Link : PySem.W.isFn K (.ref f_Link_init) = true)
    (na_Link_key : PySem.W.findIn K (.ref c_Link) "key" = some none)
    (na_Link_after : PySem.W.findIn K (.ref c_Link) "after" = some none)
    (aC_Chain : PySem.W.nsIn K mainGlobals "Chain" = some (some (.ref c_Chain)))
    (pg_Chain : PySem.W.plainGet K c_Chain Str.empty = true)
    (hd_Chain : PySem.W.hasDictIn K c_Chain = true)
    (po_Chain : PySem.W.plainOver K c_Chain = true)
    (sa_Chain : PySem.W.findIn K (.ref c_Chain) "__setattr__" = some (some (.builtin "object.__setattr__")))
    (mk_Chain : PySem.W.makesIn K c_Chain = true)
    (kc_Chain : PySem.W.keepIn K (.ref c_Chain) = true)
    (ai_Chain : PySem.W.findIn K (.ref c_Chain) "__init__" = some (some (.ref f_Chain_init)))
    (ii_Chain : PySem.W.isFn K (.ref f_Chain_init) = true)
    (na_Chain_hands : PySem.W.findIn K (.ref c_Chain) "hands" = some none)
    (na_Chain_links : PySem.W.findIn K (.ref c_Chain) "links" = some none)
    (na_Chain_made : PySem.W.findIn K (.ref c_Chain) "made" = some none)
    (na_Chain_era : PySem.W.findIn K (.ref c_Chain) "era" = some none)
    (na_Chain_inside : PySem.W.findIn K (.ref c_Chain) "inside" = some none)
    (na_Chain_at : PySem.W.findIn K (.ref c_Chain) "at" = some none)
    (na_Chain_waits : PySem.W.findIn K (.ref c_Chain) "waits" = some none)
    (am_Rounds_let_go : PySem.W.findIn K (.ref c_Rounds) "let_go" = some (some (.ref f_Store_let_go)))
    (am_Rounds_go_on : PySem.W.findIn K (.ref c_Rounds) "go_on" = some (some (.ref f_Rounds_go_on)))
    (am_Rounds_now : PySem.W.findIn K (.ref c_Rounds) "now" = some (some (.ref f_Store_now)))
    (am_Rounds_kept : PySem.W.findIn K (.ref c_Rounds) "kept" = some (some (.ref f_Store_kept)))
    (am_Rounds_look_cell : PySem.W.findIn K (.ref c_Rounds) "look_cell" = some (some (.ref f_Store_look_cell)))
    (am_Rounds_after_swap : PySem.W.findIn K (.ref c_Rounds) "after_swap" = some (some (.ref f_Rounds_after_swap)))
    (am_Rounds_swap : PySem.W.findIn K (.ref c_Rounds) "swap" = some (some (.ref f_Store_swap)))
    (am_Marks_kept : PySem.W.findIn K (.ref c_Marks) "kept" = some (some (.ref f_Store_kept)))
    (am_Marks_marked : PySem.W.findIn K (.ref c_Marks) "marked" = some (some (.ref f_Marks_marked)))
    (am_Marks_let_go : PySem.W.findIn K (.ref c_Marks) "let_go" = some (some (.ref f_Store_let_go)))
    (am_Marks_sweep : PySem.W.findIn K (.ref c_Marks) "sweep" = some (some (.ref f_Marks_sweep)))
    (am_Marks_look_cell : PySem.W.findIn K (.ref c_Marks) "look_cell" = some (some (.ref f_Store_look_cell)))
    (am_Marks_after_swap : PySem.W.findIn K (.ref c_Marks) "after_swap" = some (some (.ref f_Marks_after_swap)))
    (am_Marks_swap : PySem.W.findIn K (.ref c_Marks) "swap" = some (some (.ref f_Store_swap)))
    (am_Marks_look_hand : PySem.W.findIn K (.ref c_Marks) "look_hand" = some (some (.ref f_Store_look_hand)))
    (am_Marks_look_mark : PySem.W.findIn K (.ref c_Marks) "look_mark" = some (some (.ref f_Marks_look_mark)))
    (am_Marks_state_of : PySem.W.findIn K (.ref c_Marks) "state_of" = some (some (.ref f_Marks_state_of)))
    (am_Marks_set_mark : PySem.W.findIn K (.ref c_Marks) "set_mark" = some (some (.ref f_Marks_set_mark)))
    (am_Marks_fetch : PySem.W.findIn K (.ref c_Marks) "fetch" = some (some (.ref f_Marks_fetch)))
    (am_Counts_kept : PySem.W.findIn K (.ref c_Counts) "kept" = some (some (.ref f_Store_kept)))
    (am_Counts_look_hand : PySem.W.findIn K (.ref c_Counts) "look_hand" = some (some (.ref f_Store_look_hand)))
    (am_Counts_holds : PySem.W.findIn K (.ref c_Counts) "holds" = some (some (.ref f_Counts_holds)))
    (am_Counts_look_cell : PySem.W.findIn K (.ref c_Counts) "look_cell" = some (some (.ref f_Store_look_cell)))
    (am_Counts_count_of : PySem.W.findIn K (.ref c_Counts) "count_of" = some (some (.ref f_Counts_count_of)))
    (am_Counts_is_out : PySem.W.findIn K (.ref c_Counts) "is_out" = some (some (.ref f_Store_is_out)))
    (am_Counts_let_go : PySem.W.findIn K (.ref c_Counts) "let_go" = some (some (.ref f_Store_let_go)))
    (am_Counts_loose : PySem.W.findIn K (.ref c_Counts) "loose" = some (some (.ref f_Counts_loose)))
    (am_Counts_after_swap : PySem.W.findIn K (.ref c_Counts) "after_swap" = some (some (.ref f_Counts_after_swap)))
    (am_Counts_swap : PySem.W.findIn K (.ref c_Counts) "swap" = some (some (.ref f_Store_swap)))
    (am_Counts_hold : PySem.W.findIn K (.ref c_Counts) "hold" = some (some (.ref f_Counts_hold)))
    (am_Versions_version_now : PySem.W.findIn K (.ref c_Versions) "version_now" = some (some (.ref f_Versions_version_now)))
    (am_Versions_trim : PySem.W.findIn K (.ref c_Versions) "trim" = some (some (.ref f_Versions_trim)))
    (am_Versions_look_cell : PySem.W.findIn K (.ref c_Versions) "look_cell" = some (some (.ref f_Versions_look_cell)))
    (am_Versions_kept : PySem.W.findIn K (.ref c_Versions) "kept" = some (some (.ref f_Versions_kept)))
    (am_Versions_now : PySem.W.findIn K (.ref c_Versions) "now" = some (some (.ref f_Versions_now)))
    (am_Versions_look_pairs : PySem.W.findIn K (.ref c_Versions) "look_pairs" = some (some (.ref f_Versions_look_pairs)))
    (am_Versions_write : PySem.W.findIn K (.ref c_Versions) "write" = some (some (.ref f_Versions_write)))
    (am_Chain_go_on : PySem.W.findIn K (.ref c_Chain) "go_on" = some (some (.ref f_Chain_go_on)))
    (am_Chain___len__ : PySem.W.findIn K (.ref c_Chain) "__len__" = some (some (.ref f_Chain_len)))
    (am_Chain_place_of : PySem.W.findIn K (.ref c_Chain) "place_of" = some (some (.ref f_Chain_place_of)))
    (am_Chain_has : PySem.W.findIn K (.ref c_Chain) "has" = some (some (.ref f_Chain_has)))
    (am_Chain_take_out : PySem.W.findIn K (.ref c_Chain) "take_out" = some (some (.ref f_Chain_take_out)))
    (am_Chain_keys_in : PySem.W.findIn K (.ref c_Chain) "keys_in" = some (some (.ref f_Chain_keys_in)))
    (am_Chain_put : PySem.W.findIn K (.ref c_Chain) "put" = some (some (.ref f_Chain_put)))
    (cr_Store_init : PySem.W.readsIn K c_Store (.type "type") = true)
    (cg_Store_init : PySem.W.specialIn K (.ref c_Store) "__getattribute__" = some (some (.builtin "type.__getattribute__")))
    (ca_Store_init : PySem.W.findCls K (.ref c_Store) (.type "type") "__init__" = some (.val (.ref f_Store_init)))
    (im_Store_let_go : PySem.W.isFn K (.ref f_Store_let_go) = true)
    (im_Rounds_go_on : PySem.W.isFn K (.ref f_Rounds_go_on) = true)
    (im_Store_now : PySem.W.isFn K (.ref f_Store_now) = true)
    (im_Store_kept : PySem.W.isFn K (.ref f_Store_kept) = true)
    (im_Store_look_cell : PySem.W.isFn K (.ref f_Store_look_cell) = true)
    (im_Rounds_after_swap : PySem.W.isFn K (.ref f_Rounds_after_swap) = true)
    (im_Store_swap : PySem.W.isFn K (.ref f_Store_swap) = true)
    (im_Marks_marked : PySem.W.isFn K (.ref f_Marks_marked) = true)
    (im_Marks_sweep : PySem.W.isFn K (.ref f_Marks_sweep) = true)
    (im_Marks_after_swap : PySem.W.isFn K (.ref f_Marks_after_swap) = true)
    (im_Store_look_hand : PySem.W.isFn K (.ref f_Store_look_hand) = true)
    (im_Marks_look_mark : PySem.W.isFn K (.ref f_Marks_look_mark) = true)
    (im_Marks_state_of : PySem.W.isFn K (.ref f_Marks_state_of) = true)
    (im_Marks_set_mark : PySem.W.isFn K (.ref f_Marks_set_mark) = true)
    (im_Marks_fetch : PySem.W.isFn K (.ref f_Marks_fetch) = true)
    (im_Counts_holds : PySem.W.isFn K (.ref f_Counts_holds) = true)
    (im_Counts_count_of : PySem.W.isFn K (.ref f_Counts_count_of) = true)
    (im_Store_is_out : PySem.W.isFn K (.ref f_Store_is_out) = true)
    (im_Counts_loose : PySem.W.isFn K (.ref f_Counts_loose) = true)
    (im_Counts_after_swap : PySem.W.isFn K (.ref f_Counts_after_swap) = true)
    (im_Counts_hold : PySem.W.isFn K (.ref f_Counts_hold) = true)
    (im_Versions_version_now : PySem.W.isFn K (.ref f_Versions_version_now) = true)
    (im_Versions_trim : PySem.W.isFn K (.ref f_Versions_trim) = true)
    (im_Versions_look_cell : PySem.W.isFn K (.ref f_Versions_look_cell) = true)
    (im_Versions_kept : PySem.W.isFn K (.ref f_Versions_kept) = true)
    (im_Versions_now : PySem.W.isFn K (.ref f_Versions_now) = true)
    (im_Versions_look_pairs : PySem.W.isFn K (.ref f_Versions_look_pairs) = true)
    (im_Versions_write : PySem.W.isFn K (.ref f_Versions_write) = true)
    (im_Chain_go_on : PySem.W.isFn K (.ref f_Chain_go_on) = true)
    (im_Chain_len : PySem.W.isFn K (.ref f_Chain_len) = true)
    (im_Chain_place_of : PySem.W.isFn K (.ref f_Chain_place_of) = true)
    (im_Chain_has : PySem.W.isFn K (.ref f_Chain_has) = true)
    (im_Chain_take_out : PySem.W.isFn K (.ref f_Chain_take_out) = true)
    (im_Chain_keys_in : PySem.W.isFn K (.ref f_Chain_keys_in) = true)
    (im_Chain_put : PySem.W.isFn K (.ref f_Chain_put) = true)
    (a__law_town : PySem.W.nsIn K mainGlobals "_law_town" = some (some (.ref f__law_town)))
    (l__law_town : K.lookup f__law_town = some ⟨oc__law_town, od__law_town, .func (PySem.W.fnOf "_law_town" "_law_town" (defArgs s__law_town) (defBody s__law_town) (defScope s__law_town) .none kV__law_town dc__law_town pm__law_town an__law_town cd__law_town ct__law_town), sl__law_town⟩)
    (c__law_town : PySem.W.codeIn K cd__law_town "_law_town" = true)
    (k__law_town : PySem.W.keepIn K (.ref f__law_town) = true)
    (a__law_draw : PySem.W.nsIn K mainGlobals "_law_draw" = some (some (.ref f__law_draw)))
    (l__law_draw : K.lookup f__law_draw = some ⟨oc__law_draw, od__law_draw, .func (PySem.W.fnOf "_law_draw" "_law_draw" (defArgs s__law_draw) (defBody s__law_draw) (defScope s__law_draw) .none kV__law_draw dc__law_draw pm__law_draw an__law_draw cd__law_draw ct__law_draw), sl__law_draw⟩)
    (c__law_draw : PySem.W.codeIn K cd__law_draw "_law_draw" = true)
    (k__law_draw : PySem.W.keepIn K (.ref f__law_draw) = true)
    (a_is_whole : PySem.W.nsIn K mainGlobals "is_whole" = some (some (.ref f_is_whole)))
    (l_is_whole : K.lookup f_is_whole = some ⟨oc_is_whole, od_is_whole, .func (PySem.W.fnOf "is_whole" "is_whole" (defArgs s_is_whole) (defBody s_is_whole) (defScope s_is_whole) .none kV_is_whole dc_is_whole pm_is_whole an_is_whole cd_is_whole ct_is_whole), sl_is_whole⟩)
    (c_is_whole : PySem.W.codeIn K cd_is_whole "is_whole" = true)
    (k_is_whole : PySem.W.keepIn K (.ref f_is_whole) = true)
    (a_look_number : PySem.W.nsIn K mainGlobals "look_number" = some (some (.ref f_look_number)))
    (l_look_number : K.lookup f_look_number = some ⟨oc_look_number, od_look_number, .func (PySem.W.fnOf "look_number" "look_number" (defArgs s_look_number) (defBody s_look_number) (defScope s_look_number) .none kV_look_number dc_look_number pm_look_number an_look_number cd_look_number ct_look_number), sl_look_number⟩)
    (c_look_number : PySem.W.codeIn K cd_look_number "look_number" = true)
    (k_look_number : PySem.W.keepIn K (.ref f_look_number) = true)
    (l_Store_init : K.lookup f_Store_init = some ⟨oc_Store_init, od_Store_init, .func (PySem.W.fnOf "__init__" "Store.__init__" (defArgs s_Store_init) (defBody s_Store_init) (defScope s_Store_init) .none kV_Store_init dc_Store_init pm_Store_init an_Store_init cd_Store_init ct_Store_init), sl_Store_init⟩)
    (c_Store_init : PySem.W.codeIn K cd_Store_init "Store.__init__" = true)
    (k_Store_init : PySem.W.keepIn K (.ref f_Store_init) = true)
    (l_Rounds_init : K.lookup f_Rounds_init = some ⟨oc_Rounds_init, od_Rounds_init, .func (PySem.W.fnOf "__init__" "Rounds.__init__" (defArgs s_Rounds_init) (defBody s_Rounds_init) (defScope s_Rounds_init) .none kV_Rounds_init dc_Rounds_init pm_Rounds_init an_Rounds_init cd_Rounds_init ct_Rounds_init), sl_Rounds_init⟩)
    (c_Rounds_init : PySem.W.codeIn K cd_Rounds_init "Rounds.__init__" = true)
    (k_Rounds_init : PySem.W.keepIn K (.ref f_Rounds_init) = true)
    (l_Marks_init : K.lookup f_Marks_init = some ⟨oc_Marks_init, od_Marks_init, .func (PySem.W.fnOf "__init__" "Marks.__init__" (defArgs s_Marks_init) (defBody s_Marks_init) (defScope s_Marks_init) .none kV_Marks_init dc_Marks_init pm_Marks_init an_Marks_init cd_Marks_init ct_Marks_init), sl_Marks_init⟩)
    (c_Marks_init : PySem.W.codeIn K cd_Marks_init "Marks.__init__" = true)
    (k_Marks_init : PySem.W.keepIn K (.ref f_Marks_init) = true)
    (l_Counts_init : K.lookup f_Counts_init = some ⟨oc_Counts_init, od_Counts_init, .func (PySem.W.fnOf "__init__" "Counts.__init__" (defArgs s_Counts_init) (defBody s_Counts_init) (defScope s_Counts_init) .none kV_Counts_init dc_Counts_init pm_Counts_init an_Counts_init cd_Counts_init ct_Counts_init), sl_Counts_init⟩)
    (c_Counts_init : PySem.W.codeIn K cd_Counts_init "Counts.__init__" = true)
    (k_Counts_init : PySem.W.keepIn K (.ref f_Counts_init) = true)
    (l_Versions_init : K.lookup f_Versions_init = some ⟨oc_Versions_init, od_Versions_init, .func (PySem.W.fnOf "__init__" "Versions.__init__" (defArgs s_Versions_init) (defBody s_Versions_init) (defScope s_Versions_init) (.ref td_Versions_init) kV_Versions_init dc_Versions_init pm_Versions_init an_Versions_init cd_Versions_init ct_Versions_init), sl_Versions_init⟩)
    (lt_Versions_init : K.lookup td_Versions_init = some ⟨toc_Versions_init, tod_Versions_init, .seq #[.int 3 tt_Versions_init_0] tn_Versions_init, tsl_Versions_init⟩)
    (c_Versions_init : PySem.W.codeIn K cd_Versions_init "Versions.__init__" = true)
    (k_Versions_init : PySem.W.keepIn K (.ref f_Versions_init) = true)
    (l_Link_init : K.lookup f_Link_init = some ⟨oc_Link_init, od_Link_init, .func (PySem.W.fnOf "__init__" "Link.__init__" (defArgs s_Link_init) (defBody s_Link_init) (defScope s_Link_init) .none kV_Link_init dc_Link_init pm_Link_init an_Link_init cd_Link_init ct_Link_init), sl_Link_init⟩)
    (c_Link_init : PySem.W.codeIn K cd_Link_init "Link.__init__" = true)
    (k_Link_init : PySem.W.keepIn K (.ref f_Link_init) = true)
    (l_Chain_init : K.lookup f_Chain_init = some ⟨oc_Chain_init, od_Chain_init, .func (PySem.W.fnOf "__init__" "Chain.__init__" (defArgs s_Chain_init) (defBody s_Chain_init) (defScope s_Chain_init) .none kV_Chain_init dc_Chain_init pm_Chain_init an_Chain_init cd_Chain_init ct_Chain_init), sl_Chain_init⟩)
    (c_Chain_init : PySem.W.codeIn K cd_Chain_init "Chain.__init__" = true)
    (k_Chain_init : PySem.W.keepIn K (.ref f_Chain_init) = true)
    (a__law_made : PySem.W.nsIn K mainGlobals "_law_made" = some (some (.ref f__law_made)))
    (l__law_made : K.lookup f__law_made = some ⟨oc__law_made, od__law_made, .func (PySem.W.fnOf "_law_made" "_law_made" (defArgs s__law_made) (defBody s__law_made) (defScope s__law_made) .none kV__law_made dc__law_made pm__law_made an__law_made cd__law_made ct__law_made), sl__law_made⟩)
    (c__law_made : PySem.W.codeIn K cd__law_made "_law_made" = true)
    (k__law_made : PySem.W.keepIn K (.ref f__law_made) = true)
    (a__law_pick : PySem.W.nsIn K mainGlobals "_law_pick" = some (some (.ref f__law_pick)))
    (l__law_pick : K.lookup f__law_pick = some ⟨oc__law_pick, od__law_pick, .func (PySem.W.fnOf "_law_pick" "_law_pick" (defArgs s__law_pick) (defBody s__law_pick) (defScope s__law_pick) .none kV__law_pick dc__law_pick pm__law_pick an__law_pick cd__law_pick ct__law_pick), sl__law_pick⟩)
    (c__law_pick : PySem.W.codeIn K cd__law_pick "_law_pick" = true)
    (k__law_pick : PySem.W.keepIn K (.ref f__law_pick) = true)
    (a__law_value : PySem.W.nsIn K mainGlobals "_law_value" = some (some (.ref f__law_value)))
    (l__law_value : K.lookup f__law_value = some ⟨oc__law_value, od__law_value, .func (PySem.W.fnOf "_law_value" "_law_value" (defArgs s__law_value) (defBody s__law_value) (defScope s__law_value) .none kV__law_value dc__law_value pm__law_value an__law_value cd__law_value ct__law_value), sl__law_value⟩)
    (c__law_value : PySem.W.codeIn K cd__law_value "_law_value" = true)
    (k__law_value : PySem.W.keepIn K (.ref f__law_value) = true)
    (l_Store_let_go : K.lookup f_Store_let_go = some ⟨oc_Store_let_go, od_Store_let_go, .func (PySem.W.fnOf "let_go" "Store.let_go" (defArgs s_Store_let_go) (defBody s_Store_let_go) (defScope s_Store_let_go) .none kV_Store_let_go dc_Store_let_go pm_Store_let_go an_Store_let_go cd_Store_let_go ct_Store_let_go), sl_Store_let_go⟩)
    (c_Store_let_go : PySem.W.codeIn K cd_Store_let_go "Store.let_go" = true)
    (k_Store_let_go : PySem.W.keepIn K (.ref f_Store_let_go) = true)
    (l_Rounds_go_on : K.lookup f_Rounds_go_on = some ⟨oc_Rounds_go_on, od_Rounds_go_on, .func (PySem.W.fnOf "go_on" "Rounds.go_on" (defArgs s_Rounds_go_on) (defBody s_Rounds_go_on) (defScope s_Rounds_go_on) .none kV_Rounds_go_on dc_Rounds_go_on pm_Rounds_go_on an_Rounds_go_on cd_Rounds_go_on ct_Rounds_go_on), sl_Rounds_go_on⟩)
    (c_Rounds_go_on : PySem.W.codeIn K cd_Rounds_go_on "Rounds.go_on" = true)
    (k_Rounds_go_on : PySem.W.keepIn K (.ref f_Rounds_go_on) = true)
    (l_Store_now : K.lookup f_Store_now = some ⟨oc_Store_now, od_Store_now, .func (PySem.W.fnOf "now" "Store.now" (defArgs s_Store_now) (defBody s_Store_now) (defScope s_Store_now) .none kV_Store_now dc_Store_now pm_Store_now an_Store_now cd_Store_now ct_Store_now), sl_Store_now⟩)
    (c_Store_now : PySem.W.codeIn K cd_Store_now "Store.now" = true)
    (k_Store_now : PySem.W.keepIn K (.ref f_Store_now) = true)
    (l_Store_kept : K.lookup f_Store_kept = some ⟨oc_Store_kept, od_Store_kept, .func (PySem.W.fnOf "kept" "Store.kept" (defArgs s_Store_kept) (defBody s_Store_kept) (defScope s_Store_kept) .none kV_Store_kept dc_Store_kept pm_Store_kept an_Store_kept cd_Store_kept ct_Store_kept), sl_Store_kept⟩)
    (c_Store_kept : PySem.W.codeIn K cd_Store_kept "Store.kept" = true)
    (k_Store_kept : PySem.W.keepIn K (.ref f_Store_kept) = true)
    (l_Store_look_cell : K.lookup f_Store_look_cell = some ⟨oc_Store_look_cell, od_Store_look_cell, .func (PySem.W.fnOf "look_cell" "Store.look_cell" (defArgs s_Store_look_cell) (defBody s_Store_look_cell) (defScope s_Store_look_cell) .none kV_Store_look_cell dc_Store_look_cell pm_Store_look_cell an_Store_look_cell cd_Store_look_cell ct_Store_look_cell), sl_Store_look_cell⟩)
    (c_Store_look_cell : PySem.W.codeIn K cd_Store_look_cell "Store.look_cell" = true)
    (k_Store_look_cell : PySem.W.keepIn K (.ref f_Store_look_cell) = true)
    (l_Rounds_after_swap : K.lookup f_Rounds_after_swap = some ⟨oc_Rounds_after_swap, od_Rounds_after_swap, .func (PySem.W.fnOf "after_swap" "Rounds.after_swap" (defArgs s_Rounds_after_swap) (defBody s_Rounds_after_swap) (defScope s_Rounds_after_swap) .none kV_Rounds_after_swap dc_Rounds_after_swap pm_Rounds_after_swap an_Rounds_after_swap cd_Rounds_after_swap ct_Rounds_after_swap), sl_Rounds_after_swap⟩)
    (c_Rounds_after_swap : PySem.W.codeIn K cd_Rounds_after_swap "Rounds.after_swap" = true)
    (k_Rounds_after_swap : PySem.W.keepIn K (.ref f_Rounds_after_swap) = true)
    (l_Store_swap : K.lookup f_Store_swap = some ⟨oc_Store_swap, od_Store_swap, .func (PySem.W.fnOf "swap" "Store.swap" (defArgs s_Store_swap) (defBody s_Store_swap) (defScope s_Store_swap) .none kV_Store_swap dc_Store_swap pm_Store_swap an_Store_swap cd_Store_swap ct_Store_swap), sl_Store_swap⟩)
    (c_Store_swap : PySem.W.codeIn K cd_Store_swap "Store.swap" = true)
    (k_Store_swap : PySem.W.keepIn K (.ref f_Store_swap) = true)
    (l_Marks_marked : K.lookup f_Marks_marked = some ⟨oc_Marks_marked, od_Marks_marked, .func (PySem.W.fnOf "marked" "Marks.marked" (defArgs s_Marks_marked) (defBody s_Marks_marked) (defScope s_Marks_marked) .none kV_Marks_marked dc_Marks_marked pm_Marks_marked an_Marks_marked cd_Marks_marked ct_Marks_marked), sl_Marks_marked⟩)
    (c_Marks_marked : PySem.W.codeIn K cd_Marks_marked "Marks.marked" = true)
    (k_Marks_marked : PySem.W.keepIn K (.ref f_Marks_marked) = true)
    (l_Marks_sweep : K.lookup f_Marks_sweep = some ⟨oc_Marks_sweep, od_Marks_sweep, .func (PySem.W.fnOf "sweep" "Marks.sweep" (defArgs s_Marks_sweep) (defBody s_Marks_sweep) (defScope s_Marks_sweep) .none kV_Marks_sweep dc_Marks_sweep pm_Marks_sweep an_Marks_sweep cd_Marks_sweep ct_Marks_sweep), sl_Marks_sweep⟩)
    (c_Marks_sweep : PySem.W.codeIn K cd_Marks_sweep "Marks.sweep" = true)
    (k_Marks_sweep : PySem.W.keepIn K (.ref f_Marks_sweep) = true)
    (l_Marks_after_swap : K.lookup f_Marks_after_swap = some ⟨oc_Marks_after_swap, od_Marks_after_swap, .func (PySem.W.fnOf "after_swap" "Marks.after_swap" (defArgs s_Marks_after_swap) (defBody s_Marks_after_swap) (defScope s_Marks_after_swap) .none kV_Marks_after_swap dc_Marks_after_swap pm_Marks_after_swap an_Marks_after_swap cd_Marks_after_swap ct_Marks_after_swap), sl_Marks_after_swap⟩)
    (c_Marks_after_swap : PySem.W.codeIn K cd_Marks_after_swap "Marks.after_swap" = true)
    (k_Marks_after_swap : PySem.W.keepIn K (.ref f_Marks_after_swap) = true)
    (l_Store_look_hand : K.lookup f_Store_look_hand = some ⟨oc_Store_look_hand, od_Store_look_hand, .func (PySem.W.fnOf "look_hand" "Store.look_hand" (defArgs s_Store_look_hand) (defBody s_Store_look_hand) (defScope s_Store_look_hand) .none kV_Store_look_hand dc_Store_look_hand pm_Store_look_hand an_Store_look_hand cd_Store_look_hand ct_Store_look_hand), sl_Store_look_hand⟩)
    (c_Store_look_hand : PySem.W.codeIn K cd_Store_look_hand "Store.look_hand" = true)
    (k_Store_look_hand : PySem.W.keepIn K (.ref f_Store_look_hand) = true)
    (l_Marks_look_mark : K.lookup f_Marks_look_mark = some ⟨oc_Marks_look_mark, od_Marks_look_mark, .func (PySem.W.fnOf "look_mark" "Marks.look_mark" (defArgs s_Marks_look_mark) (defBody s_Marks_look_mark) (defScope s_Marks_look_mark) .none kV_Marks_look_mark dc_Marks_look_mark pm_Marks_look_mark an_Marks_look_mark cd_Marks_look_mark ct_Marks_look_mark), sl_Marks_look_mark⟩)
    (c_Marks_look_mark : PySem.W.codeIn K cd_Marks_look_mark "Marks.look_mark" = true)
    (k_Marks_look_mark : PySem.W.keepIn K (.ref f_Marks_look_mark) = true)
    (l_Marks_state_of : K.lookup f_Marks_state_of = some ⟨oc_Marks_state_of, od_Marks_state_of, .func (PySem.W.fnOf "state_of" "Marks.state_of" (defArgs s_Marks_state_of) (defBody s_Marks_state_of) (defScope s_Marks_state_of) .none kV_Marks_state_of dc_Marks_state_of pm_Marks_state_of an_Marks_state_of cd_Marks_state_of ct_Marks_state_of), sl_Marks_state_of⟩)
    (c_Marks_state_of : PySem.W.codeIn K cd_Marks_state_of "Marks.state_of" = true)
    (k_Marks_state_of : PySem.W.keepIn K (.ref f_Marks_state_of) = true)
    (l_Marks_set_mark : K.lookup f_Marks_set_mark = some ⟨oc_Marks_set_mark, od_Marks_set_mark, .func (PySem.W.fnOf "set_mark" "Marks.set_mark" (defArgs s_Marks_set_mark) (defBody s_Marks_set_mark) (defScope s_Marks_set_mark) .none kV_Marks_set_mark dc_Marks_set_mark pm_Marks_set_mark an_Marks_set_mark cd_Marks_set_mark ct_Marks_set_mark), sl_Marks_set_mark⟩)
    (c_Marks_set_mark : PySem.W.codeIn K cd_Marks_set_mark "Marks.set_mark" = true)
    (k_Marks_set_mark : PySem.W.keepIn K (.ref f_Marks_set_mark) = true)
    (l_Marks_fetch : K.lookup f_Marks_fetch = some ⟨oc_Marks_fetch, od_Marks_fetch, .func (PySem.W.fnOf "fetch" "Marks.fetch" (defArgs s_Marks_fetch) (defBody s_Marks_fetch) (defScope s_Marks_fetch) .none kV_Marks_fetch dc_Marks_fetch pm_Marks_fetch an_Marks_fetch cd_Marks_fetch ct_Marks_fetch), sl_Marks_fetch⟩)
    (c_Marks_fetch : PySem.W.codeIn K cd_Marks_fetch "Marks.fetch" = true)
    (k_Marks_fetch : PySem.W.keepIn K (.ref f_Marks_fetch) = true)
    (l_Counts_holds : K.lookup f_Counts_holds = some ⟨oc_Counts_holds, od_Counts_holds, .func (PySem.W.fnOf "holds" "Counts.holds" (defArgs s_Counts_holds) (defBody s_Counts_holds) (defScope s_Counts_holds) .none kV_Counts_holds dc_Counts_holds pm_Counts_holds an_Counts_holds cd_Counts_holds ct_Counts_holds), sl_Counts_holds⟩)
    (c_Counts_holds : PySem.W.codeIn K cd_Counts_holds "Counts.holds" = true)
    (k_Counts_holds : PySem.W.keepIn K (.ref f_Counts_holds) = true)
    (l_Counts_count_of : K.lookup f_Counts_count_of = some ⟨oc_Counts_count_of, od_Counts_count_of, .func (PySem.W.fnOf "count_of" "Counts.count_of" (defArgs s_Counts_count_of) (defBody s_Counts_count_of) (defScope s_Counts_count_of) .none kV_Counts_count_of dc_Counts_count_of pm_Counts_count_of an_Counts_count_of cd_Counts_count_of ct_Counts_count_of), sl_Counts_count_of⟩)
    (c_Counts_count_of : PySem.W.codeIn K cd_Counts_count_of "Counts.count_of" = true)
    (k_Counts_count_of : PySem.W.keepIn K (.ref f_Counts_count_of) = true)
    (l_Store_is_out : K.lookup f_Store_is_out = some ⟨oc_Store_is_out, od_Store_is_out, .func (PySem.W.fnOf "is_out" "Store.is_out" (defArgs s_Store_is_out) (defBody s_Store_is_out) (defScope s_Store_is_out) .none kV_Store_is_out dc_Store_is_out pm_Store_is_out an_Store_is_out cd_Store_is_out ct_Store_is_out), sl_Store_is_out⟩)
    (c_Store_is_out : PySem.W.codeIn K cd_Store_is_out "Store.is_out" = true)
    (k_Store_is_out : PySem.W.keepIn K (.ref f_Store_is_out) = true)
    (l_Counts_loose : K.lookup f_Counts_loose = some ⟨oc_Counts_loose, od_Counts_loose, .func (PySem.W.fnOf "loose" "Counts.loose" (defArgs s_Counts_loose) (defBody s_Counts_loose) (defScope s_Counts_loose) .none kV_Counts_loose dc_Counts_loose pm_Counts_loose an_Counts_loose cd_Counts_loose ct_Counts_loose), sl_Counts_loose⟩)
    (c_Counts_loose : PySem.W.codeIn K cd_Counts_loose "Counts.loose" = true)
    (k_Counts_loose : PySem.W.keepIn K (.ref f_Counts_loose) = true)
    (l_Counts_after_swap : K.lookup f_Counts_after_swap = some ⟨oc_Counts_after_swap, od_Counts_after_swap, .func (PySem.W.fnOf "after_swap" "Counts.after_swap" (defArgs s_Counts_after_swap) (defBody s_Counts_after_swap) (defScope s_Counts_after_swap) .none kV_Counts_after_swap dc_Counts_after_swap pm_Counts_after_swap an_Counts_after_swap cd_Counts_after_swap ct_Counts_after_swap), sl_Counts_after_swap⟩)
    (c_Counts_after_swap : PySem.W.codeIn K cd_Counts_after_swap "Counts.after_swap" = true)
    (k_Counts_after_swap : PySem.W.keepIn K (.ref f_Counts_after_swap) = true)
    (l_Counts_hold : K.lookup f_Counts_hold = some ⟨oc_Counts_hold, od_Counts_hold, .func (PySem.W.fnOf "hold" "Counts.hold" (defArgs s_Counts_hold) (defBody s_Counts_hold) (defScope s_Counts_hold) .none kV_Counts_hold dc_Counts_hold pm_Counts_hold an_Counts_hold cd_Counts_hold ct_Counts_hold), sl_Counts_hold⟩)
    (c_Counts_hold : PySem.W.codeIn K cd_Counts_hold "Counts.hold" = true)
    (k_Counts_hold : PySem.W.keepIn K (.ref f_Counts_hold) = true)
    (l_Versions_version_now : K.lookup f_Versions_version_now = some ⟨oc_Versions_version_now, od_Versions_version_now, .func (PySem.W.fnOf "version_now" "Versions.version_now" (defArgs s_Versions_version_now) (defBody s_Versions_version_now) (defScope s_Versions_version_now) .none kV_Versions_version_now dc_Versions_version_now pm_Versions_version_now an_Versions_version_now cd_Versions_version_now ct_Versions_version_now), sl_Versions_version_now⟩)
    (c_Versions_version_now : PySem.W.codeIn K cd_Versions_version_now "Versions.version_now" = true)
    (k_Versions_version_now : PySem.W.keepIn K (.ref f_Versions_version_now) = true)
    (l_Versions_trim : K.lookup f_Versions_trim = some ⟨oc_Versions_trim, od_Versions_trim, .func (PySem.W.fnOf "trim" "Versions.trim" (defArgs s_Versions_trim) (defBody s_Versions_trim) (defScope s_Versions_trim) .none kV_Versions_trim dc_Versions_trim pm_Versions_trim an_Versions_trim cd_Versions_trim ct_Versions_trim), sl_Versions_trim⟩)
    (c_Versions_trim : PySem.W.codeIn K cd_Versions_trim "Versions.trim" = true)
    (k_Versions_trim : PySem.W.keepIn K (.ref f_Versions_trim) = true)
    (l_Versions_look_cell : K.lookup f_Versions_look_cell = some ⟨oc_Versions_look_cell, od_Versions_look_cell, .func (PySem.W.fnOf "look_cell" "Versions.look_cell" (defArgs s_Versions_look_cell) (defBody s_Versions_look_cell) (defScope s_Versions_look_cell) .none kV_Versions_look_cell dc_Versions_look_cell pm_Versions_look_cell an_Versions_look_cell cd_Versions_look_cell ct_Versions_look_cell), sl_Versions_look_cell⟩)
    (c_Versions_look_cell : PySem.W.codeIn K cd_Versions_look_cell "Versions.look_cell" = true)
    (k_Versions_look_cell : PySem.W.keepIn K (.ref f_Versions_look_cell) = true)
    (l_Versions_kept : K.lookup f_Versions_kept = some ⟨oc_Versions_kept, od_Versions_kept, .func (PySem.W.fnOf "kept" "Versions.kept" (defArgs s_Versions_kept) (defBody s_Versions_kept) (defScope s_Versions_kept) .none kV_Versions_kept dc_Versions_kept pm_Versions_kept an_Versions_kept cd_Versions_kept ct_Versions_kept), sl_Versions_kept⟩)
    (c_Versions_kept : PySem.W.codeIn K cd_Versions_kept "Versions.kept" = true)
    (k_Versions_kept : PySem.W.keepIn K (.ref f_Versions_kept) = true)
    (l_Versions_now : K.lookup f_Versions_now = some ⟨oc_Versions_now, od_Versions_now, .func (PySem.W.fnOf "now" "Versions.now" (defArgs s_Versions_now) (defBody s_Versions_now) (defScope s_Versions_now) .none kV_Versions_now dc_Versions_now pm_Versions_now an_Versions_now cd_Versions_now ct_Versions_now), sl_Versions_now⟩)
    (c_Versions_now : PySem.W.codeIn K cd_Versions_now "Versions.now" = true)
    (k_Versions_now : PySem.W.keepIn K (.ref f_Versions_now) = true)
    (l_Versions_look_pairs : K.lookup f_Versions_look_pairs = some ⟨oc_Versions_look_pairs, od_Versions_look_pairs, .func (PySem.W.fnOf "look_pairs" "Versions.look_pairs" (defArgs s_Versions_look_pairs) (defBody s_Versions_look_pairs) (defScope s_Versions_look_pairs) .none kV_Versions_look_pairs dc_Versions_look_pairs pm_Versions_look_pairs an_Versions_look_pairs cd_Versions_look_pairs ct_Versions_look_pairs), sl_Versions_look_pairs⟩)
    (c_Versions_look_pairs : PySem.W.codeIn K cd_Versions_look_pairs "Versions.look_pairs" = true)
    (k_Versions_look_pairs : PySem.W.keepIn K (.ref f_Versions_look_pairs) = true)
    (l_Versions_write : K.lookup f_Versions_write = some ⟨oc_Versions_write, od_Versions_write, .func (PySem.W.fnOf "write" "Versions.write" (defArgs s_Versions_write) (defBody s_Versions_write) (defScope s_Versions_write) .none kV_Versions_write dc_Versions_write pm_Versions_write an_Versions_write cd_Versions_write ct_Versions_write), sl_Versions_write⟩)
    (c_Versions_write : PySem.W.codeIn K cd_Versions_write "Versions.write" = true)
    (k_Versions_write : PySem.W.keepIn K (.ref f_Versions_write) = true)
    (l_Chain_go_on : K.lookup f_Chain_go_on = some ⟨oc_Chain_go_on, od_Chain_go_on, .func (PySem.W.fnOf "go_on" "Chain.go_on" (defArgs s_Chain_go_on) (defBody s_Chain_go_on) (defScope s_Chain_go_on) .none kV_Chain_go_on dc_Chain_go_on pm_Chain_go_on an_Chain_go_on cd_Chain_go_on ct_Chain_go_on), sl_Chain_go_on⟩)
    (c_Chain_go_on : PySem.W.codeIn K cd_Chain_go_on "Chain.go_on" = true)
    (k_Chain_go_on : PySem.W.keepIn K (.ref f_Chain_go_on) = true)
    (l_Chain_len : K.lookup f_Chain_len = some ⟨oc_Chain_len, od_Chain_len, .func (PySem.W.fnOf "__len__" "Chain.__len__" (defArgs s_Chain_len) (defBody s_Chain_len) (defScope s_Chain_len) .none kV_Chain_len dc_Chain_len pm_Chain_len an_Chain_len cd_Chain_len ct_Chain_len), sl_Chain_len⟩)
    (c_Chain_len : PySem.W.codeIn K cd_Chain_len "Chain.__len__" = true)
    (k_Chain_len : PySem.W.keepIn K (.ref f_Chain_len) = true)
    (l_Chain_place_of : K.lookup f_Chain_place_of = some ⟨oc_Chain_place_of, od_Chain_place_of, .func (PySem.W.fnOf "place_of" "Chain.place_of" (defArgs s_Chain_place_of) (defBody s_Chain_place_of) (defScope s_Chain_place_of) .none kV_Chain_place_of dc_Chain_place_of pm_Chain_place_of an_Chain_place_of cd_Chain_place_of ct_Chain_place_of), sl_Chain_place_of⟩)
    (c_Chain_place_of : PySem.W.codeIn K cd_Chain_place_of "Chain.place_of" = true)
    (k_Chain_place_of : PySem.W.keepIn K (.ref f_Chain_place_of) = true)
    (l_Chain_has : K.lookup f_Chain_has = some ⟨oc_Chain_has, od_Chain_has, .func (PySem.W.fnOf "has" "Chain.has" (defArgs s_Chain_has) (defBody s_Chain_has) (defScope s_Chain_has) .none kV_Chain_has dc_Chain_has pm_Chain_has an_Chain_has cd_Chain_has ct_Chain_has), sl_Chain_has⟩)
    (c_Chain_has : PySem.W.codeIn K cd_Chain_has "Chain.has" = true)
    (k_Chain_has : PySem.W.keepIn K (.ref f_Chain_has) = true)
    (l_Chain_take_out : K.lookup f_Chain_take_out = some ⟨oc_Chain_take_out, od_Chain_take_out, .func (PySem.W.fnOf "take_out" "Chain.take_out" (defArgs s_Chain_take_out) (defBody s_Chain_take_out) (defScope s_Chain_take_out) .none kV_Chain_take_out dc_Chain_take_out pm_Chain_take_out an_Chain_take_out cd_Chain_take_out ct_Chain_take_out), sl_Chain_take_out⟩)
    (c_Chain_take_out : PySem.W.codeIn K cd_Chain_take_out "Chain.take_out" = true)
    (k_Chain_take_out : PySem.W.keepIn K (.ref f_Chain_take_out) = true)
    (l_Chain_keys_in : K.lookup f_Chain_keys_in = some ⟨oc_Chain_keys_in, od_Chain_keys_in, .func (PySem.W.fnOf "keys_in" "Chain.keys_in" (defArgs s_Chain_keys_in) (defBody s_Chain_keys_in) (defScope s_Chain_keys_in) .none kV_Chain_keys_in dc_Chain_keys_in pm_Chain_keys_in an_Chain_keys_in cd_Chain_keys_in ct_Chain_keys_in), sl_Chain_keys_in⟩)
    (c_Chain_keys_in : PySem.W.codeIn K cd_Chain_keys_in "Chain.keys_in" = true)
    (k_Chain_keys_in : PySem.W.keepIn K (.ref f_Chain_keys_in) = true)
    (l_Chain_put : K.lookup f_Chain_put = some ⟨oc_Chain_put, od_Chain_put, .func (PySem.W.fnOf "put" "Chain.put" (defArgs s_Chain_put) (defBody s_Chain_put) (defScope s_Chain_put) .none kV_Chain_put dc_Chain_put pm_Chain_put an_Chain_put cd_Chain_put ct_Chain_put), sl_Chain_put⟩)
    (c_Chain_put : PySem.W.codeIn K cd_Chain_put "Chain.put" = true)
    (k_Chain_put : PySem.W.keepIn K (.ref f_Chain_put) = true)
    (a__law_tell : PySem.W.nsIn K mainGlobals "_law_tell" = some (some (.ref f__law_tell)))
    (l__law_tell : K.lookup f__law_tell = some ⟨oc__law_tell, od__law_tell, .func (PySem.W.fnOf "_law_tell" "_law_tell" (defArgs s__law_tell) (defBody s__law_tell) (defScope s__law_tell) .none kV__law_tell dc__law_tell pm__law_tell an__law_tell cd__law_tell ct__law_tell), sl__law_tell⟩)
    (c__law_tell : PySem.W.codeIn K cd__law_tell "_law_tell" = true)
    (k__law_tell : PySem.W.keepIn K (.ref f__law_tell) = true)
    (a_law : PySem.W.nsIn K mainGlobals "law" = some (some (.ref f_law)))
    (l_law : K.lookup f_law = some ⟨oc_law, od_law, .func (PySem.W.fnOf "law" "law" (defArgs s_law) (defBody s_law) (defScope s_law) .none kV_law dc_law pm_law an_law cd_law ct_law), sl_law⟩)
    (c_law : PySem.W.codeIn K cd_law "law" = true)
    (k_law : PySem.W.keepIn K (.ref f_law) = true)
    (z_all : PySem.W.nsIn K mainGlobals "all" = some none)
    (z_bool : PySem.W.nsIn K mainGlobals "bool" = some none)
    (z_dict : PySem.W.nsIn K mainGlobals "dict" = some none)
    (z_int : PySem.W.nsIn K mainGlobals "int" = some none)
    (z_isinstance : PySem.W.nsIn K mainGlobals "isinstance" = some none)
    (z_len : PySem.W.nsIn K mainGlobals "len" = some none)
    (z_list : PySem.W.nsIn K mainGlobals "list" = some none)
    (z_max : PySem.W.nsIn K mainGlobals "max" = some none)
    (z_range : PySem.W.nsIn K mainGlobals "range" = some none)
    (z_set : PySem.W.nsIn K mainGlobals "set" = some none)
    (z_sorted : PySem.W.nsIn K mainGlobals "sorted" = some none)
    (z_sum : PySem.W.nsIn K mainGlobals "sum" = some none)
    (z_tuple : PySem.W.nsIn K mainGlobals "tuple" = some none)
    (zk_END : PySem.W.nsIn K mainGlobals "END" = some (some (.int (-1) t_END)))
    (zk_MARKS : PySem.W.nsIn K mainGlobals "MARKS" = some (some (.int (2) t_MARKS)))
    (zk_MOST_CELLS : PySem.W.nsIn K mainGlobals "MOST_CELLS" = some (some (.int (5) t_MOST_CELLS)))
    (zk_MOST_HANDS_chains : PySem.W.nsIn K mainGlobals "MOST_HANDS_chains" = some (some (.int (6) t_MOST_HANDS_chains)))
    (zk_MOST_HANDS_stores : PySem.W.nsIn K mainGlobals "MOST_HANDS_stores" = some (some (.int (6) t_MOST_HANDS_stores)))
    (zk_MOST_KEY : PySem.W.nsIn K mainGlobals "MOST_KEY" = some (some (.int (999) t_MOST_KEY)))
    (zk_MOST_VALUE : PySem.W.nsIn K mainGlobals "MOST_VALUE" = some (some (.int (999) t_MOST_VALUE))) :
    ∃ fd : FuncData, (∀ (s : Shared) (v : Value), BindsTo s fd ⟨[v], []⟩ [("script", v)]) ∧ ∀ base : Heap, K.In base → base.Ns mainGlobals mg → FnOk l.prog w K mg base CX0 7 fa fd ["script"] (sp_law K) := by
  have e := hfa.symm.trans (PySem.W.mg_of X G a_law)
  cases e
  have F__law_town := fun_mk (st := s__law_town) l__law_town c__law_town k__law_town
  have F__law_draw := fun_mk (st := s__law_draw) l__law_draw c__law_draw k__law_draw
  have F_is_whole := fun_mk (st := s_is_whole) l_is_whole c_is_whole k_is_whole
  have F_look_number := fun_mk (st := s_look_number) l_look_number c_look_number k_look_number
  have F_Store_init := fun_mk (st := s_Store_init) l_Store_init c_Store_init k_Store_init
  have F_Rounds_init := fun_mk (st := s_Rounds_init) l_Rounds_init c_Rounds_init k_Rounds_init
  have F_Marks_init := fun_mk (st := s_Marks_init) l_Marks_init c_Marks_init k_Marks_init
  have F_Counts_init := fun_mk (st := s_Counts_init) l_Counts_init c_Counts_init k_Counts_init
  have F_Link_init := fun_mk (st := s_Link_init) l_Link_init c_Link_init k_Link_init
  have F_Chain_init := fun_mk (st := s_Chain_init) l_Chain_init c_Chain_init k_Chain_init
  have F__law_made := fun_mk (st := s__law_made) l__law_made c__law_made k__law_made
  have F__law_pick := fun_mk (st := s__law_pick) l__law_pick c__law_pick k__law_pick
  have F__law_value := fun_mk (st := s__law_value) l__law_value c__law_value k__law_value
  have F_Store_let_go := fun_mk (st := s_Store_let_go) l_Store_let_go c_Store_let_go k_Store_let_go
  have F_Rounds_go_on := fun_mk (st := s_Rounds_go_on) l_Rounds_go_on c_Rounds_go_on k_Rounds_go_on
  have F_Store_now := fun_mk (st := s_Store_now) l_Store_now c_Store_now k_Store_now
  have F_Store_kept := fun_mk (st := s_Store_kept) l_Store_kept c_Store_kept k_Store_kept
  have F_Store_look_cell := fun_mk (st := s_Store_look_cell) l_Store_look_cell c_Store_look_cell k_Store_look_cell
  have F_Rounds_after_swap := fun_mk (st := s_Rounds_after_swap) l_Rounds_after_swap c_Rounds_after_swap k_Rounds_after_swap
  have F_Store_swap := fun_mk (st := s_Store_swap) l_Store_swap c_Store_swap k_Store_swap
  have F_Marks_marked := fun_mk (st := s_Marks_marked) l_Marks_marked c_Marks_marked k_Marks_marked
  have F_Marks_sweep := fun_mk (st := s_Marks_sweep) l_Marks_sweep c_Marks_sweep k_Marks_sweep
  have F_Marks_after_swap := fun_mk (st := s_Marks_after_swap) l_Marks_after_swap c_Marks_after_swap k_Marks_after_swap
  have F_Store_look_hand := fun_mk (st := s_Store_look_hand) l_Store_look_hand c_Store_look_hand k_Store_look_hand
  have F_Marks_look_mark := fun_mk (st := s_Marks_look_mark) l_Marks_look_mark c_Marks_look_mark k_Marks_look_mark
  have F_Marks_state_of := fun_mk (st := s_Marks_state_of) l_Marks_state_of c_Marks_state_of k_Marks_state_of
  have F_Marks_set_mark := fun_mk (st := s_Marks_set_mark) l_Marks_set_mark c_Marks_set_mark k_Marks_set_mark
  have F_Marks_fetch := fun_mk (st := s_Marks_fetch) l_Marks_fetch c_Marks_fetch k_Marks_fetch
  have F_Counts_holds := fun_mk (st := s_Counts_holds) l_Counts_holds c_Counts_holds k_Counts_holds
  have F_Counts_count_of := fun_mk (st := s_Counts_count_of) l_Counts_count_of c_Counts_count_of k_Counts_count_of
  have F_Store_is_out := fun_mk (st := s_Store_is_out) l_Store_is_out c_Store_is_out k_Store_is_out
  have F_Counts_loose := fun_mk (st := s_Counts_loose) l_Counts_loose c_Counts_loose k_Counts_loose
  have F_Counts_after_swap := fun_mk (st := s_Counts_after_swap) l_Counts_after_swap c_Counts_after_swap k_Counts_after_swap
  have F_Counts_hold := fun_mk (st := s_Counts_hold) l_Counts_hold c_Counts_hold k_Counts_hold
  have F_Versions_version_now := fun_mk (st := s_Versions_version_now) l_Versions_version_now c_Versions_version_now k_Versions_version_now
  have F_Versions_trim := fun_mk (st := s_Versions_trim) l_Versions_trim c_Versions_trim k_Versions_trim
  have F_Versions_look_cell := fun_mk (st := s_Versions_look_cell) l_Versions_look_cell c_Versions_look_cell k_Versions_look_cell
  have F_Versions_kept := fun_mk (st := s_Versions_kept) l_Versions_kept c_Versions_kept k_Versions_kept
  have F_Versions_now := fun_mk (st := s_Versions_now) l_Versions_now c_Versions_now k_Versions_now
  have F_Versions_look_pairs := fun_mk (st := s_Versions_look_pairs) l_Versions_look_pairs c_Versions_look_pairs k_Versions_look_pairs
  have F_Versions_write := fun_mk (st := s_Versions_write) l_Versions_write c_Versions_write k_Versions_write
  have F_Chain_go_on := fun_mk (st := s_Chain_go_on) l_Chain_go_on c_Chain_go_on k_Chain_go_on
  have F_Chain_len := fun_mk (st := s_Chain_len) l_Chain_len c_Chain_len k_Chain_len
  have F_Chain_place_of := fun_mk (st := s_Chain_place_of) l_Chain_place_of c_Chain_place_of k_Chain_place_of
  have F_Chain_has := fun_mk (st := s_Chain_has) l_Chain_has c_Chain_has k_Chain_has
  have F_Chain_take_out := fun_mk (st := s_Chain_take_out) l_Chain_take_out c_Chain_take_out k_Chain_take_out
  have F_Chain_keys_in := fun_mk (st := s_Chain_keys_in) l_Chain_keys_in c_Chain_keys_in k_Chain_keys_in
  have F_Chain_put := fun_mk (st := s_Chain_put) l_Chain_put c_Chain_put k_Chain_put
  have F__law_tell := fun_mk (st := s__law_tell) l__law_tell c__law_tell k__law_tell
  have F_law := fun_mk (st := s_law) l_law c_law k_law
  have b__law_town := F__law_town.binds (ps := ["script"]) fun _ _ _ _ _ _ us hl => match us, hl with | [_], _ => rfl
  have b__law_draw := F__law_draw.binds (ps := ["town", "many"]) fun _ _ _ _ _ _ us hl => match us, hl with | [_, _], _ => rfl
  have b_is_whole := F_is_whole.binds (ps := ["thing", "low", "high"]) fun _ _ _ _ _ _ us hl => match us, hl with | [_, _, _], _ => rfl
  have b_look_number := F_look_number.binds (ps := ["thing", "low", "high"]) fun _ _ _ _ _ _ us hl => match us, hl with | [_, _, _], _ => rfl
  have b_Store_init := F_Store_init.binds (ps := ["self", "hands", "cells"]) fun _ _ _ _ _ _ us hl => match us, hl with | [_, _, _], _ => rfl
  have b_Rounds_init := F_Rounds_init.binds (ps := ["self", "hands", "cells"]) fun _ _ _ _ _ _ us hl => match us, hl with | [_, _, _], _ => rfl
  have b_Marks_init := F_Marks_init.binds (ps := ["self", "hands", "cells"]) fun _ _ _ _ _ _ us hl => match us, hl with | [_, _, _], _ => rfl
  have b_Counts_init := F_Counts_init.binds (ps := ["self", "hands", "cells"]) fun _ _ _ _ _ _ us hl => match us, hl with | [_, _, _], _ => rfl
  have F_Versions_init : FunD K "__init__" "Versions.__init__" (defArgs s_Versions_init) (defBody s_Versions_init) (defScope s_Versions_init) [.int 3] [] f_Versions_init (PySem.W.fnOf "__init__" "Versions.__init__" (defArgs s_Versions_init) (defBody s_Versions_init) (defScope s_Versions_init) (.ref td_Versions_init) kV_Versions_init dc_Versions_init pm_Versions_init an_Versions_init cd_Versions_init ct_Versions_init) := ⟨⟨_, _, _, _, _, _, _, _, _, _, rfl, l_Versions_init, c_Versions_init, .inr ⟨List.cons_ne_nil _ _, td_Versions_init, _, [.int 3 tt_Versions_init_0], _, rfl, lt_Versions_init, rfl, (.cons ⟨_, rfl⟩ .nil)⟩, .inl rfl⟩, k_Versions_init⟩
  obtain ⟨ds_Versions_init, vd_Versions_init, bd_Versions_init⟩ := F_Versions_init.binds1 (ps := ["self", "hands", "cells"]) 2 0 (List.cons_ne_nil _ _) rfl fun T kV doc pm an cdv ct us its l1 l2 => match us, its, l1, l2 with | [_, _], [_], _, _ => ⟨_, rfl, rfl⟩
  have b_Versions_init : Binds K (PySem.W.fnOf "__init__" "Versions.__init__" (defArgs s_Versions_init) (defBody s_Versions_init) (defScope s_Versions_init) (.ref td_Versions_init) kV_Versions_init dc_Versions_init pm_Versions_init an_Versions_init cd_Versions_init ct_Versions_init) ["self", "hands", "cells"] [] := by
    obtain ⟨ds, vd, bd⟩ := F_Versions_init.binds1 (ps := ["self", "hands", "cells"]) 3 1 (List.cons_ne_nil _ _) rfl fun T kV doc pm an cdv ct us its l1 l2 => match us, its, l1, l2 with | [_, _, _], [_], _, _ => ⟨_, rfl, rfl⟩
    cases vd
    exact bd
  obtain ⟨its_Versions_init, kb_Versions_init⟩ := F_Versions_init.kbindsD (ps := ["self", "hands", "cells"]) 2 ["cells"] (fun us _ ws => us ++ ws) (List.cons_ne_nil _ _) (fun r1 _ r2 => r1.append r2) fun T kV doc pm an cdv ct us its ws l1 l2 l3 => match us, its, ws, l1, l2, l3 with | [_, _], [_], [_], _, _, _ => ⟨_, rfl, rfl⟩
  have b_Link_init := F_Link_init.binds (ps := ["self", "key", "after"]) fun _ _ _ _ _ _ us hl => match us, hl with | [_, _, _], _ => rfl
  have b_Chain_init := F_Chain_init.binds (ps := ["self", "hands"]) fun _ _ _ _ _ _ us hl => match us, hl with | [_, _], _ => rfl
  have b__law_made := F__law_made.binds (ps := ["kind"]) fun _ _ _ _ _ _ us hl => match us, hl with | [_], _ => rfl
  have b__law_pick := F__law_pick.binds (ps := ["town", "some"]) fun _ _ _ _ _ _ us hl => match us, hl with | [_, _], _ => rfl
  have b__law_value := F__law_value.binds (ps := ["town"]) fun _ _ _ _ _ _ us hl => match us, hl with | [_], _ => rfl
  have b_Store_let_go := F_Store_let_go.binds (ps := ["self", "things"]) fun _ _ _ _ _ _ us hl => match us, hl with | [_, _], _ => rfl
  have b_Rounds_go_on := F_Rounds_go_on.binds (ps := ["self"]) fun _ _ _ _ _ _ us hl => match us, hl with | [_], _ => rfl
  have b_Store_now := F_Store_now.binds (ps := ["self"]) fun _ _ _ _ _ _ us hl => match us, hl with | [_], _ => rfl
  have b_Store_kept := F_Store_kept.binds (ps := ["self"]) fun _ _ _ _ _ _ us hl => match us, hl with | [_], _ => rfl
  have b_Store_look_cell := F_Store_look_cell.binds (ps := ["self", "cell"]) fun _ _ _ _ _ _ us hl => match us, hl with | [_, _], _ => rfl
  have b_Rounds_after_swap := F_Rounds_after_swap.binds (ps := ["self", "thing"]) fun _ _ _ _ _ _ us hl => match us, hl with | [_, _], _ => rfl
  have b_Store_swap := F_Store_swap.binds (ps := ["self", "cell", "value"]) fun _ _ _ _ _ _ us hl => match us, hl with | [_, _, _], _ => rfl
  have b_Marks_marked := F_Marks_marked.binds (ps := ["self"]) fun _ _ _ _ _ _ us hl => match us, hl with | [_], _ => rfl
  have b_Marks_sweep := F_Marks_sweep.binds (ps := ["self"]) fun _ _ _ _ _ _ us hl => match us, hl with | [_], _ => rfl
  have b_Marks_after_swap := F_Marks_after_swap.binds (ps := ["self", "thing"]) fun _ _ _ _ _ _ us hl => match us, hl with | [_, _], _ => rfl
  have b_Store_look_hand := F_Store_look_hand.binds (ps := ["self", "hand"]) fun _ _ _ _ _ _ us hl => match us, hl with | [_, _], _ => rfl
  have b_Marks_look_mark := F_Marks_look_mark.binds (ps := ["self", "hand", "mark"]) fun _ _ _ _ _ _ us hl => match us, hl with | [_, _, _], _ => rfl
  have b_Marks_state_of := F_Marks_state_of.binds (ps := ["self", "hand", "mark", "states"]) fun _ _ _ _ _ _ us hl => match us, hl with | [_, _, _, _], _ => rfl
  have b_Marks_set_mark := F_Marks_set_mark.binds (ps := ["self", "hand", "mark"]) fun _ _ _ _ _ _ us hl => match us, hl with | [_, _, _], _ => rfl
  have b_Marks_fetch := F_Marks_fetch.binds (ps := ["self", "hand", "mark", "cell"]) fun _ _ _ _ _ _ us hl => match us, hl with | [_, _, _, _], _ => rfl
  have b_Counts_holds := F_Counts_holds.binds (ps := ["self", "hand"]) fun _ _ _ _ _ _ us hl => match us, hl with | [_, _], _ => rfl
  have b_Counts_count_of := F_Counts_count_of.binds (ps := ["self", "thing"]) fun _ _ _ _ _ _ us hl => match us, hl with | [_, _], _ => rfl
  have b_Store_is_out := F_Store_is_out.binds (ps := ["self", "thing"]) fun _ _ _ _ _ _ us hl => match us, hl with | [_, _], _ => rfl
  have b_Counts_loose := F_Counts_loose.binds (ps := ["self", "thing"]) fun _ _ _ _ _ _ us hl => match us, hl with | [_, _], _ => rfl
  have b_Counts_after_swap := F_Counts_after_swap.binds (ps := ["self", "thing"]) fun _ _ _ _ _ _ us hl => match us, hl with | [_, _], _ => rfl
  have b_Counts_hold := F_Counts_hold.binds (ps := ["self", "hand", "cell"]) fun _ _ _ _ _ _ us hl => match us, hl with | [_, _, _], _ => rfl
  have b_Versions_version_now := F_Versions_version_now.binds (ps := ["self"]) fun _ _ _ _ _ _ us hl => match us, hl with | [_], _ => rfl
  have b_Versions_trim := F_Versions_trim.binds (ps := ["self"]) fun _ _ _ _ _ _ us hl => match us, hl with | [_], _ => rfl
  have b_Versions_look_cell := F_Versions_look_cell.binds (ps := ["self", "cell"]) fun _ _ _ _ _ _ us hl => match us, hl with | [_, _], _ => rfl
  have b_Versions_kept := F_Versions_kept.binds (ps := ["self", "cell"]) fun _ _ _ _ _ _ us hl => match us, hl with | [_, _], _ => rfl
  have b_Versions_now := F_Versions_now.binds (ps := ["self"]) fun _ _ _ _ _ _ us hl => match us, hl with | [_], _ => rfl
  have b_Versions_look_pairs := F_Versions_look_pairs.binds (ps := ["self", "pairs"]) fun _ _ _ _ _ _ us hl => match us, hl with | [_, _], _ => rfl
  have b_Versions_write := F_Versions_write.binds (ps := ["self", "pairs"]) fun _ _ _ _ _ _ us hl => match us, hl with | [_, _], _ => rfl
  have b_Chain_go_on := F_Chain_go_on.binds (ps := ["self"]) fun _ _ _ _ _ _ us hl => match us, hl with | [_], _ => rfl
  have b_Chain_len := F_Chain_len.binds (ps := ["self"]) fun _ _ _ _ _ _ us hl => match us, hl with | [_], _ => rfl
  have b_Chain_place_of := F_Chain_place_of.binds (ps := ["self", "key"]) fun _ _ _ _ _ _ us hl => match us, hl with | [_, _], _ => rfl
  have b_Chain_has := F_Chain_has.binds (ps := ["self", "key"]) fun _ _ _ _ _ _ us hl => match us, hl with | [_, _], _ => rfl
  have b_Chain_take_out := F_Chain_take_out.binds (ps := ["self", "key"]) fun _ _ _ _ _ _ us hl => match us, hl with | [_, _], _ => rfl
  have b_Chain_keys_in := F_Chain_keys_in.binds (ps := ["self"]) fun _ _ _ _ _ _ us hl => match us, hl with | [_], _ => rfl
  have b_Chain_put := F_Chain_put.binds (ps := ["self", "key"]) fun _ _ _ _ _ _ us hl => match us, hl with | [_, _], _ => rfl
  have b__law_tell := F__law_tell.binds (ps := ["kind", "some", "what"]) fun _ _ _ _ _ _ us hl => match us, hl with | [_, _, _], _ => rfl
  have b_law := F_law.binds (ps := ["script"]) fun _ _ _ _ _ _ us hl => match us, hl with | [_], _ => rfl
  let D : Adr := { c_Rounds := c_Rounds, c_Store := c_Store, c_Marks := c_Marks, c_Counts := c_Counts, c_Versions := c_Versions, c_Link := c_Link, c_Chain := c_Chain, f__law_town := f__law_town, d__law_town := PySem.W.fnOf "_law_town" "_law_town" (defArgs s__law_town) (defBody s__law_town) (defScope s__law_town) .none kV__law_town dc__law_town pm__law_town an__law_town cd__law_town ct__law_town, f__law_draw := f__law_draw, d__law_draw := PySem.W.fnOf "_law_draw" "_law_draw" (defArgs s__law_draw) (defBody s__law_draw) (defScope s__law_draw) .none kV__law_draw dc__law_draw pm__law_draw an__law_draw cd__law_draw ct__law_draw, f_is_whole := f_is_whole, d_is_whole := PySem.W.fnOf "is_whole" "is_whole" (defArgs s_is_whole) (defBody s_is_whole) (defScope s_is_whole) .none kV_is_whole dc_is_whole pm_is_whole an_is_whole cd_is_whole ct_is_whole, f_look_number := f_look_number, d_look_number := PySem.W.fnOf "look_number" "look_number" (defArgs s_look_number) (defBody s_look_number) (defScope s_look_number) .none kV_look_number dc_look_number pm_look_number an_look_number cd_look_number ct_look_number, f_Store_init := f_Store_init, d_Store_init := PySem.W.fnOf "__init__" "Store.__init__" (defArgs s_Store_init) (defBody s_Store_init) (defScope s_Store_init) .none kV_Store_init dc_Store_init pm_Store_init an_Store_init cd_Store_init ct_Store_init, f_Rounds_init := f_Rounds_init, d_Rounds_init := PySem.W.fnOf "__init__" "Rounds.__init__" (defArgs s_Rounds_init) (defBody s_Rounds_init) (defScope s_Rounds_init) .none kV_Rounds_init dc_Rounds_init pm_Rounds_init an_Rounds_init cd_Rounds_init ct_Rounds_init, f_Marks_init := f_Marks_init, d_Marks_init := PySem.W.fnOf "__init__" "Marks.__init__" (defArgs s_Marks_init) (defBody s_Marks_init) (defScope s_Marks_init) .none kV_Marks_init dc_Marks_init pm_Marks_init an_Marks_init cd_Marks_init ct_Marks_init, f_Counts_init := f_Counts_init, d_Counts_init := PySem.W.fnOf "__init__" "Counts.__init__" (defArgs s_Counts_init) (defBody s_Counts_init) (defScope s_Counts_init) .none kV_Counts_init dc_Counts_init pm_Counts_init an_Counts_init cd_Counts_init ct_Counts_init, f_Versions_init := f_Versions_init, d_Versions_init := PySem.W.fnOf "__init__" "Versions.__init__" (defArgs s_Versions_init) (defBody s_Versions_init) (defScope s_Versions_init) (.ref td_Versions_init) kV_Versions_init dc_Versions_init pm_Versions_init an_Versions_init cd_Versions_init ct_Versions_init, f_Link_init := f_Link_init, d_Link_init := PySem.W.fnOf "__init__" "Link.__init__" (defArgs s_Link_init) (defBody s_Link_init) (defScope s_Link_init) .none kV_Link_init dc_Link_init pm_Link_init an_Link_init cd_Link_init ct_Link_init, f_Chain_init := f_Chain_init, d_Chain_init := PySem.W.fnOf "__init__" "Chain.__init__" (defArgs s_Chain_init) (defBody s_Chain_init) (defScope s_Chain_init) .none kV_Chain_init dc_Chain_init pm_Chain_init an_Chain_init cd_Chain_init ct_Chain_init, f__law_made := f__law_made, d__law_made := PySem.W.fnOf "_law_made" "_law_made" (defArgs s__law_made) (defBody s__law_made) (defScope s__law_made) .none kV__law_made dc__law_made pm__law_made an__law_made cd__law_made ct__law_made, f__law_pick := f__law_pick, d__law_pick := PySem.W.fnOf "_law_pick" "_law_pick" (defArgs s__law_pick) (defBody s__law_pick) (defScope s__law_pick) .none kV__law_pick dc__law_pick pm__law_pick an__law_pick cd__law_pick ct__law_pick, f__law_value := f__law_value, d__law_value := PySem.W.fnOf "_law_value" "_law_value" (defArgs s__law_value) (defBody s__law_value) (defScope s__law_value) .none kV__law_value dc__law_value pm__law_value an__law_value cd__law_value ct__law_value, f_Store_let_go := f_Store_let_go, d_Store_let_go := PySem.W.fnOf "let_go" "Store.let_go" (defArgs s_Store_let_go) (defBody s_Store_let_go) (defScope s_Store_let_go) .none kV_Store_let_go dc_Store_let_go pm_Store_let_go an_Store_let_go cd_Store_let_go ct_Store_let_go, f_Rounds_go_on := f_Rounds_go_on, d_Rounds_go_on := PySem.W.fnOf "go_on" "Rounds.go_on" (defArgs s_Rounds_go_on) (defBody s_Rounds_go_on) (defScope s_Rounds_go_on) .none kV_Rounds_go_on dc_Rounds_go_on pm_Rounds_go_on an_Rounds_go_on cd_Rounds_go_on ct_Rounds_go_on, f_Store_now := f_Store_now, d_Store_now := PySem.W.fnOf "now" "Store.now" (defArgs s_Store_now) (defBody s_Store_now) (defScope s_Store_now) .none kV_Store_now dc_Store_now pm_Store_now an_Store_now cd_Store_now ct_Store_now, f_Store_kept := f_Store_kept, d_Store_kept := PySem.W.fnOf "kept" "Store.kept" (defArgs s_Store_kept) (defBody s_Store_kept) (defScope s_Store_kept) .none kV_Store_kept dc_Store_kept pm_Store_kept an_Store_kept cd_Store_kept ct_Store_kept, f_Store_look_cell := f_Store_look_cell, d_Store_look_cell := PySem.W.fnOf "look_cell" "Store.look_cell" (defArgs s_Store_look_cell) (defBody s_Store_look_cell) (defScope s_Store_look_cell) .none kV_Store_look_cell dc_Store_look_cell pm_Store_look_cell an_Store_look_cell cd_Store_look_cell ct_Store_look_cell, f_Rounds_after_swap := f_Rounds_after_swap, d_Rounds_after_swap := PySem.W.fnOf "after_swap" "Rounds.after_swap" (defArgs s_Rounds_after_swap) (defBody s_Rounds_after_swap) (defScope s_Rounds_after_swap) .none kV_Rounds_after_swap dc_Rounds_after_swap pm_Rounds_after_swap an_Rounds_after_swap cd_Rounds_after_swap ct_Rounds_after_swap, f_Store_swap := f_Store_swap, d_Store_swap := PySem.W.fnOf "swap" "Store.swap" (defArgs s_Store_swap) (defBody s_Store_swap) (defScope s_Store_swap) .none kV_Store_swap dc_Store_swap pm_Store_swap an_Store_swap cd_Store_swap ct_Store_swap, f_Marks_marked := f_Marks_marked, d_Marks_marked := PySem.W.fnOf "marked" "Marks.marked" (defArgs s_Marks_marked) (defBody s_Marks_marked) (defScope s_Marks_marked) .none kV_Marks_marked dc_Marks_marked pm_Marks_marked an_Marks_marked cd_Marks_marked ct_Marks_marked, f_Marks_sweep := f_Marks_sweep, d_Marks_sweep := PySem.W.fnOf "sweep" "Marks.sweep" (defArgs s_Marks_sweep) (defBody s_Marks_sweep) (defScope s_Marks_sweep) .none kV_Marks_sweep dc_Marks_sweep pm_Marks_sweep an_Marks_sweep cd_Marks_sweep ct_Marks_sweep, f_Marks_after_swap := f_Marks_after_swap, d_Marks_after_swap := PySem.W.fnOf "after_swap" "Marks.after_swap" (defArgs s_Marks_after_swap) (defBody s_Marks_after_swap) (defScope s_Marks_after_swap) .none kV_Marks_after_swap dc_Marks_after_swap pm_Marks_after_swap an_Marks_after_swap cd_Marks_after_swap ct_Marks_after_swap, f_Store_look_hand := f_Store_look_hand, d_Store_look_hand := PySem.W.fnOf "look_hand" "Store.look_hand" (defArgs s_Store_look_hand) (defBody s_Store_look_hand) (defScope s_Store_look_hand) .none kV_Store_look_hand dc_Store_look_hand pm_Store_look_hand an_Store_look_hand cd_Store_look_hand ct_Store_look_hand, f_Marks_look_mark := f_Marks_look_mark, d_Marks_look_mark := PySem.W.fnOf "look_mark" "Marks.look_mark" (defArgs s_Marks_look_mark) (defBody s_Marks_look_mark) (defScope s_Marks_look_mark) .none kV_Marks_look_mark dc_Marks_look_mark pm_Marks_look_mark an_Marks_look_mark cd_Marks_look_mark ct_Marks_look_mark, f_Marks_state_of := f_Marks_state_of, d_Marks_state_of := PySem.W.fnOf "state_of" "Marks.state_of" (defArgs s_Marks_state_of) (defBody s_Marks_state_of) (defScope s_Marks_state_of) .none kV_Marks_state_of dc_Marks_state_of pm_Marks_state_of an_Marks_state_of cd_Marks_state_of ct_Marks_state_of, f_Marks_set_mark := f_Marks_set_mark, d_Marks_set_mark := PySem.W.fnOf "set_mark" "Marks.set_mark" (defArgs s_Marks_set_mark) (defBody s_Marks_set_mark) (defScope s_Marks_set_mark) .none kV_Marks_set_mark dc_Marks_set_mark pm_Marks_set_mark an_Marks_set_mark cd_Marks_set_mark ct_Marks_set_mark, f_Marks_fetch := f_Marks_fetch, d_Marks_fetch := PySem.W.fnOf "fetch" "Marks.fetch" (defArgs s_Marks_fetch) (defBody s_Marks_fetch) (defScope s_Marks_fetch) .none kV_Marks_fetch dc_Marks_fetch pm_Marks_fetch an_Marks_fetch cd_Marks_fetch ct_Marks_fetch, f_Counts_holds := f_Counts_holds, d_Counts_holds := PySem.W.fnOf "holds" "Counts.holds" (defArgs s_Counts_holds) (defBody s_Counts_holds) (defScope s_Counts_holds) .none kV_Counts_holds dc_Counts_holds pm_Counts_holds an_Counts_holds cd_Counts_holds ct_Counts_holds, f_Counts_count_of := f_Counts_count_of, d_Counts_count_of := PySem.W.fnOf "count_of" "Counts.count_of" (defArgs s_Counts_count_of) (defBody s_Counts_count_of) (defScope s_Counts_count_of) .none kV_Counts_count_of dc_Counts_count_of pm_Counts_count_of an_Counts_count_of cd_Counts_count_of ct_Counts_count_of, f_Store_is_out := f_Store_is_out, d_Store_is_out := PySem.W.fnOf "is_out" "Store.is_out" (defArgs s_Store_is_out) (defBody s_Store_is_out) (defScope s_Store_is_out) .none kV_Store_is_out dc_Store_is_out pm_Store_is_out an_Store_is_out cd_Store_is_out ct_Store_is_out, f_Counts_loose := f_Counts_loose, d_Counts_loose := PySem.W.fnOf "loose" "Counts.loose" (defArgs s_Counts_loose) (defBody s_Counts_loose) (defScope s_Counts_loose) .none kV_Counts_loose dc_Counts_loose pm_Counts_loose an_Counts_loose cd_Counts_loose ct_Counts_loose, f_Counts_after_swap := f_Counts_after_swap, d_Counts_after_swap := PySem.W.fnOf "after_swap" "Counts.after_swap" (defArgs s_Counts_after_swap) (defBody s_Counts_after_swap) (defScope s_Counts_after_swap) .none kV_Counts_after_swap dc_Counts_after_swap pm_Counts_after_swap an_Counts_after_swap cd_Counts_after_swap ct_Counts_after_swap, f_Counts_hold := f_Counts_hold, d_Counts_hold := PySem.W.fnOf "hold" "Counts.hold" (defArgs s_Counts_hold) (defBody s_Counts_hold) (defScope s_Counts_hold) .none kV_Counts_hold dc_Counts_hold pm_Counts_hold an_Counts_hold cd_Counts_hold ct_Counts_hold, f_Versions_version_now := f_Versions_version_now, d_Versions_version_now := PySem.W.fnOf "version_now" "Versions.version_now" (defArgs s_Versions_version_now) (defBody s_Versions_version_now) (defScope s_Versions_version_now) .none kV_Versions_version_now dc_Versions_version_now pm_Versions_version_now an_Versions_version_now cd_Versions_version_now ct_Versions_version_now, f_Versions_trim := f_Versions_trim, d_Versions_trim := PySem.W.fnOf "trim" "Versions.trim" (defArgs s_Versions_trim) (defBody s_Versions_trim) (defScope s_Versions_trim) .none kV_Versions_trim dc_Versions_trim pm_Versions_trim an_Versions_trim cd_Versions_trim ct_Versions_trim, f_Versions_look_cell := f_Versions_look_cell, d_Versions_look_cell := PySem.W.fnOf "look_cell" "Versions.look_cell" (defArgs s_Versions_look_cell) (defBody s_Versions_look_cell) (defScope s_Versions_look_cell) .none kV_Versions_look_cell dc_Versions_look_cell pm_Versions_look_cell an_Versions_look_cell cd_Versions_look_cell ct_Versions_look_cell, f_Versions_kept := f_Versions_kept, d_Versions_kept := PySem.W.fnOf "kept" "Versions.kept" (defArgs s_Versions_kept) (defBody s_Versions_kept) (defScope s_Versions_kept) .none kV_Versions_kept dc_Versions_kept pm_Versions_kept an_Versions_kept cd_Versions_kept ct_Versions_kept, f_Versions_now := f_Versions_now, d_Versions_now := PySem.W.fnOf "now" "Versions.now" (defArgs s_Versions_now) (defBody s_Versions_now) (defScope s_Versions_now) .none kV_Versions_now dc_Versions_now pm_Versions_now an_Versions_now cd_Versions_now ct_Versions_now, f_Versions_look_pairs := f_Versions_look_pairs, d_Versions_look_pairs := PySem.W.fnOf "look_pairs" "Versions.look_pairs" (defArgs s_Versions_look_pairs) (defBody s_Versions_look_pairs) (defScope s_Versions_look_pairs) .none kV_Versions_look_pairs dc_Versions_look_pairs pm_Versions_look_pairs an_Versions_look_pairs cd_Versions_look_pairs ct_Versions_look_pairs, f_Versions_write := f_Versions_write, d_Versions_write := PySem.W.fnOf "write" "Versions.write" (defArgs s_Versions_write) (defBody s_Versions_write) (defScope s_Versions_write) .none kV_Versions_write dc_Versions_write pm_Versions_write an_Versions_write cd_Versions_write ct_Versions_write, f_Chain_go_on := f_Chain_go_on, d_Chain_go_on := PySem.W.fnOf "go_on" "Chain.go_on" (defArgs s_Chain_go_on) (defBody s_Chain_go_on) (defScope s_Chain_go_on) .none kV_Chain_go_on dc_Chain_go_on pm_Chain_go_on an_Chain_go_on cd_Chain_go_on ct_Chain_go_on, f_Chain_len := f_Chain_len, d_Chain_len := PySem.W.fnOf "__len__" "Chain.__len__" (defArgs s_Chain_len) (defBody s_Chain_len) (defScope s_Chain_len) .none kV_Chain_len dc_Chain_len pm_Chain_len an_Chain_len cd_Chain_len ct_Chain_len, f_Chain_place_of := f_Chain_place_of, d_Chain_place_of := PySem.W.fnOf "place_of" "Chain.place_of" (defArgs s_Chain_place_of) (defBody s_Chain_place_of) (defScope s_Chain_place_of) .none kV_Chain_place_of dc_Chain_place_of pm_Chain_place_of an_Chain_place_of cd_Chain_place_of ct_Chain_place_of, f_Chain_has := f_Chain_has, d_Chain_has := PySem.W.fnOf "has" "Chain.has" (defArgs s_Chain_has) (defBody s_Chain_has) (defScope s_Chain_has) .none kV_Chain_has dc_Chain_has pm_Chain_has an_Chain_has cd_Chain_has ct_Chain_has, f_Chain_take_out := f_Chain_take_out, d_Chain_take_out := PySem.W.fnOf "take_out" "Chain.take_out" (defArgs s_Chain_take_out) (defBody s_Chain_take_out) (defScope s_Chain_take_out) .none kV_Chain_take_out dc_Chain_take_out pm_Chain_take_out an_Chain_take_out cd_Chain_take_out ct_Chain_take_out, f_Chain_keys_in := f_Chain_keys_in, d_Chain_keys_in := PySem.W.fnOf "keys_in" "Chain.keys_in" (defArgs s_Chain_keys_in) (defBody s_Chain_keys_in) (defScope s_Chain_keys_in) .none kV_Chain_keys_in dc_Chain_keys_in pm_Chain_keys_in an_Chain_keys_in cd_Chain_keys_in ct_Chain_keys_in, f_Chain_put := f_Chain_put, d_Chain_put := PySem.W.fnOf "put" "Chain.put" (defArgs s_Chain_put) (defBody s_Chain_put) (defScope s_Chain_put) .none kV_Chain_put dc_Chain_put pm_Chain_put an_Chain_put cd_Chain_put ct_Chain_put, f__law_tell := f__law_tell, d__law_tell := PySem.W.fnOf "_law_tell" "_law_tell" (defArgs s__law_tell) (defBody s__law_tell) (defScope s__law_tell) .none kV__law_tell dc__law_tell pm__law_tell an__law_tell cd__law_tell ct__law_tell, f_law := fa, d_law := PySem.W.fnOf "law" "law" (defArgs s_law) (defBody s_law) (defScope s_law) .none kV_law dc_law pm_law an_law cd_law ct_law, ds_Versions_init := ds_Versions_init, t_END := t_END, t_MARKS := t_MARKS, t_MOST_CELLS := t_MOST_CELLS, t_MOST_HANDS_chains := t_MOST_HANDS_chains, t_MOST_HANDS_stores := t_MOST_HANDS_stores, t_MOST_KEY := t_MOST_KEY, t_MOST_VALUE := t_MOST_VALUE }
  have T : Txt K mg D :=
    { F__law_town := F__law_town, b__law_town := b__law_town,
      g__law_town := PySem.W.mg_of X G a__law_town,
      F__law_draw := F__law_draw, b__law_draw := b__law_draw,
      g__law_draw := PySem.W.mg_of X G a__law_draw,
      F_is_whole := F_is_whole, b_is_whole := b_is_whole,
      g_is_whole := PySem.W.mg_of X G a_is_whole,
      F_look_number := F_look_number, b_look_number := b_look_number,
      g_look_number := PySem.W.mg_of X G a_look_number,
      F_Store_init := F_Store_init, b_Store_init := b_Store_init,
      F_Rounds_init := F_Rounds_init, b_Rounds_init := b_Rounds_init,
      F_Marks_init := F_Marks_init, b_Marks_init := b_Marks_init,
      F_Counts_init := F_Counts_init, b_Counts_init := b_Counts_init,
      F_Versions_init := F_Versions_init, b_Versions_init := b_Versions_init,
      bd_Versions_init := bd_Versions_init, vd_Versions_init := vd_Versions_init, kb_Versions_init := kb_Versions_init,
      F_Link_init := F_Link_init, b_Link_init := b_Link_init,
      F_Chain_init := F_Chain_init, b_Chain_init := b_Chain_init,
      F__law_made := F__law_made, b__law_made := b__law_made,
      g__law_made := PySem.W.mg_of X G a__law_made,
      F__law_pick := F__law_pick, b__law_pick := b__law_pick,
      g__law_pick := PySem.W.mg_of X G a__law_pick,
      F__law_value := F__law_value, b__law_value := b__law_value,
      g__law_value := PySem.W.mg_of X G a__law_value,
      F_Store_let_go := F_Store_let_go, b_Store_let_go := b_Store_let_go,
      F_Rounds_go_on := F_Rounds_go_on, b_Rounds_go_on := b_Rounds_go_on,
      F_Store_now := F_Store_now, b_Store_now := b_Store_now,
      F_Store_kept := F_Store_kept, b_Store_kept := b_Store_kept,
      F_Store_look_cell := F_Store_look_cell, b_Store_look_cell := b_Store_look_cell,
      F_Rounds_after_swap := F_Rounds_after_swap, b_Rounds_after_swap := b_Rounds_after_swap,
      F_Store_swap := F_Store_swap, b_Store_swap := b_Store_swap,
      F_Marks_marked := F_Marks_marked, b_Marks_marked := b_Marks_marked,
      F_Marks_sweep := F_Marks_sweep, b_Marks_sweep := b_Marks_sweep,
      F_Marks_after_swap := F_Marks_after_swap, b_Marks_after_swap := b_Marks_after_swap,
      F_Store_look_hand := F_Store_look_hand, b_Store_look_hand := b_Store_look_hand,
      F_Marks_look_mark := F_Marks_look_mark, b_Marks_look_mark := b_Marks_look_mark,
      F_Marks_state_of := F_Marks_state_of, b_Marks_state_of := b_Marks_state_of,
      F_Marks_set_mark := F_Marks_set_mark, b_Marks_set_mark := b_Marks_set_mark,
      F_Marks_fetch := F_Marks_fetch, b_Marks_fetch := b_Marks_fetch,
      F_Counts_holds := F_Counts_holds, b_Counts_holds := b_Counts_holds,
      F_Counts_count_of := F_Counts_count_of, b_Counts_count_of := b_Counts_count_of,
      F_Store_is_out := F_Store_is_out, b_Store_is_out := b_Store_is_out,
      F_Counts_loose := F_Counts_loose, b_Counts_loose := b_Counts_loose,
      F_Counts_after_swap := F_Counts_after_swap, b_Counts_after_swap := b_Counts_after_swap,
      F_Counts_hold := F_Counts_hold, b_Counts_hold := b_Counts_hold,
      F_Versions_version_now := F_Versions_version_now, b_Versions_version_now := b_Versions_version_now,
      F_Versions_trim := F_Versions_trim, b_Versions_trim := b_Versions_trim,
      F_Versions_look_cell := F_Versions_look_cell, b_Versions_look_cell := b_Versions_look_cell,
      F_Versions_kept := F_Versions_kept, b_Versions_kept := b_Versions_kept,
      F_Versions_now := F_Versions_now, b_Versions_now := b_Versions_now,
      F_Versions_look_pairs := F_Versions_look_pairs, b_Versions_look_pairs := b_Versions_look_pairs,
      F_Versions_write := F_Versions_write, b_Versions_write := b_Versions_write,
      F_Chain_go_on := F_Chain_go_on, b_Chain_go_on := b_Chain_go_on,
      F_Chain_len := F_Chain_len, b_Chain_len := b_Chain_len,
      F_Chain_place_of := F_Chain_place_of, b_Chain_place_of := b_Chain_place_of,
      F_Chain_has := F_Chain_has, b_Chain_has := b_Chain_has,
      F_Chain_take_out := F_Chain_take_out, b_Chain_take_out := b_Chain_take_out,
      F_Chain_keys_in := F_Chain_keys_in, b_Chain_keys_in := b_Chain_keys_in,
      F_Chain_put := F_Chain_put, b_Chain_put := b_Chain_put,
      F__law_tell := F__law_tell, b__law_tell := b__law_tell,
      g__law_tell := PySem.W.mg_of X G a__law_tell,
      F_law := F_law, b_law := b_law,
      g_law := PySem.W.mg_of X G a_law,
      cl_Rounds := ⟨pg_Rounds, hd_Rounds, po_Rounds, sa_Rounds⟩, g_Rounds := PySem.W.mg_of X G aC_Rounds,
      na_Rounds_hands := na_Rounds_hands,
      na_Rounds_worth := na_Rounds_worth,
      na_Rounds_cells := na_Rounds_cells,
      na_Rounds_made := na_Rounds_made,
      na_Rounds_era := na_Rounds_era,
      na_Rounds_inside := na_Rounds_inside,
      na_Rounds_saw := na_Rounds_saw,
      na_Rounds_waits := na_Rounds_waits,
      mk_Rounds := ⟨mk_Rounds, ai_Rounds, ii_Rounds, kc_Rounds⟩,
      cl_Store := ⟨pg_Store, hd_Store, po_Store, sa_Store⟩, g_Store := PySem.W.mg_of X G aC_Store,
      cl_Marks := ⟨pg_Marks, hd_Marks, po_Marks, sa_Marks⟩, g_Marks := PySem.W.mg_of X G aC_Marks,
      na_Marks_hands := na_Marks_hands,
      na_Marks_worth := na_Marks_worth,
      na_Marks_cells := na_Marks_cells,
      na_Marks_made := na_Marks_made,
      na_Marks_marks := na_Marks_marks,
      na_Marks_waits := na_Marks_waits,
      mk_Marks := ⟨mk_Marks, ai_Marks, ii_Marks, kc_Marks⟩,
      cl_Counts := ⟨pg_Counts, hd_Counts, po_Counts, sa_Counts⟩, g_Counts := PySem.W.mg_of X G aC_Counts,
      na_Counts_hands := na_Counts_hands,
      na_Counts_worth := na_Counts_worth,
      na_Counts_cells := na_Counts_cells,
      na_Counts_made := na_Counts_made,
      na_Counts_held := na_Counts_held,
      mk_Counts := ⟨mk_Counts, ai_Counts, ii_Counts, kc_Counts⟩,
      cl_Versions := ⟨pg_Versions, hd_Versions, po_Versions, sa_Versions⟩, g_Versions := PySem.W.mg_of X G aC_Versions,
      na_Versions_hands := na_Versions_hands,
      na_Versions_rows := na_Versions_rows,
      na_Versions_version := na_Versions_version,
      na_Versions_begun := na_Versions_begun,
      na_Versions_asked := na_Versions_asked,
      mk_Versions := ⟨mk_Versions, ai_Versions, ii_Versions, kc_Versions⟩,
      cl_Link := ⟨pg_Link, hd_Link, po_Link, sa_Link⟩, g_Link := PySem.W.mg_of X G aC_Link,
      na_Link_key := na_Link_key,
      na_Link_after := na_Link_after,
      mk_Link := ⟨mk_Link, ai_Link, ii_Link, kc_Link⟩,
      cl_Chain := ⟨pg_Chain, hd_Chain, po_Chain, sa_Chain⟩, g_Chain := PySem.W.mg_of X G aC_Chain,
      na_Chain_hands := na_Chain_hands,
      na_Chain_links := na_Chain_links,
      na_Chain_made := na_Chain_made,
      na_Chain_era := na_Chain_era,
      na_Chain_inside := na_Chain_inside,
      na_Chain_at := na_Chain_at,
      na_Chain_waits := na_Chain_waits,
      mk_Chain := ⟨mk_Chain, ai_Chain, ii_Chain, kc_Chain⟩,
      me_Rounds_let_go := ⟨am_Rounds_let_go, im_Store_let_go, k_Store_let_go⟩,
      me_Rounds_go_on := ⟨am_Rounds_go_on, im_Rounds_go_on, k_Rounds_go_on⟩,
      me_Rounds_now := ⟨am_Rounds_now, im_Store_now, k_Store_now⟩,
      me_Rounds_kept := ⟨am_Rounds_kept, im_Store_kept, k_Store_kept⟩,
      me_Rounds_look_cell := ⟨am_Rounds_look_cell, im_Store_look_cell, k_Store_look_cell⟩,
      me_Rounds_after_swap := ⟨am_Rounds_after_swap, im_Rounds_after_swap, k_Rounds_after_swap⟩,
      me_Rounds_swap := ⟨am_Rounds_swap, im_Store_swap, k_Store_swap⟩,
      me_Marks_kept := ⟨am_Marks_kept, im_Store_kept, k_Store_kept⟩,
      me_Marks_marked := ⟨am_Marks_marked, im_Marks_marked, k_Marks_marked⟩,
      me_Marks_let_go := ⟨am_Marks_let_go, im_Store_let_go, k_Store_let_go⟩,
      me_Marks_sweep := ⟨am_Marks_sweep, im_Marks_sweep, k_Marks_sweep⟩,
      me_Marks_look_cell := ⟨am_Marks_look_cell, im_Store_look_cell, k_Store_look_cell⟩,
      me_Marks_after_swap := ⟨am_Marks_after_swap, im_Marks_after_swap, k_Marks_after_swap⟩,
      me_Marks_swap := ⟨am_Marks_swap, im_Store_swap, k_Store_swap⟩,
      me_Marks_look_hand := ⟨am_Marks_look_hand, im_Store_look_hand, k_Store_look_hand⟩,
      me_Marks_look_mark := ⟨am_Marks_look_mark, im_Marks_look_mark, k_Marks_look_mark⟩,
      me_Marks_state_of := ⟨am_Marks_state_of, im_Marks_state_of, k_Marks_state_of⟩,
      me_Marks_set_mark := ⟨am_Marks_set_mark, im_Marks_set_mark, k_Marks_set_mark⟩,
      me_Marks_fetch := ⟨am_Marks_fetch, im_Marks_fetch, k_Marks_fetch⟩,
      me_Counts_kept := ⟨am_Counts_kept, im_Store_kept, k_Store_kept⟩,
      me_Counts_look_hand := ⟨am_Counts_look_hand, im_Store_look_hand, k_Store_look_hand⟩,
      me_Counts_holds := ⟨am_Counts_holds, im_Counts_holds, k_Counts_holds⟩,
      me_Counts_look_cell := ⟨am_Counts_look_cell, im_Store_look_cell, k_Store_look_cell⟩,
      me_Counts_count_of := ⟨am_Counts_count_of, im_Counts_count_of, k_Counts_count_of⟩,
      me_Counts_is_out := ⟨am_Counts_is_out, im_Store_is_out, k_Store_is_out⟩,
      me_Counts_let_go := ⟨am_Counts_let_go, im_Store_let_go, k_Store_let_go⟩,
      me_Counts_loose := ⟨am_Counts_loose, im_Counts_loose, k_Counts_loose⟩,
      me_Counts_after_swap := ⟨am_Counts_after_swap, im_Counts_after_swap, k_Counts_after_swap⟩,
      me_Counts_swap := ⟨am_Counts_swap, im_Store_swap, k_Store_swap⟩,
      me_Counts_hold := ⟨am_Counts_hold, im_Counts_hold, k_Counts_hold⟩,
      me_Versions_version_now := ⟨am_Versions_version_now, im_Versions_version_now, k_Versions_version_now⟩,
      me_Versions_trim := ⟨am_Versions_trim, im_Versions_trim, k_Versions_trim⟩,
      me_Versions_look_cell := ⟨am_Versions_look_cell, im_Versions_look_cell, k_Versions_look_cell⟩,
      me_Versions_kept := ⟨am_Versions_kept, im_Versions_kept, k_Versions_kept⟩,
      me_Versions_now := ⟨am_Versions_now, im_Versions_now, k_Versions_now⟩,
      me_Versions_look_pairs := ⟨am_Versions_look_pairs, im_Versions_look_pairs, k_Versions_look_pairs⟩,
      me_Versions_write := ⟨am_Versions_write, im_Versions_write, k_Versions_write⟩,
      me_Chain_go_on := ⟨am_Chain_go_on, im_Chain_go_on, k_Chain_go_on⟩,
      me_Chain___len__ := ⟨am_Chain___len__, im_Chain_len, k_Chain_len⟩,
      me_Chain_place_of := ⟨am_Chain_place_of, im_Chain_place_of, k_Chain_place_of⟩,
      me_Chain_has := ⟨am_Chain_has, im_Chain_has, k_Chain_has⟩,
      me_Chain_take_out := ⟨am_Chain_take_out, im_Chain_take_out, k_Chain_take_out⟩,
      me_Chain_keys_in := ⟨am_Chain_keys_in, im_Chain_keys_in, k_Chain_keys_in⟩,
      me_Chain_put := ⟨am_Chain_put, im_Chain_put, k_Chain_put⟩,
      cf_Store_init := ⟨cr_Store_init, cg_Store_init, ca_Store_init, k_Store_init⟩,
      m_all := PySem.W.mg_none_of X G z_all,
      m_bool := PySem.W.mg_none_of X G z_bool,
      m_dict := PySem.W.mg_none_of X G z_dict,
      m_int := PySem.W.mg_none_of X G z_int,
      m_isinstance := PySem.W.mg_none_of X G z_isinstance,
      m_len := PySem.W.mg_none_of X G z_len,
      m_list := PySem.W.mg_none_of X G z_list,
      m_max := PySem.W.mg_none_of X G z_max,
      m_range := PySem.W.mg_none_of X G z_range,
      m_set := PySem.W.mg_none_of X G z_set,
      m_sorted := PySem.W.mg_none_of X G z_sorted,
      m_sum := PySem.W.mg_none_of X G z_sum,
      m_tuple := PySem.W.mg_none_of X G z_tuple,
      k_END := PySem.W.mg_of X G zk_END,
      k_MARKS := PySem.W.mg_of X G zk_MARKS,
      k_MOST_CELLS := PySem.W.mg_of X G zk_MOST_CELLS,
      k_MOST_HANDS_chains := PySem.W.mg_of X G zk_MOST_HANDS_chains,
      k_MOST_HANDS_stores := PySem.W.mg_of X G zk_MOST_HANDS_stores,
      k_MOST_KEY := PySem.W.mg_of X G zk_MOST_KEY,
      k_MOST_VALUE := PySem.W.mg_of X G zk_MOST_VALUE }
  exact ⟨_, fun s v => .of_eq rfl, fun base _ _ => ok_law T⟩
theorem walk {l : PySem.W.OpenLaw} {q : Program} {loose : List Str} {XP : (Str → Option Value) → Heap → Prop} {YP : World → Heap → Prop} {d : DefRec} {K : Params → PySem.W.Frag} (hn : l.most = some 63) (hdf : d.params.defaults = [])
    (hY : ∀ (w : World) (h : Heap), YP w h → (K w.params).In h)
    (F : ∀ (w : World) (mg : Str → Option Value) (fa : Addr) (h : Heap), (K w.params).In h → h.Ns mainGlobals mg → mg d.name = some (.ref fa) →
      ∃ fd : FuncData, (∀ (s : Shared) (u : Value), BindsTo s fd ⟨[u], []⟩ [("script", u)]) ∧ ∀ base : Heap, (K w.params).In base → base.Ns mainGlobals mg → FnOk l.prog w (K w.params) mg base CX0 7 fa fd ["script"] (sp_law (K w.params))) :
    PySem.W.WalkO q loose XP YP l.row.toRowW d [] (fun f vs => PySem.call f vs) :=
  L2.walk_of (n := 63) (k := 7) (x := "script") (CX := fun _ => CX0) (sp := fun w => sp_law (K w.params)) hn (by decide) hdf ⟨rfl, by decide, by decide⟩ hY F (fun _ _ a ns hl _ hS => ⟨a, ns, rfl, hS, hl, fun _ => rfl⟩) fun _ _ _ _ _ z => z
end La
open PySem PySem.W PyProof.Rows in
set_option maxRecDepth 100000 in
set_option maxHeartbeats 0 in
theorem PySem.Challenge.cw_lastreader_k22_whole_own_ways_holds : PySem.Challenge.rw_lastreader_k22_whole_own_ways.Holds := by
  w_on; o_law; k_head; (case hw => w_witness2)
  k_fill
  refine La.walk (l := PySem.Challenge.rw_lastreader_k22_whole_own_ways) rfl rfl (fun w h Y => PySem.W.kIn_of Y) ?F
  case F =>
    intro w mg fa h KX G hmg
    refine' La.all_mk KX G hmg ?aC_Rounds ?pg_Rounds ?hd_Rounds ?po_Rounds ?sa_Rounds ?mk_Rounds ?kc_Rounds ?ai_Rounds ?ii_Rounds ?na_Rounds_hands ?na_Rounds_worth ?na_Rounds_cells ?na_Rounds_made ?na_Rounds_era ?na_Rounds_inside ?na_Rounds_saw ?na_Rounds_waits ?aC_Store ?pg_Store ?hd_Store ?po_Store ?sa_Store ?aC_Marks ?pg_Marks ?hd_Marks ?po_Marks ?sa_Marks ?mk_Marks ?kc_Marks ?ai_Marks ?ii_Marks ?na_Marks_hands ?na_Marks_worth ?na_Marks_cells ?na_Marks_made ?na_Marks_marks ?na_Marks_waits ?aC_Counts ?pg_Counts ?hd_Counts ?po_Counts ?sa_Counts ?mk_Counts ?kc_Counts ?ai_Counts ?ii_Counts ?na_Counts_hands ?na_Counts_worth ?na_Counts_cells ?na_Counts_made ?na_Counts_held ?aC_Versions ?pg_Versions ?hd_Versions ?po_Versions ?sa_Versions ?mk_Versions ?kc_Versions ?ai_Versions ?ii_Versions ?na_Versions_hands ?na_Versions_rows ?na_Versions_version ?na_Versions_begun ?na_Versions_asked ?aC_Link ?pg_Link ?hd_Link ?po_Link ?sa_Link ?mk_Link ?kc_Link ?ai_Link ?ii_Link ?na_Link_key ?na_Link_after ?aC_Chain ?pg_Chain ?hd_Chain ?po_Chain ?sa_Chain ?mk_Chain ?kc_Chain ?ai_Chain ?ii_Chain ?na_Chain_hands ?na_Chain_links ?na_Chain_made ?na_Chain_era ?na_Chain_inside ?na_Chain_at ?na_Chain_waits ?am_Rounds_let_go ?am_Rounds_go_on ?am_Rounds_now ?am_Rounds_kept ?am_Rounds_look_cell ?am_Rounds_after_swap ?am_Rounds_swap ?am_Marks_kept ?am_Marks_marked ?am_Marks_let_go ?am_Marks_sweep ?am_Marks_look_cell ?am_Marks_after_swap ?am_Marks_swap ?am_Marks_look_hand ?am_Marks_look_mark ?am_Marks_state_of ?am_Marks_set_mark ?am_Marks_fetch ?am_Counts_kept ?am_Counts_look_hand ?am_Counts_holds ?am_Counts_look_cell ?am_Counts_count_of ?am_Counts_is_out ?am_Counts_let_go ?am_Counts_loose ?am_Counts_after_swap ?am_Counts_swap ?am_Counts_hold ?am_Versions_version_now ?am_Versions_trim ?am_Versions_look_cell ?am_Versions_kept ?am_Versions_now ?am_Versions_look_pairs ?am_Versions_write ?am_Chain_go_on ?am_Chain___len__ ?am_Chain_place_of ?am_Chain_has ?am_Chain_take_out ?am_Chain_keys_in ?am_Chain_put ?cr_Store_init ?cg_Store_init ?ca_Store_init ?im_Store_let_go ?im_Rounds_go_on ?im_Store_now ?im_Store_kept ?im_Store_look_cell ?im_Rounds_after_swap ?im_Store_swap ?im_Marks_marked ?im_Marks_sweep ?im_Marks_after_swap ?im_Store_look_hand ?im_Marks_look_mark ?im_Marks_state_of ?im_Marks_set_mark ?im_Marks_fetch ?im_Counts_holds ?im_Counts_count_of ?im_Store_is_out ?im_Counts_loose ?im_Counts_after_swap ?im_Counts_hold ?im_Versions_version_now ?im_Versions_trim ?im_Versions_look_cell ?im_Versions_kept ?im_Versions_now ?im_Versions_look_pairs ?im_Versions_write ?im_Chain_go_on ?im_Chain_len ?im_Chain_place_of ?im_Chain_has ?im_Chain_take_out ?im_Chain_keys_in ?im_Chain_put ?a__law_town ?l__law_town ?c__law_town ?k__law_town ?a__law_draw ?l__law_draw ?c__law_draw ?k__law_draw ?a_is_whole ?l_is_whole ?c_is_whole ?k_is_whole ?a_look_number ?l_look_number ?c_look_number ?k_look_number ?l_Store_init ?c_Store_init ?k_Store_init ?l_Rounds_init ?c_Rounds_init ?k_Rounds_init ?l_Marks_init ?c_Marks_init ?k_Marks_init ?l_Counts_init ?c_Counts_init ?k_Counts_init ?l_Versions_init ?lt_Versions_init ?c_Versions_init ?k_Versions_init ?l_Link_init ?c_Link_init ?k_Link_init ?l_Chain_init ?c_Chain_init ?k_Chain_init ?a__law_made ?l__law_made ?c__law_made ?k__law_made ?a__law_pick ?l__law_pick ?c__law_pick ?k__law_pick ?a__law_value ?l__law_value ?c__law_value ?k__law_value ?l_Store_let_go ?c_Store_let_go ?k_Store_let_go ?l_Rounds_go_on ?c_Rounds_go_on ?k_Rounds_go_on ?l_Store_now ?c_Store_now ?k_Store_now ?l_Store_kept ?c_Store_kept ?k_Store_kept ?l_Store_look_cell ?c_Store_look_cell ?k_Store_look_cell ?l_Rounds_after_swap ?c_Rounds_after_swap ?k_Rounds_after_swap ?l_Store_swap ?c_Store_swap ?k_Store_swap ?l_Marks_marked ?c_Marks_marked ?k_Marks_marked ?l_Marks_sweep ?c_Marks_sweep ?k_Marks_sweep ?l_Marks_after_swap ?c_Marks_after_swap ?k_Marks_after_swap ?l_Store_look_hand ?c_Store_look_hand ?k_Store_look_hand ?l_Marks_look_mark ?c_Marks_look_mark ?k_Marks_look_mark ?l_Marks_state_of ?c_Marks_state_of ?k_Marks_state_of ?l_Marks_set_mark ?c_Marks_set_mark ?k_Marks_set_mark ?l_Marks_fetch ?c_Marks_fetch ?k_Marks_fetch ?l_Counts_holds ?c_Counts_holds ?k_Counts_holds ?l_Counts_count_of ?c_Counts_count_of ?k_Counts_count_of ?l_Store_is_out ?c_Store_is_out ?k_Store_is_out ?l_Counts_loose ?c_Counts_loose ?k_Counts_loose ?l_Counts_after_swap ?c_Counts_after_swap ?k_Counts_after_swap ?l_Counts_hold ?c_Counts_hold ?k_Counts_hold ?l_Versions_version_now ?c_Versions_version_now ?k_Versions_version_now ?l_Versions_trim ?c_Versions_trim ?k_Versions_trim ?l_Versions_look_cell ?c_Versions_look_cell ?k_Versions_look_cell ?l_Versions_kept ?c_Versions_kept ?k_Versions_kept ?l_Versions_now ?c_Versions_now ?k_Versions_now ?l_Versions_look_pairs ?c_Versions_look_pairs ?k_Versions_look_pairs ?l_Versions_write ?c_Versions_write ?k_Versions_write ?l_Chain_go_on ?c_Chain_go_on ?k_Chain_go_on ?l_Chain_len ?c_Chain_len ?k_Chain_len ?l_Chain_place_of ?c_Chain_place_of ?k_Chain_place_of ?l_Chain_has ?c_Chain_has ?k_Chain_has ?l_Chain_take_out ?c_Chain_take_out ?k_Chain_take_out ?l_Chain_keys_in ?c_Chain_keys_in ?k_Chain_keys_in ?l_Chain_put ?c_Chain_put ?k_Chain_put ?a__law_tell ?l__law_tell ?c__law_tell ?k__law_tell ?a_law ?l_law ?c_law ?k_law ?z_all ?z_bool ?z_dict ?z_int ?z_isinstance ?z_len ?z_list ?z_max ?z_range ?z_set ?z_sorted ?z_sum ?z_tuple ?zk_END ?zk_MARKS ?zk_MOST_CELLS ?zk_MOST_HANDS_chains ?zk_MOST_HANDS_stores ?zk_MOST_KEY ?zk_MOST_VALUE
    (case aC_Rounds => k_is)
    (case pg_Rounds => k_is)
    (case hd_Rounds => k_is)
    (case po_Rounds => k_is)
    (case sa_Rounds => k_is)
    (case mk_Rounds => k_is)
    (case kc_Rounds => k_is)
    (case ai_Rounds => k_is)
    (case ii_Rounds => k_is)
    (case na_Rounds_hands => k_is)
    (case na_Rounds_worth => k_is)
    (case na_Rounds_cells => k_is)
    (case na_Rounds_made => k_is)
    (case na_Rounds_era => k_is)
    (case na_Rounds_inside => k_is)
    (case na_Rounds_saw => k_is)
    (case na_Rounds_waits => k_is)
    (case aC_Store => k_is)
    (case pg_Store => k_is)
    (case hd_Store => k_is)
    (case po_Store => k_is)
    (case sa_Store => k_is)
    (case aC_Marks => k_is)
    (case pg_Marks => k_is)
    (case hd_Marks => k_is)
    (case po_Marks => k_is)
    (case sa_Marks => k_is)
    (case mk_Marks => k_is)
    (case kc_Marks => k_is)
    (case ai_Marks => k_is)
    (case ii_Marks => k_is)
    (case na_Marks_hands => k_is)
    (case na_Marks_worth => k_is)
    (case na_Marks_cells => k_is)
    (case na_Marks_made => k_is)
    (case na_Marks_marks => k_is)
    (case na_Marks_waits => k_is)
    (case aC_Counts => k_is)
    (case pg_Counts => k_is)
    (case hd_Counts => k_is)
    (case po_Counts => k_is)
    (case sa_Counts => k_is)
    (case mk_Counts => k_is)
    (case kc_Counts => k_is)
    (case ai_Counts => k_is)
    (case ii_Counts => k_is)
    (case na_Counts_hands => k_is)
    (case na_Counts_worth => k_is)
    (case na_Counts_cells => k_is)
    (case na_Counts_made => k_is)
    (case na_Counts_held => k_is)
    (case aC_Versions => k_is)
    (case pg_Versions => k_is)
    (case hd_Versions => k_is)
    (case po_Versions => k_is)
    (case sa_Versions => k_is)
    (case mk_Versions => k_is)
    (case kc_Versions => k_is)
    (case ai_Versions => k_is)
    (case ii_Versions => k_is)
    (case na_Versions_hands => k_is)
    (case na_Versions_rows => k_is)
    (case na_Versions_version => k_is)
    (case na_Versions_begun => k_is)
    (case na_Versions_asked => k_is)
    (case aC_Link => k_is)
    (case pg_Link => k_is)
    (case hd_Link => k_is)
    (case po_Link => k_is)
    (case sa_Link => k_is)
    (case mk_Link => k_is)
    (case kc_Link => k_is)
    (case ai_Link => k_is)
    (case ii_Link => k_is)
    (case na_Link_key => k_is)
    (case na_Link_after => k_is)
    (case aC_Chain => k_is)
    (case pg_Chain => k_is)
    (case hd_Chain => k_is)
    (case po_Chain => k_is)
    (case sa_Chain => k_is)
    (case mk_Chain => k_is)
    (case kc_Chain => k_is)
    (case ai_Chain => k_is)
    (case ii_Chain => k_is)
    (case na_Chain_hands => k_is)
    (case na_Chain_links => k_is)
    (case na_Chain_made => k_is)
    (case na_Chain_era => k_is)
    (case na_Chain_inside => k_is)
    (case na_Chain_at => k_is)
    (case na_Chain_waits => k_is)
    (case am_Rounds_let_go => k_is)
    (case am_Rounds_go_on => k_is)
    (case am_Rounds_now => k_is)
    (case am_Rounds_kept => k_is)
    (case am_Rounds_look_cell => k_is)
    (case am_Rounds_after_swap => k_is)
    (case am_Rounds_swap => k_is)
    (case am_Marks_kept => k_is)
    (case am_Marks_marked => k_is)
    (case am_Marks_let_go => k_is)
    (case am_Marks_sweep => k_is)
    (case am_Marks_look_cell => k_is)
    (case am_Marks_after_swap => k_is)
    (case am_Marks_swap => k_is)
    (case am_Marks_look_hand => k_is)
    (case am_Marks_look_mark => k_is)
    (case am_Marks_state_of => k_is)
    (case am_Marks_set_mark => k_is)
    (case am_Marks_fetch => k_is)
    (case am_Counts_kept => k_is)
    (case am_Counts_look_hand => k_is)
    (case am_Counts_holds => k_is)
    (case am_Counts_look_cell => k_is)
    (case am_Counts_count_of => k_is)
    (case am_Counts_is_out => k_is)
    (case am_Counts_let_go => k_is)
    (case am_Counts_loose => k_is)
    (case am_Counts_after_swap => k_is)
    (case am_Counts_swap => k_is)
    (case am_Counts_hold => k_is)
    (case am_Versions_version_now => k_is)
    (case am_Versions_trim => k_is)
    (case am_Versions_look_cell => k_is)
    (case am_Versions_kept => k_is)
    (case am_Versions_now => k_is)
    (case am_Versions_look_pairs => k_is)
    (case am_Versions_write => k_is)
    (case am_Chain_go_on => k_is)
    (case am_Chain___len__ => k_is)
    (case am_Chain_place_of => k_is)
    (case am_Chain_has => k_is)
    (case am_Chain_take_out => k_is)
    (case am_Chain_keys_in => k_is)
    (case am_Chain_put => k_is)
    (case cr_Store_init => k_is)
    (case cg_Store_init => k_is)
    (case ca_Store_init => k_is)
    (case im_Store_let_go => k_is)
    (case im_Rounds_go_on => k_is)
    (case im_Store_now => k_is)
    (case im_Store_kept => k_is)
    (case im_Store_look_cell => k_is)
    (case im_Rounds_after_swap => k_is)
    (case im_Store_swap => k_is)
    (case im_Marks_marked => k_is)
    (case im_Marks_sweep => k_is)
    (case im_Marks_after_swap => k_is)
    (case im_Store_look_hand => k_is)
    (case im_Marks_look_mark => k_is)
    (case im_Marks_state_of => k_is)
    (case im_Marks_set_mark => k_is)
    (case im_Marks_fetch => k_is)
    (case im_Counts_holds => k_is)
    (case im_Counts_count_of => k_is)
    (case im_Store_is_out => k_is)
    (case im_Counts_loose => k_is)
    (case im_Counts_after_swap => k_is)
    (case im_Counts_hold => k_is)
    (case im_Versions_version_now => k_is)
    (case im_Versions_trim => k_is)
    (case im_Versions_look_cell => k_is)
    (case im_Versions_kept => k_is)
    (case im_Versions_now => k_is)
    (case im_Versions_look_pairs => k_is)
    (case im_Versions_write => k_is)
    (case im_Chain_go_on => k_is)
    (case im_Chain_len => k_is)
    (case im_Chain_place_of => k_is)
    (case im_Chain_has => k_is)
    (case im_Chain_take_out => k_is)
    (case im_Chain_keys_in => k_is)
    (case im_Chain_put => k_is)
    (case a__law_town => k_is)
    (case l__law_town => k_is)
    (case c__law_town => k_is)
    (case k__law_town => k_is)
    (case a__law_draw => k_is)
    (case l__law_draw => k_is)
    (case c__law_draw => k_is)
    (case k__law_draw => k_is)
    (case a_is_whole => k_is)
    (case l_is_whole => k_is)
    (case c_is_whole => k_is)
    (case k_is_whole => k_is)
    (case a_look_number => k_is)
    (case l_look_number => k_is)
    (case c_look_number => k_is)
    (case k_look_number => k_is)
    (case l_Store_init => k_is)
    (case c_Store_init => k_is)
    (case k_Store_init => k_is)
    (case l_Rounds_init => k_is)
    (case c_Rounds_init => k_is)
    (case k_Rounds_init => k_is)
    (case l_Marks_init => k_is)
    (case c_Marks_init => k_is)
    (case k_Marks_init => k_is)
    (case l_Counts_init => k_is)
    (case c_Counts_init => k_is)
    (case k_Counts_init => k_is)
    (case l_Versions_init => k_is)
    (case lt_Versions_init => k_is)
    (case c_Versions_init => k_is)
    (case k_Versions_init => k_is)
    (case l_Link_init => k_is)
    (case c_Link_init => k_is)
    (case k_Link_init => k_is)
    (case l_Chain_init => k_is)
    (case c_Chain_init => k_is)
    (case k_Chain_init => k_is)
    (case a__law_made => k_is)
    (case l__law_made => k_is)
    (case c__law_made => k_is)
    (case k__law_made => k_is)
    (case a__law_pick => k_is)
    (case l__law_pick => k_is)
    (case c__law_pick => k_is)
    (case k__law_pick => k_is)
    (case a__law_value => k_is)
    (case l__law_value => k_is)
    (case c__law_value => k_is)
    (case k__law_value => k_is)
    (case l_Store_let_go => k_is)
    (case c_Store_let_go => k_is)
    (case k_Store_let_go => k_is)
    (case l_Rounds_go_on => k_is)
    (case c_Rounds_go_on => k_is)
    (case k_Rounds_go_on => k_is)
    (case l_Store_now => k_is)
    (case c_Store_now => k_is)
    (case k_Store_now => k_is)
    (case l_Store_kept => k_is)
    (case c_Store_kept => k_is)
    (case k_Store_kept => k_is)
    (case l_Store_look_cell => k_is)
    (case c_Store_look_cell => k_is)
    (case k_Store_look_cell => k_is)
    (case l_Rounds_after_swap => k_is)
    (case c_Rounds_after_swap => k_is)
    (case k_Rounds_after_swap => k_is)
    (case l_Store_swap => k_is)
    (case c_Store_swap => k_is)
    (case k_Store_swap => k_is)
    (case l_Marks_marked => k_is)
    (case c_Marks_marked => k_is)
    (case k_Marks_marked => k_is)
    (case l_Marks_sweep => k_is)
    (case c_Marks_sweep => k_is)
    (case k_Marks_sweep => k_is)
    (case l_Marks_after_swap => k_is)
    (case c_Marks_after_swap => k_is)
    (case k_Marks_after_swap => k_is)
    (case l_Store_look_hand => k_is)
    (case c_Store_look_hand => k_is)
    (case k_Store_look_hand => k_is)
    (case l_Marks_look_mark => k_is)
    (case c_Marks_look_mark => k_is)
    (case k_Marks_look_mark => k_is)
    (case l_Marks_state_of => k_is)
    (case c_Marks_state_of => k_is)
    (case k_Marks_state_of => k_is)
    (case l_Marks_set_mark => k_is)
    (case c_Marks_set_mark => k_is)
    (case k_Marks_set_mark => k_is)
    (case l_Marks_fetch => k_is)
    (case c_Marks_fetch => k_is)
    (case k_Marks_fetch => k_is)
    (case l_Counts_holds => k_is)
    (case c_Counts_holds => k_is)
    (case k_Counts_holds => k_is)
    (case l_Counts_count_of => k_is)
    (case c_Counts_count_of => k_is)
    (case k_Counts_count_of => k_is)
    (case l_Store_is_out => k_is)
    (case c_Store_is_out => k_is)
    (case k_Store_is_out => k_is)
    (case l_Counts_loose => k_is)
    (case c_Counts_loose => k_is)
    (case k_Counts_loose => k_is)
    (case l_Counts_after_swap => k_is)
    (case c_Counts_after_swap => k_is)
    (case k_Counts_after_swap => k_is)
    (case l_Counts_hold => k_is)
    (case c_Counts_hold => k_is)
    (case k_Counts_hold => k_is)
    (case l_Versions_version_now => k_is)
    (case c_Versions_version_now => k_is)
    (case k_Versions_version_now => k_is)
    (case l_Versions_trim => k_is)
    (case c_Versions_trim => k_is)
    (case k_Versions_trim => k_is)
    (case l_Versions_look_cell => k_is)
    (case c_Versions_look_cell => k_is)
    (case k_Versions_look_cell => k_is)
    (case l_Versions_kept => k_is)
    (case c_Versions_kept => k_is)
    (case k_Versions_kept => k_is)
    (case l_Versions_now => k_is)
    (case c_Versions_now => k_is)
    (case k_Versions_now => k_is)
    (case l_Versions_look_pairs => k_is)
    (case c_Versions_look_pairs => k_is)
    (case k_Versions_look_pairs => k_is)
    (case l_Versions_write => k_is)
    (case c_Versions_write => k_is)
    (case k_Versions_write => k_is)
    (case l_Chain_go_on => k_is)
    (case c_Chain_go_on => k_is)
    (case k_Chain_go_on => k_is)
    (case l_Chain_len => k_is)
    (case c_Chain_len => k_is)
    (case k_Chain_len => k_is)
    (case l_Chain_place_of => k_is)
    (case c_Chain_place_of => k_is)
    (case k_Chain_place_of => k_is)
    (case l_Chain_has => k_is)
    (case c_Chain_has => k_is)
    (case k_Chain_has => k_is)
    (case l_Chain_take_out => k_is)
    (case c_Chain_take_out => k_is)
    (case k_Chain_take_out => k_is)
    (case l_Chain_keys_in => k_is)
    (case c_Chain_keys_in => k_is)
    (case k_Chain_keys_in => k_is)
    (case l_Chain_put => k_is)
    (case c_Chain_put => k_is)
    (case k_Chain_put => k_is)
    (case a__law_tell => k_is)
    (case l__law_tell => k_is)
    (case c__law_tell => k_is)
    (case k__law_tell => k_is)
    (case a_law => k_is)
    (case l_law => k_is)
    (case c_law => k_is)
    (case k_law => k_is)
    (case z_all => k_is)
    (case z_bool => k_is)
    (case z_dict => k_is)
    (case z_int => k_is)
    (case z_isinstance => k_is)
    (case z_len => k_is)
    (case z_list => k_is)
    (case z_max => k_is)
    (case z_range => k_is)
    (case z_set => k_is)
    (case z_sorted => k_is)
    (case z_sum => k_is)
    (case z_tuple => k_is)
    (case zk_END => k_is)
    (case zk_MARKS => k_is)
    (case zk_MOST_CELLS => k_is)
    (case zk_MOST_HANDS_chains => k_is)
    (case zk_MOST_HANDS_stores => k_is)
    (case zk_MOST_KEY => k_is)
    (case zk_MOST_VALUE => k_is)
